/- Words: whole runs of cells, read and written at an offset of a block. -/
import Derived.Test.YteinapckfhpdkaaDoorXQ0
import Derived.Test.YteinapckfhpdkaaDoorXQWd
import Derived.Deep.MidRow
namespace Go.Proofs.YteinapckfhpdkaaDoor.Q
open Go.RowKit Go.Proofs.YteinapckfhpdkaaDoorW.PrintWords Go.Proofs.YteinapckfhpdkaaDoorW.PrintLast Go.Proofs.YteinapckfhpdkaaDoorW.PrintMore
set_option linter.unusedVariables false
set_option linter.unusedSimpArgs false
namespace Sg
theorem cell_of {w : World} {g : Nat} {t : TypeId} {cs : List Value} (h : w.heap[g]? = some (.cells cs.toArray t (0, 0))) (j : Nat) : w.cell? ⟨g, j, none⟩ = cs[j]? := (blk_cell h j).trans (List.getElem?_toArray ..)
theorem there_of {w : World} {g : Nat} {t : TypeId} {cs : List Value} (h : w.heap[g]? = some (.cells cs.toArray t (0, 0))) {off n : Nat} (hn : off + n ≤ cs.length) : w.there g off n := fun j hj => ⟨by rw [cell_of h, List.getElem?_eq_getElem (by omega)]; rfl, blk_frozen h _⟩
theorem range_seg {w : World} {g : Nat} {te : TypeId} {cs : List Value} (h : w.heap[g]? = some (.cells cs.toArray te (0, 0))) (off n : Nat) : w.rangeAt g off ((cs.drop off).take n) := fun j v hv => by
 have hj : j < n := by have := (List.getElem?_eq_some_iff.1 hv).1; rw [List.length_take] at this; omega
 rw [cell_of h, ← hv, List.getElem?_take_of_lt hj, List.getElem?_drop]
section
variable {P : Program} {ops : Array Oper} {rest : List Oper} {o : Oper} {a : Act} {Q : Exit → Act → World → Prop} {W : World}
theorem box_seg (hgd : o.guard = none) {N : Tmp} (_hd : o.dst = some N) {t : TypeId} {x : Operand} (ho : o.op = .box t x) {cs : List Value} (hx : a.eval x = .agg cs.toArray)
  (h : ∀ g, g = W.heap.size → ∀ w1, w1.heap[g]? = some (.cells cs.toArray t (0, 0)) → Below W.heap.size W w1 → wpList P ops Q rest (a.put o.dst (.pointer (some ⟨g, 0, none⟩))) w1) : wpList P ops Q (o :: rest) a W := by
 refine box_event hgd _hd (cs := cs.toArray) (t := t) ?_ h
 simp [execOp, ho, hx, Instr.box, newVar, newRow, newObj, Value.cells, Result.andThen]
 rfl
theorem alloc_seg (hgd : o.guard = none) {N : Tmp} (_hd : o.dst = some N) {t : TypeId} (ho : o.op = .alloc t) {cs : List Value} (hz : (P.info? t).map (fun i => i.zero) = some (some (.agg cs.toArray)))
  (h : ∀ g, g = W.heap.size → ∀ w1, w1.heap[g]? = some (.cells cs.toArray t (0, 0)) → Below W.heap.size W w1 → wpList P ops Q rest (a.put o.dst (.pointer (some ⟨g, 0, none⟩))) w1) : wpList P ops Q (o :: rest) a W := by
 refine box_event hgd _hd (cs := cs.toArray) (t := t) ?_ h
 obtain ⟨i, hi, hz⟩ := Option.map_eq_some_iff.1 hz
 simp [execOp, ho, Instr.alloc, zeroValue, typeInfo, hi, hz, newVar, newRow, newObj, Value.cells, Result.andThen]
 rfl
theorem load_seg (hgd : o.guard = none) {N : Tmp} (_hd : o.dst = some N) {t te : TypeId} {x : Operand} (ho : o.op = .load t x) {g off n : Nat} {cs : List Value} (hp : a.eval x = .pointer (some ⟨g, off, none⟩)) (hB : W.heap[g]? = some (.cells cs.toArray te (0, 0))) (hn : off + n ≤ cs.length) {d : TypeDesc} (hu : P.underlying t = some d) (hd : d.isRow = true) (hi : (P.info? t).map (·.size) = some n)
  (h : wpList P ops Q rest (a.put o.dst (.agg ((cs.drop off).take n).toArray)) W) : wpList P ops Q (o :: rest) a W := by
 have hl : ((cs.drop off).take n).length = n := by rw [List.length_take, List.length_drop]; omega
 refine wpList_load_mid hgd t x ho g off hp ((cs.drop off).take n) d (fun j v hv => ?_) hu hd (by rw [hl]; exact hi) h
 have hj : j < n := by have := (List.getElem?_eq_some_iff.1 hv).1; omega
 rw [cell_of hB, ← hv, List.getElem?_take_of_lt hj, List.getElem?_drop]
theorem store_seg (hgd : o.guard = none) (hN : o.dst = none) {t te : TypeId} {p : Tmp} {v : Operand} (ho : o.op = .store t (.tmp p) v) {g off : Nat} {cs seg : List Value} {u : Value} (hp : a.eval (.tmp p) = .pointer (some ⟨g, off, none⟩)) (hv : a.eval v = u) (hu : u.cells.toList = seg) (hB : W.heap[g]? = some (.cells cs.toArray te (0, 0))) (hfit : off + seg.length ≤ cs.length) (hi : (P.info? t).map (·.size) = some seg.length) (h1 : ∀ q ∈ seg, q.oneCell' = true)
  (h : ∀ w1, W.grownBy w1 (some g) → w1.heap[g]? = some (.cells (cs.take off ++ seg ++ cs.drop (off + seg.length)).toArray te (0, 0)) → wpList P ops Q rest a w1) : wpList P ops Q (o :: rest) a W := by
 have hr := run_store_run (P := P) (w := W) t u seg hB hu hi (by simpa using hfit) h1
 refine store_event (w1 := W.setCells g off seg) hgd ho hN (by simp [execOp, ho, hp, hv, hr, Result.andThen]) (fun w' hw => ?_)
 subst hw
 obtain ⟨s1, s2, s3, s4⟩ := setCells_same g seg off W
 obtain ⟨cur', h3, h4, h5⟩ := setCells_row seg off W cs.toArray hB (by simpa using hfit)
 refine h _ ⟨s1, s2, s3, by rw [s4]; exact Nat.le_refl _, fun k _ hk => setCells_far _ _ k (fun he => hk (by rw [he]))⟩ ?_
 rw [h3]
 have : cur' = (cs.take off ++ seg ++ cs.drop (off + seg.length)).toArray := by
  apply Array.toList_inj.1
  rw [h5]
 rw [this]
theorem load_run {t te : TypeId} {x : Operand} (ho : o.op = .load t x) {g off n : Nat} {cs seg : List Value} (hp : a.eval x = .pointer (some ⟨g, off, none⟩)) (hB : W.heap[g]? = some (.cells cs.toArray te (0, 0))) (hs : (cs.drop off).take n = seg) (hl : seg.length = n) {d : TypeDesc} (hu : P.underlying t = some d) (hd : d.isRow = true) (hi : (P.info? t).map (·.size) = some n) :
  (execOp a.eval o).run P W = .ok (.value (.agg seg.toArray)) W := by
 have h := range_seg hB off n
 rw [hs] at h
 have hr := run_loadAt_mid W g off t seg d h hu hd (by rw [hl]; exact hi)
 simp [execOp, ho, hp, hr, Result.andThen]
theorem load_all (hgd : o.guard = none) {N : Tmp} (_hd : o.dst = some N) {t te : TypeId} {x : Operand} (ho : o.op = .load t x) {g n : Nat} {cs : List Value} (hp : a.eval x = .pointer (some ⟨g, 0, none⟩)) (hB : W.heap[g]? = some (.cells cs.toArray te (0, 0))) (hn : cs.length = n) {d : TypeDesc} (hu : P.underlying t = some d) (hd : d.isRow = true) (hi : (P.info? t).map (·.size) = some n)
  (h : wpList P ops Q rest (a.put o.dst (.agg cs.toArray)) W) : wpList P ops Q (o :: rest) a W :=
 load_seg hgd _hd ho hp hB (off := 0) (n := n) (by omega) hu hd hi (by rw [List.drop_zero, List.take_of_length_le (by omega)]; exact h)
theorem store_all (hgd : o.guard = none) (hN : o.dst = none) {t te : TypeId} {p : Tmp} {v : Operand} (ho : o.op = .store t (.tmp p) v) {g n : Nat} {cs seg : List Value} (hp : a.eval (.tmp p) = .pointer (some ⟨g, 0, none⟩)) (hv : a.eval v = .agg seg.toArray) (hB : W.heap[g]? = some (.cells cs.toArray te (0, 0))) (hn : cs.length = n) (hn2 : seg.length = n) (hi : (P.info? t).map (·.size) = some n) (h1 : ∀ q ∈ seg, q.oneCell' = true)
  (h : ∀ w1, W.grownBy w1 (some g) → w1.heap[g]? = some (.cells seg.toArray te (0, 0)) → wpList P ops Q rest a w1) : wpList P ops Q (o :: rest) a W :=
 store_seg hgd hN ho hp hv (seg := seg) rfl hB (off := 0) (by omega) (by rw [hn2]; exact hi) h1 (fun w1 hg hb => h w1 hg (by rw [hb, List.take_zero, List.nil_append, List.drop_of_length_le (by omega), List.append_nil]))
end
theorem blk_grown {w w1 : World} {g g' : Nat} {o : Obj} (h : w.heap[g]? = some o) (hg : w.grownBy w1 (some g')) (hne : g ≠ g') : w1.heap[g]? = some o := (hg.block g (blk_lt h) (fun e => hne (Option.some.inj e))).trans h
theorem below_grown {B : Nat} {w0 w w1 : World} {g : Nat} (h : Below B w0 w) (hg : w.grownBy w1 (some g)) (hB : B ≤ w.heap.size) (hr : B ≤ g) : Below B w0 w1 := Below.grown h hg hB (fun k hk => by cases hk; exact hr)
end Sg
end Go.Proofs.YteinapckfhpdkaaDoor.Q
