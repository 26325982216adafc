/- Words of our own that the printed texts use: a captured variable as a row of one element; a whole array in a block of its own. -/
import Derived.Test.YtljfjljeabcfgaaProg
import Derived.Below
import Derived.Deep.Draws
import Derived.Deep.AppendLies
import Derived.Maps.AppendAt
import Derived.OwnWalk
import Derived.Laws.BytesArg
import Derived.Laws.MakeOwn
import Derived.Laws.OwnMore
import Derived.Deep.OwnRows
import Derived.Tactics
import Derived.Lib.ConvBytes
import Derived.Laws.Slices
import Derived.WalkKit
import Derived.KernelRfl
import Derived.RowKit3
import Derived.Deep.LoopGhost
import Derived.Deep.QuietTactic
import Derived.BigQuiet
import Derived.WideLaws
import Derived.Deep.DeepCutAuto
import Derived.Deep.CutBlock
import Derived.Deep.RegionHeld3
import Derived.Laws.Rows
import Derived.Lib.AppendStr
import Derived.ArgAppend
import Derived.Laws.IdiomCopy
import Derived.OrdersHeld
import Derived.Laws.BitsLemmas
import Derived.Lib.SliceRun
import Derived.RowKit
import Derived.Laws.Rows
import Derived.Laws.Tables
import Derived.Test.YtljfjljeabcfgaaXWWords
import Derived.Test.YtljfjljeabcfgaaXWLast
import Derived.Test.YtljfjljeabcfgaaXWTab
import Derived.Test.YtljfjljeabcfgaaXWApart
import Derived.Test.YtljfjljeabcfgaaXWArr
import Derived.Test.YtljfjljeabcfgaaXWFoot
import Derived.Test.YtljfjljeabcfgaaXWKept
import Derived.Test.YtljfjljeabcfgaaXWShare
import Derived.Test.YtljfjljeabcfgaaXWN
import Derived.Test.YtljfjljeabcfgaaXWEqStruct
import Derived.Test.YtljfjljeabcfgaaXWRepsOne
import Derived.Test.YtljfjljeabcfgaaXWGuard
import Derived.Test.YtljfjljeabcfgaaXWMore
namespace Go.Proofs.Ytljfjljeabcfgaa.Q
open Go.RowKit Go.Proofs.YtljfjljeabcfgaaW.PrintWords Go.Proofs.YtljfjljeabcfgaaW.PrintLast Go.Proofs.YtljfjljeabcfgaaW.PrintMore
set_option linter.unusedVariables false
set_option linter.unusedSimpArgs false
theorem Kd.C_one_ {α : Type} {d : Kd α} {w : World} {g t : Nat} {cs : List Value} {x : α} (h : w.heap[g]? = some (.cells cs.toArray t (0, 0))) (hk : d.K w x cs) : Kd.C d w (some ⟨g, 0, none⟩) 1 [x] := by
 refine ⟨rfl, by decide, fun _ => ⟨_, rfl, fun j p hj => ?_⟩⟩
 obtain ⟨hl, he⟩ := List.getElem?_eq_some_iff.1 hj
 have h0 : j = 0 := by simp at hl; omega
 subst h0
 have hx : x = p := by simpa using he
 subst hx
 refine ⟨cs, d.K_len hk, hk, fun i u hu => ?_⟩
 rw [Nat.zero_mul, Nat.zero_add]
 have ha : (⟨g, 0, none⟩ : Addr).add i = ⟨g, i, none⟩ := by unfold Addr.add; split <;> simp_all
 rw [ha, blk_cell h]
 simpa using hu
theorem Kd.K_row_ {α : Type} {d : Kd α} {e : Nat} {w : World} {A : Option Addr} {c : Nat} {xs : List α} (hc : xs.length ≤ c) (h : Kd.C d w A xs.length xs) : (Kd.slice e d).K w xs [.slice A xs.length c] := ⟨A, c, rfl, hc, h⟩
theorem own_len_ (A : Option Addr) (n m c c' : Nat) : (Value.slice A n c).ownBlock = (Value.slice A m c').ownBlock := by cases A <;> rfl
def arrZ (n : Nat) : List Int := List.replicate n 0
theorem arrZ_length (n : Nat) : (arrZ n).length = n := List.length_replicate
def arrC (k : IntKind) (l : List Int) : Array Value := (l.map (Value.int k)).toArray
theorem arrC_size (k : IntKind) (l : List Int) : (arrC k l).size = l.length := by simp [arrC]
theorem arrC_all (k : IntKind) (l : List Int) : (arrC k l).all (·.oneCell') = true := by
 rw [Array.all_eq_true_iff_forall_mem]
 intro v hv
 simp only [arrC, List.mem_toArray, List.mem_map] at hv
 obtain ⟨x, _, rfl⟩ := hv
 rfl
theorem arrC_set (k : IntKind) (l : List Int) (j : Nat) (x : Int) : (arrC k l).setIfInBounds j (.int k x) = arrC k (l.set j x) := by simp [arrC, List.map_set]
theorem arr_C {w : World} {g : Nat} {t : TypeId} {k : IntKind} {l : List Int} (h : w.heap[g]? = some (.cells (arrC k l) t (0, 0))) (hl : l.length ≤ 9223372036854775807) : Kd.C (Kd.int k) w (some ⟨g, 0, none⟩) l.length l := by
 refine ⟨rfl, hl, fun _ => ⟨_, rfl, fun j p hp => ⟨[.int k p], rfl, rfl, fun i u hu => ?_⟩⟩⟩
 obtain ⟨hj, rfl⟩ := List.getElem?_eq_some_iff.1 hp
 obtain rfl : i = 0 := by
  rcases i with _ | i
  · rfl
  · simp at hu
 obtain rfl := Option.some.inj hu
 show w.cell? (Addr.add ⟨g, 0, none⟩ (j * 1 + 0)) = _
 rw [Addr.add_lit, blk_cell h]
 simp [arrC, hj]
theorem arr_cell {w : World} {g : Nat} {t : TypeId} {k : IntKind} {l : List Int} (h : w.heap[g]? = some (.cells (arrC k l) t (0, 0))) (i : Int) (j : Nat) (hj : (j : Int) = i) (hl : i < l.length) : w.cell? ⟨g, j, none⟩ = some (.int k (rd l i)) := by
 subst hj
 have hl' : j < l.length := by omega
 rw [blk_cell h]
 simp [arrC, rd, List.getElem?_eq_getElem hl']
theorem setCell_grown (w : World) (p : Addr) (u : Value) : w.grownBy (w.setCell p u) (some p.block) := ⟨rfl, rfl, rfl, by simp [World.setCell], fun k _ hk => Below.heap_setCell w p u k (fun e => hk (by rw [e]))⟩
theorem setRow_grown (w : World) (g : Nat) (cs : Array Value) : w.grownBy (w.setRow g cs) (some g) := by
 refine ⟨rfl, rfl, rfl, by simp [World.setRow], fun k hk hne => ?_⟩
 have h : g ≠ k := fun e => hne (by rw [e])
 simp [World.setRow, Array.getElem?_modify, h]
section
variable {P : Program} {ops : Array Oper} {rest : List Oper} {o : Oper} {a : Act} {Q : Exit → Act → World → Prop} {W : World}
theorem value_event_ (hgd : o.guard = none) {v : Value} {W1 : World} (hrun : (execOp a.eval o).run P W = .ok (.value v) W1) (h : wpList P ops Q rest (a.put o.dst v) W1) : wpList P ops Q (o :: rest) a W := Kd.event_run hgd hrun h
theorem arr_alloc {t : TypeId} (ho : o.op = .alloc t) (k : IntKind) (n : Nat) (hz : (P.info? t).map (fun i => i.zero) = some (some (.agg (arrC k (arrZ n))))) : (execOp a.eval o).run P W = .ok (.value (.pointer (some ⟨W.heap.size, 0, none⟩))) (W.alloc (.cells (arrC k (arrZ n)) t (0, 0))) := by
 obtain ⟨i, hi, hz⟩ := Option.map_eq_some_iff.1 hz
 simp [execOp, ho, Instr.alloc, zeroValue, typeInfo, hi, hz, newVar, newRow, newObj, Value.cells, Result.andThen]
 rfl
theorem arr_build (hgd : o.guard = none) {N : Tmp} (_hd : o.dst = some N) {t : TypeId} (ho : o.op = .build t #[]) (k : IntKind) (n : Nat) {m : Nat} {e : TypeId} (hu : P.underlying t = some (.array m e)) (hz : (P.info? t).map (fun i => i.zero) = some (some (.agg (arrC k (arrZ n))))) (he : ((P.info? e).map (fun i => i.size)).isSome = true)
  (h : wpList P ops Q rest (a.put o.dst (.agg (arrC k (arrZ n)))) W) : wpList P ops Q (o :: rest) a W := by
 refine value_event_ hgd ?_ h
 obtain ⟨i, hi, hz⟩ := Option.map_eq_some_iff.1 hz
 cases hq : P.info? e with
 | none => simp [hq] at he
 | some ie => simp [execOp, ho, Instr.build, zeroValue, typeInfo, hi, hz, run_underlying hu, sizeOf, hq, Value.cells, Instr.fill, Result.andThen]
theorem arr_load (hgd : o.guard = none) {N : Tmp} (_hd : o.dst = some N) {t te : TypeId} {p : Tmp} (ho : o.op = .load t (.tmp p)) {g : Nat} {k : IntKind} {l : List Int} (hp : a.eval (.tmp p) = .pointer (some ⟨g, 0, none⟩)) (hB : W.heap[g]? = some (.cells (arrC k l) te (0, 0))) {m : Nat} {e : TypeId} (hu : P.underlying t = some (.array m e)) {n : Nat} (hi : (P.info? t).map (·.size) = some n) (hl : l.length = n)
  (h : wpList P ops Q rest (a.put o.dst (.agg (arrC k l))) W) : wpList P ops Q (o :: rest) a W := by
 refine value_event_ hgd ?_ h
 have hr := run_loadVar_row (P := P) W g te t (arrC k l) (0, 0) _ hB hu rfl (by rw [arrC_size, hl]; exact hi)
 simp [execOp, ho, hp, Instr.loadAt, Instr.sureAddr, hr, Result.andThen]
theorem arr_store (hgd : o.guard = none) (hN : o.dst = none) {t : TypeId} {p : Tmp} {v : Operand} (ho : o.op = .store t (.tmp p) v) {g : Nat} {k : IntKind} {l l2 : List Int} (hp : a.eval (.tmp p) = .pointer (some ⟨g, 0, none⟩)) (hv : a.eval v = .agg (arrC k l2)) (hB : W.heap[g]? = some (.cells (arrC k l) t (0, 0))) {n : Nat} (hi : (P.info? t).map (·.size) = some n) (hl : l.length = n) (hl2 : l2.length = n)
  (h : ∀ w1, W.grownBy w1 (some g) → w1.heap[g]? = some (.cells (arrC k l2) t (0, 0)) → wpList P ops Q rest a w1) : wpList P ops Q (o :: rest) a W := by
 have hr := run_storeVar_row (P := P) W g t t (arrC k l) (arrC k l2) hB (by rw [arrC_size, hl2]; exact hi) (by rw [arrC_size, arrC_size, hl, hl2]) (arrC_all k l2)
 refine store_event (w1 := W.setRow g (arrC k l2)) hgd ho hN (by simp [execOp, ho, hp, hv, Instr.storeAt, Instr.sureAddr, hr, Result.andThen]) (fun w' hw => ?_)
 subst hw
 exact h _ (setRow_grown W g _) (setRow_heap W g _ _ t (0, 0) hB)
theorem arr_get (hgd : o.guard = none) {N : Tmp} (_hd : o.dst = some N) {p : Tmp} {g j : Nat} {t : TypeId} {k : IntKind} {l : List Int} {i : Int} (hp : a.eval (.tmp p) = .pointer (some ⟨g, j, none⟩)) (hB : W.heap[g]? = some (.cells (arrC k l) t (0, 0))) (hj : (j : Int) = i) (hl : i < l.length)
  (hr : W.cell? ⟨g, j, none⟩ = some (.int k (rd l i)) → (execOp a.eval o).run P W = .ok (.value (.int k (rd l i))) W) (h : wpList P ops Q rest (a.put o.dst (.int k (rd l i))) W) : wpList P ops Q (o :: rest) a W :=
 value_event_ hgd (hr (arr_cell hB i j hj hl)) h
theorem arr_put (hgd : o.guard = none) (hN : o.dst = none) {t te : TypeId} {p : Tmp} {v : Operand} (ho : o.op = .store te (.tmp p) v) {g j : Nat} {k : IntKind} {l : List Int} {i x : Int} (hp : a.eval (.tmp p) = .pointer (some ⟨g, j, none⟩)) (hB : W.heap[g]? = some (.cells (arrC k l) t (0, 0))) (hj : (j : Int) = i) (hl : i < l.length)
  (hr : W.cell? ⟨g, j, none⟩ = some (.int k (rd l i)) → W.frozen? ⟨g, j, none⟩ = false → (execOp a.eval o).run P W = .ok .skip (W.setCell ⟨g, j, none⟩ (.int k x)))
  (h : ∀ w1, W.grownBy w1 (some g) → w1.heap[g]? = some (.cells (arrC k (l.set i.toNat x)) t (0, 0)) → wpList P ops Q rest a w1) : wpList P ops Q (o :: rest) a W := by
 have hr' := hr (arr_cell hB i j hj hl) (blk_frozen hB j)
 refine store_event (w1 := W.setCell ⟨g, j, none⟩ (.int k x)) hgd ho hN hr' (fun w' hw => ?_)
 subst hw
 refine h _ (setCell_grown W ⟨g, j, none⟩ _) ?_
 have hi : i.toNat = j := by omega
 rw [hi]
 exact blk_put hB j _ (arrC_set k l j x)
theorem arr_put_step {Kc : Act → World → Prop} (hw : Region.wanted o (yielded ops a.tmps) = true) (hN : o.dst = none) {t te : TypeId} {p : Tmp} {v : Operand} (ho : o.op = .store te (.tmp p) v) {g j : Nat} {k : IntKind} {l : List Int} {i x : Int} (hp : a.eval (.tmp p) = .pointer (some ⟨g, j, none⟩)) (hB : W.heap[g]? = some (.cells (arrC k l) t (0, 0))) (hj : (j : Int) = i) (hl : i < l.length)
  (hr : W.cell? ⟨g, j, none⟩ = some (.int k (rd l i)) → W.frozen? ⟨g, j, none⟩ = false → (execOp a.eval o).run P W = .ok .skip (W.setCell ⟨g, j, none⟩ (.int k x)))
  (h : ∀ w1, W.grownBy w1 (some g) → w1.heap[g]? = some (.cells (arrC k (l.set i.toNat x)) t (0, 0)) → Kc a w1) : if Region.wanted o (yielded ops a.tmps) = true then Oper.wp P o a W Kc Q else Kc (a.put o.dst undef) W := by
 have hr' := hr (arr_cell hB i j hj hl) (blk_frozen hB j)
 rw [if_pos hw]
 unfold Oper.wp
 rw [hr']
 have hi : i.toNat = j := by omega
 have h2 := h (W.setCell ⟨g, j, none⟩ (.int k x)) (setCell_grown W ⟨g, j, none⟩ _) (by rw [hi]; exact blk_put hB j _ (arrC_set k l j x))
 show Kc (a.put o.dst undef) _
 rw [hN]
 exact h2
end
end Go.Proofs.Ytljfjljeabcfgaa.Q
