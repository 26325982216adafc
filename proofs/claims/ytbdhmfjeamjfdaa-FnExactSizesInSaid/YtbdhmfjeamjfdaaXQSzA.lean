import Derived.Test.YtbdhmfjeamjfdaaXQ0
import Derived.Test.YtbdhmfjeamjfdaaXQMapW
import Derived.DeepKeys4
namespace Go.Proofs.Ytbdhmfjeamjfdaa.Q
open Go.RowKit Go.Proofs.YtbdhmfjeamjfdaaW.PrintWords Go.Proofs.YtbdhmfjeamjfdaaW.PrintLast Go.Proofs.YtbdhmfjeamjfdaaW.PrintMore
set_option linter.unusedVariables false
set_option linter.unusedSimpArgs false
namespace Sz
def encK (p : Int × Int) : Value := .agg #[.int .i8 0, .int .i8 0, .int .i8 p.1, .int .i8 p.2]
def G (p : Int × Int) : Prop := (-128 ≤ p.1 ∧ p.1 ≤ 127) ∧ (-128 ≤ p.2 ∧ p.2 ≤ 127)
theorem wf8k {a : Int} (h : -128 ≤ a ∧ a ≤ 127) : (Lit.int .i8 a).wf = true := by
 have e0 : IntKind.i8.min = -128 := rfl
 have e1 : IntKind.i8.max = 127 := rfl
 simp [Lit.wf, e0, e1, h.1, h.2]
theorem law : Mp.Law Try.prog 48 45 2 encK (Value.int .i64) G 0 where
 keyed := Maps.Keyed.of_law (deep_law_laid (by kernel_rfl) (m := 5) (by decide) (of_decide_eq_true (by kernel_rfl)) (by kernel_rfl) (by kernel_rfl))
 type := Try.underlying48
 zero := fun w => by
  obtain ⟨i0, hi, hz0, hz1, hz2⟩ := info_parts info2
  simp [zeroValue, typeInfo, hi, hz0]
 inj := fun a b h => by
  simp [encK] at h
  exact Prod.ext h.1 h.2
 key := fun a ha => by
  have h1 : Try.prog.keyType 45 = true := by kernel_rfl
  have hs : 2 ≤ Try.prog.types.size + 1 := of_decide_eq_true (by kernel_rfl)
  have hc : Try.prog.cellsOf 45 = 4 := by kernel_rfl
  have hc2 : Try.prog.cellsOf 22 = 1 := by kernel_rfl
  obtain ⟨n, hn⟩ : ∃ n, Try.prog.types.size + 1 = n + 2 := ⟨Try.prog.types.size + 1 - 2, by omega⟩
  have w0 : (Lit.int .i8 0).wf = true := by rfl
  have w1 := wf8k ha.1
  have w2 := wf8k ha.2
  unfold keyOf
  rw [hn]
  simp [Try.underlying45, h1, Value.formed, encK, hc, Value.cells, Program.keyLits, hc2, Try.underlying22, w0, w1, w2]
def key (s : S45) : Int × Int := (s.f2, s.f3)
def cnt (l : List S45) (p : Int × Int) : Int := ((l.filter (fun s => decide (key s = p))).length : Nat)
def own (s : S45) : S45 := ⟨0, 0, s.f2, s.f3⟩
def firsts (l : List S45) : Nat → List S45
 | 0 => []
 | i + 1 => if cnt (l.take i) (key (rd_T45 l i)) = 0 then firsts l i ++ [own (rd_T45 l i)] else firsts l i
instance (p : Int × Int) : Decidable (G p) := by unfold G; infer_instance
def ok (l : List S45) : Prop := l.length ≤ 60 ∧ ∀ s ∈ l, G (key s)
instance (l : List S45) : Decidable (ok l) := by unfold ok; infer_instance
theorem rd_get {l : List S45} {i : Nat} (h : i < l.length) : rd_T45 l i = l[i] := by
 unfold rd_T45
 rw [Int.toNat_natCast, List.getD_eq_getElem?_getD, List.getElem?_eq_getElem h]
 rfl
theorem ok_rd {l : List S45} (h : ok l) {i : Nat} (hi : i < l.length) : G (key (rd_T45 l i)) := h.2 _ (by rw [rd_get hi]; exact List.getElem_mem hi)
theorem cnt_le (l : List S45) (p : Int × Int) : 0 ≤ cnt l p ∧ cnt l p ≤ l.length := by
 have := List.length_filter_le (fun s => decide (key s = p)) l
 unfold cnt
 omega
theorem cnt_take_le (l : List S45) (i : Nat) (p : Int × Int) : 0 ≤ cnt (l.take i) p ∧ cnt (l.take i) p ≤ l.length := by
 have := cnt_le (l.take i) p
 have h : (l.take i).length ≤ l.length := by rw [List.length_take]; omega
 omega
theorem cnt_take {l : List S45} {i : Nat} (h : i < l.length) : cnt (l.take (i + 1)) = Mp.upd (cnt (l.take i)) (key (rd_T45 l i)) (cnt (l.take i) (key (rd_T45 l i)) + 1) := by
 funext p
 rw [List.take_succ_eq_append_getElem h, ← rd_get h]
 unfold cnt Mp.upd
 rw [List.filter_append, List.length_append]
 by_cases c : p = key (rd_T45 l i)
 ·
  subst c
  simp
 · simp [c, Ne.symm c]
theorem cnt_zero : cnt (([] : List S45)) = fun _ => 0 := rfl
theorem firsts_len (l : List S45) : ∀ i, (firsts l i).length ≤ i
 | 0 => Nat.le_refl _
 | i + 1 => by
  have := firsts_len l i
  rw [firsts]
  split
  · rw [List.length_append, List.length_singleton]; omega
  · omega
theorem firsts_ok {l : List S45} (h : ok l) : ∀ i, i ≤ l.length → ∀ s ∈ firsts l i, G (key s)
 | 0, _, s, hs => by cases hs
 | i + 1, hi, s, hs => by
  rw [firsts] at hs
  split at hs
  ·
   rcases List.mem_append.1 hs with hs | hs
   · exact firsts_ok h i (by omega) s hs
   ·
    rw [List.mem_singleton] at hs
    subst hs
    exact ok_rd h (by omega)
  · exact firsts_ok h i (by omega) s hs
theorem firsts_own {l : List S45} : ∀ i, ∀ s ∈ firsts l i, s.f0 = 0 ∧ s.f1 = 0
 | 0, s, hs => by cases hs
 | i + 1, s, hs => by
  rw [firsts] at hs
  split at hs
  ·
   rcases List.mem_append.1 hs with hs | hs
   · exact firsts_own i s hs
   ·
    rw [List.mem_singleton] at hs
    subst hs
    exact ⟨rfl, rfl⟩
  · exact firsts_own i s hs
theorem key_own (s : S45) : key (own s) = key s := rfl
theorem enc_key (s : S45) : encK (key s) = .agg #[.int .i8 0, .int .i8 0, .int .i8 s.f2, .int .i8 s.f3] := rfl
section
variable {P : Program} {ops : Array Oper} {rest : List Oper} {o : Oper} {a : Act} {Q : Exit → Act → World → Prop} {W : World}
theorem make_event (hgd : o.guard = none) {N : Tmp} (_hd : o.dst = some N) {t k e : TypeId} (ho : o.op = .makeMap t none) (hu : P.underlying t = some (.map k e))
  (h : ∀ m w1, m = W.heap.size → w1.heap[m]? = some (.map #[] 0) → Below W.heap.size W w1 → wpList P ops Q rest (a.put o.dst (.map (some m))) w1) : wpList P ops Q (o :: rest) a W := by
 refine Kd.event_run hgd (v := .map (some W.heap.size)) (w1 := W.alloc (.map #[] 0)) ?_ (h _ _ rfl (MapKept.heap_alloc W _).1 (below_alloc (Below.refl _ _) _))
 simp [execOp, ho, Instr.makeMap]
theorem look_event {t k e : TypeId} {α β : Type} {encK : α → Value} {encV : β → Value} {G : α → Prop} {z : β} (L : Mp.Law P t k e encK encV G z) (hgd : o.guard = none) {N : Tmp} (_hd : o.dst = some N) {x y : Operand} (ho : o.op = .lookup t x y false)
  {b n : Nat} {f : α → β} (hI : Mp.Is encK encV G z W b n f) {p : α} (hp : G p) (hx : a.eval x = .map (some b)) (hy : a.eval y = encK p) (h : wpList P ops Q rest (a.put o.dst (encV (f p))) W) : wpList P ops Q (o :: rest) a W := by
 refine Kd.event_run hgd (v := encV (f p)) (w1 := W) ?_ h
 simp [execOp, ho, hx, hy, hI.look L hp, Result.andThen]
end
theorem of_empty {W : World} {m : Nat} (h : W.heap[m]? = some (.map #[] 0)) : Mp.Is encK (Value.int .i64) G 0 W m 0 (fun _ => 0) := ⟨#[], 0, h, MapKept.stamped_empty 0, Nat.le_refl _, by simp, fun _ _ _ => rfl⟩
theorem is_blk {W W' : World} {b n : Nat} {f : Int × Int → Int} (h : Mp.Is encK (Value.int .i64) G 0 W b n f) (hg : Below W.heap.size W W') : Mp.Is encK (Value.int .i64) G 0 W' b n f := h.kept (hg.block b h.lt)
theorem is_alloc {W : World} {b n : Nat} {f : Int × Int → Int} (h : Mp.Is encK (Value.int .i64) G 0 W b n f) (o : Obj) : Mp.Is encK (Value.int .i64) G 0 (W.alloc o) b n f := is_blk h (below_alloc (Below.refl _ _) o)
theorem not_cells {W : World} {b n : Nat} {f : Int × Int → Int} (h : Mp.Is encK (Value.int .i64) G 0 W b n f) {cs : Array Value} {t : TypeId} {q : Nat × Nat} : W.heap[b]? ≠ some (.cells cs t q) := by
 obtain ⟨es, clock, hb, _⟩ := h
 rw [hb]
 intro e
 cases e
theorem is_grown {α : Type} {d : Kd α} {e base : Nat} {okp : Nat → Prop} {v : Value} {xs : List α} {W W' : World} {b n : Nat} {f : Int × Int → Int} (h : Mp.Is encK (Value.int .i64) G 0 W b n f) (hr : d.R e W base okp v xs) (hg : W.grownBy W' v.ownBlock) : Mp.Is encK (Value.int .i64) G 0 W' b n f := by
 refine h.kept (hg.block b h.lt fun e1 => ?_)
 obtain ⟨cs, hc⟩ := Kd.R_typed hr b e1.symm
 exact not_cells h hc
theorem row_off {α : Type} {d : Kd α} {e base : Nat} {okp : Nat → Prop} {v : Value} {xs : List α} {W : World} {b n : Nat} {f : Int × Int → Int} (hr : d.R e W base okp v xs) (h : Mp.Is encK (Value.int .i64) G 0 W b n f) : d.R e W base (fun k => okp k ∧ k ≠ b) v xs := by
 refine Kd.R_mono (Kd.R_bound hr) fun k hk => ⟨hk.1, ?_⟩
 rintro rfl
 obtain ⟨_, _, _, q, _, cs, hc⟩ := hk
 exact not_cells h hc
theorem row_grown {α : Type} {d : Kd α} {e base : Nat} {v : Value} {xs : List α} {W W' : World} {b n : Nat} {f : Int × Int → Int} (hr : d.R e W base (fun _ => True) v xs) (h : Mp.Is encK (Value.int .i64) G 0 W b n f) (hg : W.grownBy W' (some b)) : d.R e W' base (fun _ => True) v xs :=
 Kd.R_mono (Kd.R_grown (row_off hr h) hg (fun k hk e1 => hk.2 (Option.some.inj e1))) (fun _ _ => trivial)
theorem own_there (W : World) (A B : Obj) : ((W.alloc A).alloc B).heap[W.heap.size + 1]? = some B := by
 have := blk_new (W.alloc A) B
 rwa [World.size_alloc] at this
theorem own_kept {W W' : World} {A B : Obj} {v : Value} (hg : ((W.alloc A).alloc B).grownBy W' v.ownBlock) (hv : ∀ k, v.ownBlock = some k → k < W.heap.size) : W'.heap[W.heap.size + 1]? = some B :=
 blk_grown (own_there W A B) hg (fun e => by have := hv _ e.symm; omega)
theorem is_drew {W : World} {b n : Nat} {f : Int × Int → Int} (h : Mp.Is encK (Value.int .i64) G 0 W b n f) : Mp.Is encK (Value.int .i64) G 0 W.drew b n f := h
end Sz
end Go.Proofs.Ytbdhmfjeamjfdaa.Q
