/- What impl.PiecesOf keeps in its map and its rows: which slabs have been met, the piece that grows. -/
import Derived.Test.YtljfjljeabcfgaaXQ0
import Derived.Test.YtljfjljeabcfgaaXQMapW
import Derived.Maps.Keyed
namespace Go.Proofs.Ytljfjljeabcfgaa.Q
open Go.RowKit Go.Proofs.YtljfjljeabcfgaaW.PrintWords Go.Proofs.YtljfjljeabcfgaaW.PrintLast Go.Proofs.YtljfjljeabcfgaaW.PrintMore
set_option linter.unusedVariables false
set_option linter.unusedSimpArgs false
namespace Pc
def encK (a : Int) : Value := .int .i64 a
def G (a : Int) : Prop := 0 ≤ a ∧ a ≤ 1000
abbrev Is := Go.Mp.Is encK Value.bool G false
theorem law : Go.Mp.Law Try.prog 47 2 4 encK Value.bool G false where
 keyed := Go.Maps.int_keyed Try.underlying2
 type := Try.underlying47
 zero := fun w => by
  obtain ⟨i0, hi, hz0, hz1, hz2⟩ := info_parts info4
  simp [zeroValue, typeInfo, hi, hz0]
 inj := fun a b h => by injection h
 key := fun a ha => ⟨_, Go.Maps.keyOf_int_mk Try.underlying2 (by
  have e0 : IntKind.i64.min = -9223372036854775808 := rfl
  have e1 : IntKind.i64.max = 9223372036854775807 := rfl
  simp only [Lit.wf, e0, e1, Bool.and_eq_true, decide_eq_true_eq]
  unfold G at ha
  omega)⟩
section
variable {P : Program} {ops : Array Oper} {rest : List Oper} {o : Oper} {a : Act} {Q : Exit → Act → World → Prop} {W : World}
theorem make_event (hgd : o.guard = none) {N : Tmp} (_hd : o.dst = some N) {t k e : TypeId} (ho : o.op = .makeMap t none) (hu : P.underlying t = some (.map k e))
  (h : ∀ m w1, m = W.heap.size → w1.heap[m]? = some (.map #[] 0) → Below W.heap.size W w1 → wpList P ops Q rest (a.put o.dst (.map (some m))) w1) : wpList P ops Q (o :: rest) a W := by
 refine Kd.event_run hgd (v := .map (some W.heap.size)) (w1 := W.alloc (.map #[] 0)) ?_ (h _ _ rfl (MapKept.heap_alloc W _).1 (below_alloc (Below.refl _ _) _))
 simp [execOp, ho, Instr.makeMap]
end
theorem look_event {ops : Array Oper} {rest : List Oper} {o : Oper} {a : Act} {Q : Exit → Act → World → Prop} {W : World} (hgd : o.guard = none) {N : Tmp} (_hd : o.dst = some N) {x y : Operand} (ho : o.op = .lookup 47 x y false)
  {b n : Nat} {f : Int → Bool} (hI : Is W b n f) {p : Int} (hp : G p) {v : Bool} (hx : a.eval x = .map (some b)) (hy : a.eval y = .int .i64 p) (hf : f p = v) (h : wpList Try.prog ops Q rest (a.put o.dst (.bool v)) W) : wpList Try.prog ops Q (o :: rest) a W := by
 have hl := hI.look law hp
 rw [hf] at hl
 replace hl : (Instr.lookup 47 (.map (some b)) (.int .i64 p) false).run Try.prog W = .ok (.bool v) W := hl
 refine Kd.event_run hgd (w1 := W) ?_ h
 simp [execOp, ho, hx, hy, hl, Result.andThen]
theorem update_event {ops : Array Oper} {rest : List Oper} {o : Oper} {a : Act} {Q : Exit → Act → World → Prop} {W : World} (hgd : o.guard = none) (hN : o.dst = none) {x y z : Operand} (ho : o.op = .mapUpdate 47 x y z)
  {b n : Nat} {f : Int → Bool} (hI : Is W b n f) {p : Int} (hp : G p) {v : Bool} (hx : a.eval x = .map (some b)) (hy : a.eval y = .int .i64 p) (hz : a.eval z = .bool v)
  (h : ∀ w1, Is w1 b (n + 1) (Go.Mp.upd f p v) → W.grownBy w1 (some b) → wpList Try.prog ops Q rest a w1) : wpList Try.prog ops Q (o :: rest) a W := by
 obtain ⟨W2, h1, h2, h3⟩ := hI.update law hp v
 replace h1 : (Instr.mapUpdate 47 (.map (some b)) (.int .i64 p) (.bool v)).run Try.prog W = _ := h1
 refine wpList_plain hgd fun K hK => ?_
 unfold Oper.wp
 have hr : (execOp a.eval o).run Try.prog W = .ok .skip W2 := by simp [execOp, ho, hx, hy, hz, h1, Result.andThen]
 rw [hr]
 have h4 := hK a W2 (h W2 h2 h3)
 show K (a.put o.dst undef) _
 rw [hN]
 exact h4
theorem of_empty {W : World} {m : Nat} (h : W.heap[m]? = some (.map #[] 0)) : Is W m 0 (fun _ => false) := ⟨#[], 0, h, MapKept.stamped_empty 0, Nat.le_refl _, by simp, fun _ _ _ => rfl⟩
theorem is_below {W W' : World} {b n : Nat} {f : Int → Bool} (h : Is W b n f) (hg : Below W.heap.size W W') : Is W' b n f := h.kept (hg.block b h.lt)
theorem not_cells {W : World} {b n : Nat} {f : Int → Bool} (h : Is W b n f) {cs : Array Value} {t : TypeId} {q : Nat × Nat} : W.heap[b]? ≠ some (.cells cs t q) := by
 obtain ⟨es, clock, hb, _⟩ := h
 rw [hb]
 intro e
 cases e
theorem is_off {W : World} {b n : Nat} {f : Int → Bool} (h : Is W b n f) {v : Value} {e : TypeId} (hv : ∀ k, v.ownBlock = some k → ∃ cells, W.heap[k]? = some (.cells cells e (0, 0))) : some b ≠ v.ownBlock := fun e1 => by
 obtain ⟨cs, hc⟩ := hv b e1.symm
 exact not_cells h hc
theorem row_off {α : Type} {d : Kd α} {e base : Nat} {okp : Nat → Prop} {v : Value} {xs : List α} {W : World} {b n : Nat} {f : Int → Bool} (hr : d.R e W base okp v xs) (h : Is W b n f) : d.R e W base (fun k => okp k ∧ k ≠ b) v xs := by
 refine Kd.R_mono (Kd.R_bound hr) fun k hk => ⟨hk.1, ?_⟩
 rintro rfl
 obtain ⟨_, _, _, q, _, cs, hc⟩ := hk
 exact not_cells h hc
theorem row_grown {α : Type} {d : Kd α} {e base : Nat} {okp : Nat → Prop} {v : Value} {xs : List α} {W W' : World} {b n : Nat} {f : Int → Bool} (hr : d.R e W base okp v xs) (h : Is W b n f) (hg : W.grownBy W' (some b)) : d.R e W' base okp v xs :=
 Kd.R_mono (Kd.R_grown (row_off hr h) hg (fun k hk e1 => hk.2 (Option.some.inj e1))) (fun _ hk => hk.1)
theorem rows_grown {α : Type} {d : Kd α} {e base : Nat} {okp : Nat → Prop} {v : Value} {xs : List α} {W W' : World} {b n : Nat} {f : Int → Bool} (hr : Kd.S d e W base okp v xs) (h : Is W b n f) (hg : W.grownBy W' (some b)) : Kd.S d e W' base okp v xs :=
 Kd.S_mono (Kd.S_grown (Kd.S_mono (Kd.S_bound hr) (ok' := fun k => okp k ∧ k ≠ b) (fun k hk => ⟨hk.1, by
  rintro rfl
  obtain ⟨_, _, _, q, _, cs, hc⟩ := hk
  exact not_cells h hc⟩)) hg (fun k hk e1 => hk.2 (Option.some.inj e1))) (fun _ hk => hk.1)
theorem below_grown {B : Nat} {w0 w w1 : World} {g : Nat} (h : Below B w0 w) (hg : w.grownBy w1 (some g)) (hB : B ≤ w.heap.size) (hr : B ≤ g) : Below B w0 w1 := Below.grown h hg hB (fun k hk => by cases hk; exact hr)
abbrev St := (Int → Bool) × List Int
def step (st : St) (x : Int) : St := if st.1 x = true then st else (Go.Mp.upd st.1 x true, st.2 ++ [x])
def rowS (row : List Int) (st : St) : Nat → St
 | 0 => st
 | j + 1 => step (rowS row st j) (rd row (j : Int))
def rowOf (tab : List (List Int)) (i : Int) : List Int := tab.getD i.toNat []
def bfs (tab : List (List Int)) : Nat → St → Nat → St
 | 0, st, _ => st
 | d + 1, st, k => if k < st.2.length then bfs tab d (rowS (rowOf tab (rd st.2 (k : Int))) st (rowOf tab (rd st.2 (k : Int))).length) (k + 1) else st
def sorted (l : List Int) : List Int := l.mergeSort fun x y => decide (x ≤ y)
def start (M : Int → Bool) (i : Nat) : St := (Go.Mp.upd M (i : Int) true, [(i : Int)])
def outer (tab : List (List Int)) : Nat → (Int → Bool) × List (List Int)
 | 0 => (fun _ => false, [])
 | i + 1 => if (outer tab i).1 (i : Int) = true then outer tab i else ((bfs tab 61 (start (outer tab i).1 i) 0).1, (outer tab i).2 ++ [sorted (bfs tab 61 (start (outer tab i).1 i) 0).2])
def fits (n : Nat) (tab : List (List Int)) : Prop := tab.length = n ∧ n ≤ 60 ∧ ∀ r ∈ tab, r.length ≤ 60 ∧ ∀ x ∈ r, 0 ≤ x ∧ x < (n : Int)
instance (n : Nat) (tab : List (List Int)) : Decidable (fits n tab) := inferInstanceAs (Decidable (_ ∧ _ ∧ _))
def Inv (n : Nat) (st : St) : Prop := st.2.Nodup ∧ ∀ x ∈ st.2, (0 ≤ x ∧ x < (n : Int)) ∧ st.1 x = true
theorem rd_mem {l : List Int} {j : Nat} (h : j < l.length) : rd l (j : Int) ∈ l := by
 have e : rd l (j : Int) = l[j] := by
  unfold rd
  rw [Int.toNat_natCast, List.getD_eq_getElem?_getD, List.getElem?_eq_getElem h]
  rfl
 rw [e]
 exact List.getElem_mem h
theorem inv_step {n : Nat} {st : St} (h : Inv n st) {x : Int} (hx : 0 ≤ x ∧ x < (n : Int)) : Inv n (step st x) := by
 unfold step
 by_cases c : st.1 x = true
 ·
  rw [if_pos c]
  exact h
 ·
  rw [if_neg c]
  refine ⟨?_, fun y hy => ?_⟩
  ·
   rw [List.nodup_append]
   refine ⟨h.1, by simp, fun y hy z hz e => ?_⟩
   rw [List.mem_singleton] at hz
   subst hz
   subst e
   exact c (h.2 y hy).2
  ·
   show _ ∧ Go.Mp.upd st.1 x true y = true
   unfold Go.Mp.upd
   rcases List.mem_append.1 hy with hy | hy
   ·
    refine ⟨(h.2 y hy).1, ?_⟩
    split
    · rfl
    · exact (h.2 y hy).2
   ·
    rw [List.mem_singleton] at hy
    subst hy
    exact ⟨hx, by rw [if_pos rfl]⟩
theorem inv_row {n : Nat} {st : St} (h : Inv n st) {row : List Int} (hr : ∀ x ∈ row, 0 ≤ x ∧ x < (n : Int)) : ∀ j, j ≤ row.length → Inv n (rowS row st j)
 | 0, _ => h
 | j + 1, hj => by
  unfold rowS
  exact inv_step (inv_row h hr j (by omega)) (hr _ (rd_mem (by omega)))
theorem inv_len {n : Nat} {st : St} (h : Inv n st) : st.2.length ≤ n := by
 have hs : st.2 ⊆ (List.range n).map (fun i : Nat => (i : Int)) := fun x hx => by
  have := (h.2 x hx).1
  exact List.mem_map.2 ⟨x.toNat, List.mem_range.2 (by omega), by omega⟩
 have := List.Nodup.length_le_of_subset h.1 hs
 simpa using this
theorem inv_start {n i : Nat} (M : Int → Bool) (h : i < n) : Inv n (start M i) := ⟨by simp [start], fun x hx => by
 have e : x = (i : Int) := by simpa [start] using hx
 subst e
 exact ⟨by omega, by simp [start, Go.Mp.upd]⟩⟩
theorem row_fits {n : Nat} {tab : List (List Int)} (h : fits n tab) {x : Int} (hx : 0 ≤ x ∧ x < (n : Int)) : rowOf tab x ∈ tab := by
 unfold rowOf
 rw [List.getD_eq_getElem?_getD, List.getElem?_eq_getElem (by rw [h.1]; omega)]
 exact List.getElem_mem _
end Pc
end Go.Proofs.Ytljfjljeabcfgaa.Q
