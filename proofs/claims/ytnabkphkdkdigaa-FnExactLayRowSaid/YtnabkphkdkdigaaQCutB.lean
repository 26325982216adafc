import Derived.Test.YtnabkphkdkdigaaQCutA
namespace Go.Proofs.Ytnabkphkdkdigaa.Q
open Go.RowKit Go.Shelf Go.Proofs.YtnabkphkdkdigaaW.PrintWords Go.Proofs.YtnabkphkdkdigaaW.PrintLast Go.Proofs.YtnabkphkdkdigaaW.PrintMore
set_option linter.unusedVariables false
set_option linter.unusedSimpArgs false
attribute [local go_sem] Oper.semAt_some
namespace Cr
def cutIn : Nat → Int → Int → Int → Nat × Int
  | 0, _, _, l => (0, l)
  | n + 1, w, j, l => if w ≤ l then ((cutIn n w j (l - (w + j))).1 + 1, (cutIn n w j (l - (w + j))).2) else (0, l)
def step (L : List S43) (j : Int) (st : List Int × Int) (i : Nat) : List Int × Int :=
  (st.1.set i (rd st.1 i + (cutIn ((rd_T43 L i).f1 - rd st.1 i).toNat (rd_T43 L i).f0 j st.2).1), (cutIn ((rd_T43 L i).f1 - rd st.1 i).toNat (rd_T43 L i).f0 j st.2).2)
def run (L : List S43) (j long : Int) (is : List Nat) : List Int × Int := is.foldl (step L j) (List.replicate L.length 0, long)
def good (L : List S43) (os : List Int) (left : Int) (i : Nat) : Bool := decide (left ≤ (rd_T43 L i).f0) && decide (rd os i < (rd_T43 L i).f1)
def fin (L : List S43) (os : List Int) (left : Int) : List Int × Int × Int :=
  if left ≤ 0 then (os, 0, 0) else match (List.range L.length).find? (good L os left) with
    | some i => (os.set i (rd os i + 1), (rd_T43 L i).f0 - left, 0)
    | none => ([], 0, 6)
def ok (L : List S43) (long j : Int) : Prop := 0 < L.length ∧ L.length ≤ 6 ∧ 1 ≤ long ∧ long ≤ 400 ∧ 0 ≤ j ∧ j ≤ 5 ∧ ∀ s ∈ L, 1 ≤ s.f0 ∧ s.f0 ≤ 20 ∧ 0 ≤ s.f1 ∧ s.f1 ≤ 60
instance (L : List S43) (long j : Int) : Decidable (ok L long j) := by unfold ok; infer_instance
def res (L : List S43) (long j : Int) : List Int × Int × Int := fin L (run L j long ((List.range L.length).map fun k => L.length - 1 - k)).1 (run L j long ((List.range L.length).map fun k => L.length - 1 - k)).2
end Cr
namespace Cr
theorem step_length (L : List S43) (j : Int) (st : List Int × Int) (i : Nat) : (step L j st i).1.length = st.1.length := by simp [step]
theorem run_snoc (L : List S43) (j long : Int) (is : List Nat) (i : Nat) : run L j long (is ++ [i]) = step L j (run L j long is) i := by simp [run]
theorem cutIn_bounds : ∀ (n : Nat) (w j l : Int), 1 ≤ w → 0 ≤ j → j ≤ 5 → -5 ≤ l → l ≤ 400 → (cutIn n w j l).1 ≤ n ∧ -5 ≤ (cutIn n w j l).2 ∧ (cutIn n w j l).2 ≤ 400
  | 0, w, j, l, _, _, _, h1, h2 => ⟨Nat.le_refl _, h1, h2⟩
  | n + 1, w, j, l, hw, hj, hj5, h1, h2 => by
    unfold cutIn
    by_cases h : w ≤ l
    · rw [if_pos h]
      have := cutIn_bounds n w j (l - (w + j)) hw hj hj5 (by omega) (by omega)
      exact ⟨by show _ + 1 ≤ _; omega, this.2.1, this.2.2⟩
    · rw [if_neg h]
      exact ⟨Nat.zero_le _, h1, h2⟩
/-- What the rounds leave. -/
def Sane (L : List S43) (os : List Int) (left : Int) : Prop := os.length = L.length ∧ (∀ i : Nat, i < L.length → 0 ≤ rd os i ∧ rd os i ≤ 60) ∧ -5 ≤ left ∧ left ≤ 400
theorem rd_ok {L : List S43} {long j : Int} (h : ok L long j) (i : Nat) (hi : i < L.length) : 1 ≤ (rd_T43 L i).f0 ∧ (rd_T43 L i).f0 ≤ 20 ∧ 0 ≤ (rd_T43 L i).f1 ∧ (rd_T43 L i).f1 ≤ 60 := by
  have e : rd_T43 L i = L[i] := by
    unfold rd_T43
    rw [Int.toNat_natCast, List.getD_eq_getElem?_getD, List.getElem?_eq_getElem hi]
    rfl
  rw [e]
  exact h.2.2.2.2.2.2 _ (List.getElem_mem hi)
theorem rd_set (os : List Int) (i k : Nat) (x : Int) (hi : i < os.length) : rd (os.set i x) k = if i = k then x else rd os k := by
  unfold rd
  rw [Int.toNat_natCast, List.getD_eq_getElem?_getD, List.getD_eq_getElem?_getD, List.getElem?_set]
  by_cases h : i = k
  · subst h; simp [hi]
  · simp [h]
theorem sane_start {L : List S43} {long j : Int} (h : ok L long j) : Sane L (List.replicate L.length 0) long := by
  refine ⟨List.length_replicate, fun i hi => ?_, by have := h.2.2.1; omega, h.2.2.2.1⟩
  have : rd (List.replicate L.length 0) i = 0 := by
    unfold rd
    rw [Int.toNat_natCast, List.getD_eq_getElem?_getD, List.getElem?_replicate]
    simp [hi]
  rw [this]; omega
theorem sane_step {L : List S43} {long j : Int} (h : ok L long j) {st : List Int × Int} (hs : Sane L st.1 st.2) (i : Nat) (hi : i < L.length) : Sane L (step L j st i).1 (step L j st i).2 := by
  obtain ⟨h1, h2, h3, h4⟩ := hs
  obtain ⟨b1, b2, b3, b4⟩ := rd_ok h i hi
  have hj := h.2.2.2.2.1
  have hj5 := h.2.2.2.2.2.1
  have hb := cutIn_bounds ((rd_T43 L i).f1 - rd st.1 i).toNat (rd_T43 L i).f0 j st.2 b1 hj hj5 h3 h4
  refine ⟨(step_length L j st i).trans h1, fun k hk => ?_, hb.2.1, hb.2.2⟩
  show 0 ≤ rd (st.1.set i _) k ∧ rd (st.1.set i _) k ≤ 60
  rw [rd_set _ _ _ _ (by omega)]
  by_cases e : i = k
  · rw [if_pos e]
    have := h2 i hi
    omega
  · rw [if_neg e]
    exact h2 k hk
end Cr
end Go.Proofs.Ytnabkphkdkdigaa.Q
