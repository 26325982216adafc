/- The law on TurnRow answers true for every row and number; no condition. -/
import Derived.Test.YtabooaeobpgadaaQLawTurnRow
import Derived.Test.YtabooaeobpgadaaQOpn
import Derived.Test.YtabooaeobpgadaaQBJoint
import Derived.Test.YtabooaeobpgadaaQBConcat
import Derived.Test.YtabooaeobpgadaaQBInts
namespace Go.Proofs.Ytabooaeobpgadaa.Q
open Go.RowKit Go.Proofs.YtabooaeobpgadaaW.PrintWords Go.Proofs.YtabooaeobpgadaaW.PrintLast Go.Proofs.YtabooaeobpgadaaW.PrintMore

def Pure.FnExactTurnRow : Prop := ∀ (x0 : List Int) (x1 : Int), (x0.length ≤ maxLen ∧ ∀ z_ ∈ x0, (Lit.int .i64 z_).wf = true) → (Lit.int .i64 x1).wf = true → ∃ k, laws_FnExactTurnRow.f k x0 x1 = some true

def turnR (l : List Int) (j : Int) : List Int × Int := if (rowB l && inB j 0 ((l.length : Int) - 1)) = true then (l.drop j.toNat ++ l.take j.toNat, 0) else ([], 2)
theorem turnR_len (l : List Int) (j : Int) : (turnR l j).1.length ≤ l.length + l.length := by
  unfold turnR
  split
  · show (l.drop j.toNat ++ l.take j.toNat).length ≤ _
    simp
    omega
  · simp
theorem specTurn_val (l : List Int) (j : Int) (h : l.length ≤ 1048576) (h0 : 0 ≤ j) (h1 : j ≤ (l.length : Int) - 1) : spec_l03Turn.f l j = some (l.drop j.toNat ++ l.take j.toNat) := by
  unfold spec_l03Turn.f
  simp only [Option.bind_some]
  rw [if_pos h0, if_pos (by omega), if_pos (by simp; omega), if_pos (by simp; omega), List.nil_append]
theorem specTurnRow (l : List Int) (j : Int) (h : l.length ≤ 1048576) : Ev (fun k => spec_TurnRow.f k l j) (turnR l j) := by
  unfold spec_TurnRow.f
  rw [w64 (x := (l.length : Int) - 1) (by omega) (by omega)]
  refine Ev.bind (specRow l h) ?_
  by_cases h1 : rowB l = true
  · refine Ev.ite_pos h1 (Ev.call (l00In_val _ _ _) ?_)
    by_cases h2 : inB j 0 ((l.length : Int) - 1) = true
    · rw [show turnR l j = (l.drop j.toNat ++ l.take j.toNat, 0) from if_pos (by rw [h1, h2]; rfl)]
      obtain ⟨a, b⟩ := inB_iff.1 h2
      exact Ev.ite_pos h2 (Ev.call (specTurn_val l j h a b) (Ev.now _))
    · rw [show turnR l j = ([], 2) from if_neg (by simp [h2])]
      exact Ev.ite_neg h2 (Ev.now _)
  · rw [show turnR l j = ([], 2) from if_neg (by simp [h1])]
    exact Ev.ite_neg h1 (Ev.now _)
theorem implTurnRow (l : List Int) (j : Int) (h : l.length ≤ 1048576) : Ev (fun k => impl_TurnRow.f k l j) (turnR l j) := by
  unfold impl_TurnRow.f
  refine Ev.bind (rowsCode_val [l] 0 (by simp) (by simpa using h)) ?_
  have e : rowsV [l] 0 = if rowB l = true then 0 else 2 := by simp [rowsV, inB]
  rw [e]
  by_cases h1 : rowB l = true
  · rw [if_pos h1]
    refine Ev.ite_pos rfl (Ev.call (a := (l.length : Int)) rfl ?_)
    rw [w64 (x := (l.length : Int) - 1) (by omega) (by omega)]
    refine Ev.call (within_val _ _ _) ?_
    by_cases h2 : inB j 0 ((l.length : Int) - 1) = true
    · rw [show turnR l j = (l.drop j.toNat ++ l.take j.toNat, 0) from if_pos (by rw [h1, h2]; rfl)]
      obtain ⟨a, b⟩ := inB_iff.1 h2
      exact Ev.ite_pos h2 (Ev.ite_pos a (Ev.ite_pos (by omega) (Ev.bind (concat2 _ _ (by simp; omega)) (Ev.now _))))
    · rw [show turnR l j = ([], 2) from if_neg (by simp [h2])]
      exact Ev.ite_neg h2 (Ev.now _)
  · rw [if_neg h1, show turnR l j = ([], 2) from if_neg (by simp [h1])]
    exact Ev.ite_neg (by decide) (Ev.now _)
theorem pure_FnExactTurnRow : Pure.FnExactTurnRow := by
  rintro l j ⟨hl, -⟩ -
  unfold maxLen at hl
  refine Ev.rounds (g := fun k => laws_FnExactTurnRow.f k l j) ?_
  unfold laws_FnExactTurnRow.f
  by_cases h : (l.length : Int) > 1048576
  · exact Ev.ite_pos h (Ev.now _)
  · have hlen := turnR_len l j
    have hS := specTurnRow l j (by omega)
    have hI := implTurnRow l j (by omega)
    generalize turnR l j = R at *
    refine Ev.ite_neg h (Ev.bind (toInts l (by omega)) (Ev.bind hS (Ev.bind (toInts l (by omega)) (Ev.bind hI (Ev.bind (eqInts _ (by omega)) (Ev.ite_pos rfl ?_))))))
    rw [show (R.2 != R.2) = false by simp]
    refine Ev.step (fun k => laws_FnExactTurnRow.j0.eq_2 _ _ _ _ _ _ _ _ _) (Ev.ite_neg (by decide) (Ev.bind (toInts l (by omega)) (Ev.bind (eqInts _ (by omega)) (Ev.ite_pos rfl (Ev.bind (markInts l (by omega)) (Ev.ite_neg (by show ¬ (1 + (l.length : Int) < 0); omega) (Ev.bind (eqInts _ (by omega)) (Ev.ite_pos rfl ?_))))))))
    rw [show (R.2 != R.2) = false by simp]
    refine Ev.step (fun k => laws_FnExactTurnRow.j1.eq_2 _ _ _ _ _ _ _) (Ev.ite_neg (by decide) (Ev.bind (markInts _ (by omega)) (Ev.bind (heldInts _ (by omega)) (Ev.ite_neg (by omega) (Ev.ite_pos rfl (Ev.bind (toInts l (by omega)) (Ev.bind hI (Ev.bind (eqInts _ (by omega)) (Ev.ite_pos rfl ?_)))))))))
    rw [show (R.2 != R.2) = false by simp]
    exact Ev.step (fun k => laws_FnExactTurnRow.j2.eq_2 _ _ _ _) (Ev.ite_neg (by decide) (Ev.bind (heldInts _ (by omega)) (Ev.ite_neg (by omega) (Ev.ite_pos rfl (Ev.now _)))))
end Go.Proofs.Ytabooaeobpgadaa.Q
