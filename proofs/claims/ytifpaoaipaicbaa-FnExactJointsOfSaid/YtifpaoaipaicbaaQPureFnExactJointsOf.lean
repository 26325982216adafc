/- The law on JointsOf answers true for every row and joint; no condition. -/
import Derived.Test.YtifpaoaipaicbaaQLawJointsOf
import Derived.Test.YtifpaoaipaicbaaQOpn
import Derived.Test.YtifpaoaipaicbaaQBJoint
import Derived.Test.YtifpaoaipaicbaaQBInts
namespace Go.Proofs.Ytifpaoaipaicbaa.Q
open Go.RowKit Go.Proofs.YtifpaoaipaicbaaW.PrintWords Go.Proofs.YtifpaoaipaicbaaW.PrintLast Go.Proofs.YtifpaoaipaicbaaW.PrintMore

def Pure.FnExactJointsOf : Prop := ∀ (x0 : List Int) (x1 : Int), (x0.length ≤ maxLen ∧ ∀ z_ ∈ x0, (Lit.int .i64 z_).wf = true) → (Lit.int .i64 x1).wf = true → ∃ k, laws_FnExactJointsOf.f k x0 x1 = some true

def jointsR (l : List Int) (j : Int) : List Int × Int := if (rowB l && inB j 0 5) = true then (jointsV l j, 0) else ([], 2)
theorem rowB_len {l : List Int} (h : rowB l = true) : 1 ≤ l.length ∧ l.length ≤ 60 := by
  unfold rowB at h
  rw [Bool.and_eq_true] at h
  have := inB_iff.1 h.2
  omega
theorem jointsR_len (l : List Int) (j : Int) : (jointsR l j).1.length ≤ l.length := by
  unfold jointsR
  split
  · rename_i h
    rw [Bool.and_eq_true] at h
    have h1 := rowB_len h.1
    have h2 := jointsV_len l j
    show (jointsV l j).length ≤ _
    omega
  · simp
theorem specJointsOf (l : List Int) (j : Int) (h : l.length ≤ 1048576) : Ev (fun k => spec_JointsOf.f k l j) (jointsR l j) := by
  unfold spec_JointsOf.f jointsR
  refine Ev.bind (specRow l h) ?_
  by_cases h1 : rowB l = true
  · refine Ev.ite_pos h1 (Ev.call (specJoint j) ?_)
    by_cases h2 : inB j 0 5 = true
    · rw [if_pos (by rw [h1, h2]; rfl)]
      exact Ev.ite_pos h2 (Ev.bind (specJoints l j h1 h2) (Ev.now _))
    · rw [if_neg (by simp [h2])]
      exact Ev.ite_neg h2 (Ev.now _)
  · rw [if_neg (by simp [h1])]
    exact Ev.ite_neg h1 (Ev.now _)
theorem implJointsOf (l : List Int) (j : Int) (h : l.length ≤ 1048576) : Ev (fun k => impl_JointsOf.f k l j) (jointsR l j) := by
  unfold impl_JointsOf.f jointsR
  refine Ev.bind (rowsCode_val [l] j (by simp) (by simpa using h)) ?_
  have e : rowsV [l] j = if (rowB l && inB j 0 5) = true then 0 else 2 := by simp [rowsV]
  rw [e]
  by_cases h1 : (rowB l && inB j 0 5) = true
  · rw [if_pos h1, if_pos h1]
    rw [Bool.and_eq_true] at h1
    exact Ev.ite_pos rfl (Ev.bind (implJoints l j h1.1 h1.2) (Ev.now _))
  · rw [if_neg h1, if_neg h1]
    exact Ev.ite_neg (by decide) (Ev.now _)
theorem pure_FnExactJointsOf : Pure.FnExactJointsOf := by
  rintro l j ⟨hl, -⟩ -
  unfold maxLen at hl
  refine Ev.rounds (g := fun k => laws_FnExactJointsOf.f k l j) ?_
  unfold laws_FnExactJointsOf.f
  by_cases h : (l.length : Int) > 1048576
  · exact Ev.ite_pos h (Ev.now _)
  · have hlen := jointsR_len l j
    have hS := specJointsOf l j (by omega)
    have hI := implJointsOf l j (by omega)
    generalize jointsR l j = R at *
    refine Ev.ite_neg h (Ev.bind (toInts l (by omega)) (Ev.bind hS (Ev.bind (toInts l (by omega)) (Ev.bind hI (Ev.bind (eqInts _ (by omega)) (Ev.ite_pos rfl ?_))))))
    rw [show (R.2 != R.2) = false by simp]
    refine Ev.step (fun k => laws_FnExactJointsOf.j0.eq_2 _ _ _ _ _ _ _ _ _) (Ev.ite_neg (by decide) (Ev.bind (toInts l (by omega)) (Ev.bind (eqInts _ (by omega)) (Ev.ite_pos rfl (Ev.bind (markInts l (by omega)) (Ev.ite_neg (by show ¬ (1 + (l.length : Int) < 0); omega) (Ev.bind (eqInts _ (by omega)) (Ev.ite_pos rfl ?_))))))))
    rw [show (R.2 != R.2) = false by simp]
    refine Ev.step (fun k => laws_FnExactJointsOf.j1.eq_2 _ _ _ _ _ _ _) (Ev.ite_neg (by decide) (Ev.bind (markInts _ (by omega)) (Ev.bind (heldInts _ (by omega)) (Ev.ite_neg (by omega) (Ev.ite_pos rfl (Ev.bind (toInts l (by omega)) (Ev.bind hI (Ev.bind (eqInts _ (by omega)) (Ev.ite_pos rfl ?_)))))))))
    rw [show (R.2 != R.2) = false by simp]
    exact Ev.step (fun k => laws_FnExactJointsOf.j2.eq_2 _ _ _ _) (Ev.ite_neg (by decide) (Ev.bind (heldInts _ (by omega)) (Ev.ite_neg (by omega) (Ev.ite_pos rfl (Ev.now _)))))
end Go.Proofs.Ytifpaoaipaicbaa.Q
