/- The law on CommonJoints answers true for every two rows and joint; no condition. -/
import Derived.Test.YtpbobnpmiafbbaaQLawCommonJoints
import Derived.Test.YtpbobnpmiafbbaaQOpn
import Derived.Test.YtpbobnpmiafbbaaQBCommon
import Derived.Test.YtpbobnpmiafbbaaQBInts
namespace Go.Proofs.Ytpbobnpmiafbbaa.Q
open Go.RowKit Go.Proofs.YtpbobnpmiafbbaaW.PrintWords Go.Proofs.YtpbobnpmiafbbaaW.PrintLast Go.Proofs.YtpbobnpmiafbbaaW.PrintMore
set_option linter.unusedVariables false

def Pure.FnExactCommonJoints : Prop := ∀ (x0 : List Int) (x1 : List Int) (x2 : Int), (x0.length ≤ maxLen ∧ ∀ z_ ∈ x0, (Lit.int .i64 z_).wf = true) → (x1.length ≤ maxLen ∧ ∀ z_ ∈ x1, (Lit.int .i64 z_).wf = true) → (Lit.int .i64 x2).wf = true → ∃ k, laws_FnExactCommonJoints.f k x0 x1 x2 = some true

def cjR (a b : List Int) (j : Int) : List Int × Int := if (rowB a && rowB b && inB j 0 5) = true then (commonV a b j, 0) else ([], 2)
theorem cjR_len (a b : List Int) (j : Int) : (cjR a b j).1.length ≤ 60 := by
  unfold cjR
  by_cases h : (rowB a && rowB b && inB j 0 5) = true
  · rw [if_pos h]
    rw [Bool.and_eq_true, Bool.and_eq_true] at h
    have h1 := row_len h.1.1
    have h2 := commonV_len a b j
    show (commonV a b j).length ≤ 60
    omega
  · rw [if_neg h]; exact Nat.zero_le _
theorem specCJ (a b : List Int) (j : Int) (ha : a.length ≤ 1048576) (hb : b.length ≤ 1048576) : Ev (fun k => spec_CommonJoints.f k a b j) (cjR a b j) := by
  unfold spec_CommonJoints.f cjR
  refine Ev.bind (specRow a ha) ?_
  by_cases h1 : rowB a = true
  · refine Ev.ite_pos h1 (Ev.bind (specRow b hb) ?_)
    by_cases h2 : rowB b = true
    · refine Ev.ite_pos h2 (Ev.call (specJoint j) ?_)
      by_cases h3 : inB j 0 5 = true
      · refine Ev.ite_pos h3 (Ev.bind (specCommon a b j h1 h2 h3) (Ev.eq_ (Ev.now _) ?_))
        rw [if_pos (by rw [h1, h2, h3]; rfl)]
      · refine Ev.ite_neg h3 (Ev.eq_ (Ev.now _) ?_)
        rw [if_neg (by rw [h1, h2, show inB j 0 5 = false by simpa using h3]; decide)]
    · refine Ev.ite_neg h2 (Ev.eq_ (Ev.now _) ?_)
      rw [if_neg (by rw [h1, show rowB b = false by simpa using h2]; simp)]
  · refine Ev.ite_neg h1 (Ev.eq_ (Ev.now _) ?_)
    rw [if_neg (by rw [show rowB a = false by simpa using h1]; simp)]
theorem implCJ (a b : List Int) (j : Int) (ha : a.length ≤ 1048576) (hb : b.length ≤ 1048576) : Ev (fun k => impl_CommonJoints.f k a b j) (cjR a b j) := by
  unfold impl_CommonJoints.f cjR
  refine Ev.bind (rowsCode_val [a, b] j (by simp) (fun l hl => by
    rcases List.mem_cons.1 hl with rfl | hl
    · exact ha
    · obtain rfl := List.mem_singleton.1 hl
      exact hb)) ?_
  have e : rowsV [a, b] j = if (rowB a && rowB b && inB j 0 5) = true then 0 else 2 := by
    unfold rowsV
    simp [Bool.and_assoc]
  rw [e]
  by_cases h : (rowB a && rowB b && inB j 0 5) = true
  · rw [if_pos h, if_pos h]
    rw [Bool.and_eq_true, Bool.and_eq_true] at h
    exact Ev.ite_pos rfl (Ev.bind (implCommon a b j h.1.1 h.1.2 h.2) (Ev.now _))
  · rw [if_neg h, if_neg h]
    exact Ev.ite_neg (by decide) (Ev.now _)
theorem pure_FnExactCommonJoints : Pure.FnExactCommonJoints := by
  rintro a b j ⟨hla, -⟩ ⟨hlb, -⟩ -
  refine Ev.rounds (g := fun k => laws_FnExactCommonJoints.f k a b j) ?_
  unfold laws_FnExactCommonJoints.f
  by_cases ca : (a.length : Int) > 1048576
  · exact Ev.ite_pos ca (Ev.now _)
  refine Ev.ite_neg ca ?_
  by_cases cb : (b.length : Int) > 1048576
  · exact Ev.ite_pos cb (Ev.now _)
  refine Ev.ite_neg cb ?_
  have hS := specCJ a b j (by omega) (by omega)
  have hI := implCJ a b j (by omega) (by omega)
  have hlen := cjR_len a b j
  generalize cjR a b j = R at *
  have hne : (R.2 != R.2) = false := by simp
  have ta := toInts a (by omega)
  have tb := toInts b (by omega)
  obtain ⟨m1, h1⟩ := markFrom a 1 (by omega) (by omega) (by omega)
  obtain ⟨m2, h2⟩ := markFrom b (1 + (a.length : Int)) (by omega) (by omega) (by omega)
  refine Ev.bind ta (Ev.bind tb (Ev.bind hS (Ev.bind ta (Ev.bind tb (Ev.bind hI (Ev.bind (eqInts _ (by omega)) (Ev.ite_pos rfl ?_)))))))
  rw [hne]
  refine Ev.step (fun k => laws_FnExactCommonJoints.j0.eq_2 _ _ _ _ _ _ _ _ _ _ _) (Ev.ite_neg (by decide) (Ev.bind ta (Ev.bind (eqInts a (by omega)) (Ev.ite_pos rfl (Ev.bind tb (Ev.bind (eqInts b (by omega)) (Ev.ite_pos rfl (Ev.bind h1 (Ev.bind h2 (Ev.ite_neg (by show ¬ (1 + (a.length : Int) + (b.length : Int) < 0); omega) (Ev.bind (eqInts _ (by omega)) (Ev.ite_pos rfl ?_))))))))))))
  rw [hne]
  refine Ev.step (fun k => laws_FnExactCommonJoints.j1.eq_2 _ _ _ _ _ _ _ _) (Ev.ite_neg (by decide) (Ev.bind (markInts _ (by omega)) (Ev.bind (heldInts _ (by omega)) (Ev.ite_neg (by omega) (Ev.ite_pos rfl (Ev.bind ta (Ev.bind tb (Ev.bind hI (Ev.bind (eqInts _ (by omega)) (Ev.ite_pos rfl ?_))))))))))
  rw [hne]
  exact Ev.step (fun k => laws_FnExactCommonJoints.j2.eq_2 _ _ _ _) (Ev.ite_neg (by decide) (Ev.bind (heldInts _ (by omega)) (Ev.ite_neg (by omega) (Ev.ite_pos rfl (Ev.now _)))))
end Go.Proofs.Ytpbobnpmiafbbaa.Q
