/- Plain facts on rows of setts: the joints that two rows have in common. -/
import Derived.Test.YtpbobnpmiafbbaaQ4
import Derived.Test.YtpbobnpmiafbbaaQ2
import Derived.Test.YtpbobnpmiafbbaaQ1
import Derived.Test.YtpbobnpmiafbbaaQHInts
import Derived.Test.YtpbobnpmiafbbaaQBJoint
namespace Go.Proofs.Ytpbobnpmiafbbaa.Q
open Go.RowKit Go.Proofs.YtpbobnpmiafbbaaW.PrintWords Go.Proofs.YtpbobnpmiafbbaaW.PrintLast Go.Proofs.YtpbobnpmiafbbaaW.PrintMore
set_option linter.unusedVariables false
set_option linter.unusedSimpArgs false

theorem has_val (l : List Int) (x : Int) (hl : l.length ≤ 1048576) : Ev (fun k => spec_l00Has.f k l x) (l.contains x) := by
  unfold spec_l00Has.f
  have key : ∀ (d i : Nat), i + d = l.length → Ev (fun k => spec_l00Has.l0 k l x (i : Int)) ((l.drop i).contains x) := by
    intro d
    induction d with
    | zero =>
      intro i hi
      refine Ev.step (fun k => spec_l00Has.l0.eq_2 _ _ _ _) (Ev.ite_neg (by omega) (Ev.eq_ (Ev.now _) ?_))
      rw [List.drop_eq_nil_of_le (by omega)]
      rfl
    | succ d ih =>
      intro i hi
      have hlt : i < l.length := by omega
      refine Ev.step (fun k => spec_l00Has.l0.eq_2 _ _ _ _) (Ev.ite_pos (by omega) (Ev.ite_pos (by omega) ?_))
      rw [rd_get hlt, w64_succ (by omega), List.drop_eq_getElem_cons hlt, List.contains_cons]
      by_cases hx : l[i] = x
      · exact Ev.ite_pos hx (Ev.eq_ (Ev.now _) (by simp [hx]))
      · refine Ev.ite_neg hx (Ev.eq_ (ih (i + 1) (by omega)) ?_)
        have h2 : (x == l[i]) = false := by simpa using fun e => hx (Eq.symm e)
        rw [h2, Bool.false_or]
  exact key l.length 0 (by omega)
def commonV (a b : List Int) (j : Int) : List Int := (jointsV a j).filter fun x => (jointsV b j).contains x
theorem commonV_len (a b : List Int) (j : Int) : (commonV a b j).length ≤ a.length - 1 := by
  unfold commonV
  refine Nat.le_trans (List.length_filter_le _ _) ?_
  rw [jointsV_len]
  exact Nat.le_refl _
theorem row_len {l : List Int} (h : rowB l = true) : 1 ≤ l.length ∧ l.length ≤ 60 := by
  unfold rowB at h
  rw [Bool.and_eq_true] at h
  have h2 := inB_iff.1 h.2
  omega
theorem specCommon (a b : List Int) (j : Int) (ha : rowB a = true) (hb : rowB b = true) (hj : inB j 0 5 = true) : Ev (fun k => spec_l03Common.f k a b j) (commonV a b j) := by
  unfold spec_l03Common.f
  refine Ev.bind (specJoints a j ha hj) (Ev.bind (specJoints b j hb hj) ?_)
  have la := row_len ha
  have lb := row_len hb
  have l1 := jointsV_len a j
  have l2 := jointsV_len b j
  unfold commonV
  generalize jointsV a j = u at *
  generalize jointsV b j = v at *
  have key : ∀ (d i : Nat), i + d = u.length → Ev (fun k => spec_l03Common.l0 k ((u.take i).filter fun x => v.contains x) u v (i : Int)) (u.filter fun x => v.contains x) := by
    intro d
    induction d with
    | zero =>
      intro i hi
      refine Ev.step (fun k => spec_l03Common.l0.eq_2 _ _ _ _ _) (Ev.ite_neg (by omega) ?_)
      rw [List.take_of_length_le (by omega)]
      exact Ev.now _
    | succ d ih =>
      intro i hi
      have hlt : i < u.length := by omega
      have h1 := ih (i + 1) (by omega)
      have hle := List.length_filter_le (fun x => v.contains x) (u.take i)
      rw [List.length_take] at hle
      rw [List.take_succ_eq_append_getElem hlt, List.filter_append] at h1
      refine Ev.step (fun k => spec_l03Common.l0.eq_2 _ _ _ _ _) (Ev.ite_pos (by omega) (Ev.ite_pos (by omega) ?_))
      rw [rd_get hlt, w64_succ (by omega)]
      refine Ev.bind (has_val v u[i] (by omega)) ?_
      by_cases hc : v.contains u[i] = true
      · rw [List.filter_cons_of_pos hc, List.filter_nil] at h1
        exact Ev.ite_pos hc (Ev.ite_pos (by omega) h1)
      · rw [List.filter_cons_of_neg hc, List.filter_nil, List.append_nil] at h1
        exact Ev.ite_neg hc h1
  exact key u.length 0 (by omega)
theorem implCommon (a b : List Int) (j : Int) (ha : rowB a = true) (hb : rowB b = true) (hj : inB j 0 5 = true) : Ev (fun k => impl_common.f k a b j) (commonV a b j) := by
  unfold impl_common.f
  have lb := row_len hb
  have l2 := jointsV_len b j
  refine Ev.bind (implJoints b j hb hj) (Ev.bind (implJoints a j ha hj) (Ev.bind (a := commonV a b j) ?_ (Ev.now _)))
  refine ⟨(jointsV b j).length + 2, fun k hk => ?_⟩
  have e : rd_L1 [jointsV b j] 0 = jointsV b j := rfl
  unfold slices_DeleteFunc_int64_int64_at_impl_common_1.f commonV
  rw [e]
  exact if_pos ⟨rfl, by omega, hk⟩
theorem markFrom (l : List Int) (s : Int) (h : l.length ≤ 1048576) (h0 : 0 ≤ s) (h1 : s ≤ 1152921504606846976) : ∃ l', Ev (fun k => laws_markInt64S.f k l s) (s + (l.length : Int), l') := by
  unfold laws_markInt64S.f
  have key : ∀ (d i : Nat) (z : List Int), i + d = l.length → z.length = l.length → ∃ l', Ev (fun k => laws_markInt64S.l0 k z (s + (i : Int)) (i : Int)) (s + (l.length : Int), l') := by
    intro d
    induction d with
    | zero =>
      intro i z hi hz
      refine ⟨z, Ev.step (fun k => laws_markInt64S.l0.eq_2 _ _ _ _) (Ev.ite_neg (by omega) ?_)⟩
      rw [show i = l.length by omega]
      exact Ev.now _
    | succ d ih =>
      intro i z hi hz
      obtain ⟨l', hl⟩ := ih (i + 1) (z.set i (s + (i : Int))) (by omega) (by simpa using hz)
      refine ⟨l', Ev.step (fun k => laws_markInt64S.l0.eq_2 _ _ _ _) (Ev.ite_pos (by omega) (Ev.ite_pos (ge0 _) ?_))⟩
      rw [w64_succ (by omega), Int.toNat_natCast, w64 (by omega) (by omega), show (s + (i : Int) + 1) = s + ((i + 1 : Nat) : Int) by omega]
      exact hl
  obtain ⟨l', hl⟩ := key l.length 0 l (by omega) rfl
  refine ⟨l', ?_⟩
  simpa using hl
end Go.Proofs.Ytpbobnpmiafbbaa.Q
