/- The law on BowFrom answers true for every list of steps; no condition. -/
import Derived.Test.YtifpaoaipaicbaaQLawBowFrom
import Derived.Test.YtifpaoaipaicbaaQOpn
import Derived.Test.YtifpaoaipaicbaaQBBow
import Derived.Test.YtifpaoaipaicbaaQBInts
namespace Go.Proofs.Ytifpaoaipaicbaa.Q
open Go.RowKit Go.Proofs.YtifpaoaipaicbaaW.PrintWords Go.Proofs.YtifpaoaipaicbaaW.PrintLast Go.Proofs.YtifpaoaipaicbaaW.PrintMore

def Pure.FnExactBowFrom : Prop := ∀ (x0 : List Int), (x0.length ≤ maxLen ∧ ∀ z_ ∈ x0, (Lit.int .i64 z_).wf = true) → ∃ k, laws_FnExactBowFrom.f k x0 = some true

theorem checked_val' (l : List Int) (h : l.length ≤ 4611686018427387904) : Ev (fun k => impl_checked.f k l) (if bowB l = true then (l, 0) else ([], 4)) := by
  unfold impl_checked.f
  refine Ev.bind (implBow l h) ?_
  exact Ev.if_ (fun hc => Ev.ite_pos hc (Ev.now _)) (fun hc => Ev.ite_neg hc (Ev.now _))
def stepF (l : List Int) (i : Nat) (s : List Int) : List Int := s ++ [wrap64 (rd s i + rd l i)]
def stepZ (s : List Int) : List Int × Int := if bowB s = true then (s, 0) else ([], 4)
def stepsV (m : Nat) (l : List Int) : List Int × Int := loopV (fun i _ => inB (rd l i) (-1000) 1000 && decide (i < m)) (stepF l) (fun _ _ => ([], 4)) stepZ l.length 0 [0]
theorem stepF_len (l : List Int) (i : Nat) (s : List Int) (h : s.length = i + 1) : (stepF l i s).length = i + 1 + 1 := by
  simp [stepF, h]
theorem specBowFrom (l : List Int) (h : l.length ≤ 1048576) : Ev (fun k => spec_BowFrom.f k l) (stepsV 39 l) := by
  unfold spec_BowFrom.f stepsV
  refine Ev.loop (L := fun k s (i : Nat) => spec_BowFrom.l0 k l s i) l.length _ _ _ _ (fun i s => s.length = i + 1) ?_ ?_ ?_ l.length 0 [0] (by omega) rfl
  · rintro i s hi hs hc
    rw [Bool.and_eq_true, decide_eq_true_eq] at hc
    refine ⟨stepF_len l i s hs, fun r hr => Ev.step (fun k => spec_BowFrom.l0.eq_2 _ _ _ _) ?_⟩
    rw [w64_succ (by omega)]
    exact Ev.ite_pos (by omega) (Ev.ite_pos (ge0 _) (Ev.call (l00In_val _ _ _) (Ev.ite_pos hc.1 (Ev.ite_neg (by omega) (Ev.ite_pos (by omega) (Ev.ite_pos (by omega) hr))))))
  · rintro i s hi hs hc
    refine Ev.step (fun k => spec_BowFrom.l0.eq_2 _ _ _ _) (Ev.ite_pos (by omega) (Ev.ite_pos (ge0 _) (Ev.call (l00In_val _ _ _) ?_)))
    by_cases h1 : inB (rd l i) (-1000) 1000 = true
    · rw [h1, Bool.true_and, decide_eq_false_iff_not] at hc
      exact Ev.ite_pos h1 (Ev.ite_pos (by omega) (Ev.now _))
    · exact Ev.ite_neg h1 (Ev.now _)
  · intro s hs
    refine Ev.step (fun k => spec_BowFrom.l0.eq_2 _ _ _ _) (Ev.ite_neg (by omega) (Ev.bind (specBow _ (by omega)) ?_))
    exact Ev.if_ (fun hc => Ev.ite_pos hc (Ev.now _)) (fun hc => Ev.ite_neg hc (Ev.now _))
theorem implBowFrom (l : List Int) (h : l.length ≤ 1048576) : Ev (fun k => impl_BowFrom.f k l) (stepsV 40 l) := by
  unfold impl_BowFrom.f stepsV
  refine Ev.loop (L := fun k s (i : Nat) => impl_BowFrom.l0 k s l l.length i) l.length _ _ _ _ (fun i s => s.length = i + 1) ?_ ?_ ?_ l.length 0 [0] (by omega) rfl
  · rintro i s hi hs hc
    rw [Bool.and_eq_true, decide_eq_true_eq] at hc
    refine ⟨stepF_len l i s hs, fun r hr => Ev.step (fun k => impl_BowFrom.l0.eq_2 _ _ _ _ _) ?_⟩
    rw [w64_succ (by omega)]
    exact Ev.ite_pos (by omega) (Ev.ite_pos (ge0 _) (Ev.ite_pos (by omega) (Ev.call (within_val _ _ _) (Ev.ite_pos hc.1 (Ev.ite_neg (by omega) (Ev.ite_pos (by omega) (Ev.ite_pos (by omega) hr)))))))
  · rintro i s hi hs hc
    refine Ev.step (fun k => impl_BowFrom.l0.eq_2 _ _ _ _ _) (Ev.ite_pos (by omega) (Ev.ite_pos (ge0 _) (Ev.ite_pos (by omega) (Ev.call (within_val _ _ _) ?_))))
    by_cases h1 : inB (rd l i) (-1000) 1000 = true
    · rw [h1, Bool.true_and, decide_eq_false_iff_not] at hc
      exact Ev.ite_pos h1 (Ev.ite_pos (by omega) (Ev.now _))
    · exact Ev.ite_neg h1 (Ev.now _)
  · intro s hs
    exact Ev.step (fun k => impl_BowFrom.l0.eq_2 _ _ _ _ _) (Ev.ite_neg (by omega) (Ev.bind (checked_val' _ (by omega)) (Ev.now _)))
theorem long_bow {s : List Int} (h : 41 ≤ s.length) : stepZ s = ([], 4) := by
  unfold stepZ
  rw [if_neg]
  unfold bowB
  have : inB (s.length : Int) 3 40 = false := by
    rw [inB_no]
    omega
  rw [this]
  simp
/-- At 40 steps or more both say the same: the bow would have more points than there may be. -/
theorem steps_same (l : List Int) : stepsV 40 l = stepsV 39 l := by
  rcases Nat.lt_or_ge l.length 40 with h | h
  · unfold stepsV
    refine loopV_congr l.length (fun i _ => True) ?_ (fun _ _ _ _ _ => ⟨rfl, trivial⟩) (fun _ _ _ _ _ => rfl) (fun _ _ => rfl) l.length 0 [0] (by omega) trivial
    intro i s hi _
    rw [decide_eq_true (show i < 40 by omega), decide_eq_true (show i < 39 by omega)]
  · have h1 : stepsV 40 l = ([], 4) := by
      unfold stepsV
      refine loopV_ind l.length (fun i s => s.length = i + 1) (fun r => r = ([], 4)) ?_ (fun _ _ _ _ _ => rfl) ?_ l.length 0 [0] (by omega) rfl
      · intro i s hi hs _
        exact stepF_len l i s hs
      · intro s hs
        exact long_bow (by omega)
    have h2 : stepsV 39 l = ([], 4) := by
      unfold stepsV
      refine loopV_ind l.length (fun i _ => i ≤ 39) (fun r => r = ([], 4)) ?_ (fun _ _ _ _ _ => rfl) ?_ l.length 0 [0] (by omega) (by omega)
      · intro i s hi hs hc
        rw [Bool.and_eq_true, decide_eq_true_eq] at hc
        omega
      · intro s hs
        omega
    rw [h1, h2]
theorem steps_len (l : List Int) (h : l.length ≤ 1048576) : (stepsV 39 l).1.length ≤ 1048577 := by
  unfold stepsV
  refine loopV_ind l.length (fun i s => s.length = i + 1) (fun (r : List Int × Int) => r.1.length ≤ 1048577) ?_ (fun _ _ _ _ _ => by simp) ?_ l.length 0 [0] (by omega) rfl
  · intro i s hi hs _
    exact stepF_len l i s hs
  · intro s hs
    unfold stepZ
    split
    · show s.length ≤ _
      omega
    · simp
theorem pure_FnExactBowFrom : Pure.FnExactBowFrom := by
  rintro l ⟨hl, -⟩
  unfold maxLen at hl
  refine Ev.rounds (g := fun k => laws_FnExactBowFrom.f k l) ?_
  unfold laws_FnExactBowFrom.f
  by_cases h : (l.length : Int) > 1048576
  · exact Ev.ite_pos h (Ev.now _)
  · have hlen := steps_len l (by omega)
    have hS := specBowFrom l (by omega)
    have hI := implBowFrom l (by omega)
    rw [steps_same] at hI
    generalize stepsV 39 l = R at *
    refine Ev.ite_neg h (Ev.bind (toInts l (by omega)) (Ev.bind hS (Ev.bind (toInts l (by omega)) (Ev.bind hI (Ev.bind (eqInts _ (by omega)) (Ev.ite_pos rfl ?_))))))
    rw [show (R.2 != R.2) = false by simp]
    refine Ev.step (fun k => laws_FnExactBowFrom.j0.eq_2 _ _ _ _ _ _ _ _) (Ev.ite_neg (by decide) (Ev.bind (toInts l (by omega)) (Ev.bind (eqInts _ (by omega)) (Ev.ite_pos rfl (Ev.bind (markInts l (by omega)) (Ev.ite_neg (by show ¬ (1 + (l.length : Int) < 0); omega) (Ev.bind (eqInts _ (by omega)) (Ev.ite_pos rfl ?_))))))))
    rw [show (R.2 != R.2) = false by simp]
    refine Ev.step (fun k => laws_FnExactBowFrom.j1.eq_2 _ _ _ _ _ _) (Ev.ite_neg (by decide) (Ev.bind (markInts _ (by omega)) (Ev.bind (heldInts _ (by omega)) (Ev.ite_neg (by omega) (Ev.ite_pos rfl (Ev.bind (toInts l (by omega)) (Ev.bind hI (Ev.bind (eqInts _ (by omega)) (Ev.ite_pos rfl ?_)))))))))
    rw [show (R.2 != R.2) = false by simp]
    exact Ev.step (fun k => laws_FnExactBowFrom.j2.eq_2 _ _ _ _) (Ev.ite_neg (by decide) (Ev.bind (heldInts _ (by omega)) (Ev.ite_neg (by omega) (Ev.ite_pos rfl (Ev.now _)))))
end Go.Proofs.Ytifpaoaipaicbaa.Q
