/- Plain facts on lists put one behind the other. -/
import Derived.Test.YtpbobnpmiafbbaaQ6
import Derived.Test.YtpbobnpmiafbbaaQEv
namespace Go.Proofs.Ytpbobnpmiafbbaa.Q
open Go.RowKit Go.Proofs.YtpbobnpmiafbbaaW.PrintWords Go.Proofs.YtpbobnpmiafbbaaW.PrintLast Go.Proofs.YtpbobnpmiafbbaaW.PrintMore

theorem concat2 (a b : List Int) (h : a.length + b.length ≤ 16777216) : Ev (fun k => slices_Concat_int64_int64.f k [a, b]) (a ++ b) := by
  have r0 : rd_L1 [a, b] 0 = a := rfl
  have r1 : rd_L1 [a, b] 1 = b := rfl
  have e0 : wrap64 (0 + 1) = 1 := w64 (by omega) (by omega)
  have e1 : wrap64 (1 + 1) = 2 := w64 (by omega) (by omega)
  have hl : (([a, b] : List (List Int)).length : Int) = 2 := rfl
  unfold slices_Concat_int64_int64.f
  rw [hl]
  refine Ev.step (fun k => slices_Concat_int64_int64.l0.eq_2 _ _ _ _ _ _) ?_
  rw [r0, e0, hl, w64 (x := 0 + (a.length : Int)) (by omega) (by omega)]
  refine Ev.ite_pos (by omega) (Ev.ite_pos (by omega) (Ev.ite_pos (by omega) (Ev.ite_neg (by omega) ?_)))
  refine Ev.step (fun k => slices_Concat_int64_int64.l0.eq_2 _ _ _ _ _ _) ?_
  rw [r1, e1, hl, w64 (x := 0 + (a.length : Int) + (b.length : Int)) (by omega) (by omega)]
  refine Ev.ite_pos (by omega) (Ev.ite_pos (by omega) (Ev.ite_pos (by omega) (Ev.ite_neg (by omega) ?_)))
  refine Ev.step (fun k => slices_Concat_int64_int64.l0.eq_2 _ _ _ _ _ _) (Ev.ite_neg (by omega) (Ev.call (a := []) ?_ ?_))
  · unfold slices_Grow_int64_int64_at_nil.f
    rw [if_pos (by omega), if_pos (by omega)]
  rw [hl]
  refine Ev.step (fun k => slices_Concat_int64_int64.l1.eq_2 _ _ _ _ _) ?_
  rw [r0, e0, hl]
  refine Ev.ite_pos (by omega) (Ev.ite_pos (by omega) (Ev.ite_pos (by omega) (Ev.ite_pos (by simp; omega) ?_)))
  refine Ev.step (fun k => slices_Concat_int64_int64.l1.eq_2 _ _ _ _ _) ?_
  rw [r1, e1, hl]
  refine Ev.ite_pos (by omega) (Ev.ite_pos (by omega) (Ev.ite_pos (by omega) (Ev.ite_pos (by simp; omega) ?_)))
  refine Ev.step (fun k => slices_Concat_int64_int64.l1.eq_2 _ _ _ _ _) (Ev.ite_neg (by omega) ?_)
  exact Ev.eq_ (Ev.now _) (by simp)
end Go.Proofs.Ytpbobnpmiafbbaa.Q
