/- The law on SlabAt answers true for every square and every cell; no condition. -/
import Derived.Test.YtpelelodjigijaaXQLawSlabAt
import Derived.Test.YtpelelodjigijaaXQOpn
import Derived.Test.YtpelelodjigijaaXQBSqWf
import Derived.Test.YtpelelodjigijaaXQBAt
import Derived.Test.YtpelelodjigijaaXQBCell
namespace Go.Proofs.Ytpelelodjigijaa.Q
open Go.RowKit Go.Proofs.YtpelelodjigijaaW.PrintWords Go.Proofs.YtpelelodjigijaaW.PrintLast Go.Proofs.YtpelelodjigijaaW.PrintMore
set_option linter.unusedVariables false
def Pure.FnExactSlabAt : Prop := ∀ (x0 : S25) (x1 : S44), wf25 x0 → wf44 x1 → ∃ k, laws_FnExactSlabAt.f k x0.f0 x0.f1 x0.f2 x1.f0 x1.f1 = some true
def atR (q : Sq) (x y : Int) : Int × Int := if codeC (sqB q) (isC q x y) = 0 then (coverAt q.f2 y x, 0) else (0, codeC (sqB q) (isC q x y))
theorem specSlabAt (q : Sq) (x y : Int) (hq : smallQ q) (hx : small x) (hy : small y) : Ev (fun k => spec_SlabAt.f k q.f0 q.f1 q.f2 x y) (atR q x y) := by
  unfold spec_SlabAt.f atR
  refine Ev.call (specIs q hq x y hx hy) (Ev.bind (told_val q hq _) ?_)
  by_cases h : codeC (sqB q) (isC q x y) = 0
  · rw [if_pos h]
    have hv : sqB q = true := by unfold codeC at h; cases hs : sqB q <;> simp_all
    have hc : isC q x y = true := by unfold codeC at h; rw [hv, if_pos rfl] at h; cases hs : isC q x y <;> simp_all
    obtain ⟨⟨w0, w1⟩, ⟨v0, v1⟩, -⟩ := sqB_edges hv
    unfold isC at hc
    rw [Bool.and_eq_true] at hc
    have i0 := inB_iff.1 hc.1
    have i1 := inB_iff.1 hc.2
    have e := sqB_cell hv (y := y) (x := x) (by omega) (by omega)
    unfold cellAt at e
    refine Ev.ite_pos h (Ev.bind (lay_val q hq) (Ev.ite_pos (layV_len q) (Ev.ite_pos i1.1 (Ev.ite_pos (by omega) (Ev.ite_pos i0.1 (Ev.ite_pos (by omega) (Ev.ite_pos (by rw [layV_len]; omega) (Ev.const ?_))))))))
    have hlo := findFrom_lo (inside y x) q.f2 0
    have hl := hq.2.2.1
    rw [e]
    unfold coverAt
    rw [w64 (by omega) (by omega)]
    congr 2
    omega
  · rw [if_neg h]
    exact Ev.ite_neg h (Ev.now _)
theorem implSlabAt (q : Sq) (x y : Int) (hq : smallQ q) (hx : small x) (hy : small y) : Ev (fun k => impl_SlabAt.f k q.f0 q.f1 q.f2 x y) (atR q x y) := by
  unfold impl_SlabAt.f atR
  refine Ev.bind (cellCode_val q hq ⟨x, y⟩ hx hy) ?_
  show Ev (fun k => if codeC (sqB q) (isC q x y) = 0 then _ else _) _
  by_cases h : codeC (sqB q) (isC q x y) = 0
  · rw [if_pos h, small_w hx, small_w hy]
    exact Ev.ite_pos h (Ev.bind (at_val q hq x y) (Ev.now _))
  · rw [if_neg h]
    exact Ev.ite_neg h (Ev.now _)
theorem pure_FnExactSlabAt : Pure.FnExactSlabAt := by
  intro x c hx hc
  have hml := hx.2.2.1
  unfold maxLen at hml
  refine Ev.rounds (g := fun k => laws_FnExactSlabAt.f k x.f0 x.f1 x.f2 c.f0 c.f1) ?_
  unfold laws_FnExactSlabAt.f
  refine Ev.call (szSq x hml) ?_
  by_cases h : (1048576 : Int) < x.f2.length
  · rw [if_pos h]
    exact Ev.ite_pos (by decide) (Ev.now _)
  · rw [if_neg h]
    have hq := sq_small hx (by omega)
    have hl2 : (sqOf x).f2.length ≤ 1048576 := hq.2.2.1
    have hcc : laws_toCell.f c.f0 c.f1 = some (c.f0, c.f1) := by simp [laws_toCell.f]
    have hS := specSlabAt (sqOf x) c.f0 c.f1 hq (wf8 hc.1) (wf8 hc.2)
    have hI := implSlabAt (sqOf x) c.f0 c.f1 hq (wf8 hc.1) (wf8 hc.2)
    generalize atR (sqOf x) c.f0 c.f1 = R at *
    refine Ev.ite_neg (by omega) (Ev.bind (toSq x (by omega)) (Ev.call hcc (Ev.bind hS (Ev.bind (toSq x (by omega)) (Ev.call hcc (Ev.bind hI (Ev.ite_pos rfl ?_)))))))
    rw [show (R.2 != R.2) = false by simp]
    exact Ev.step (fun k => laws_FnExactSlabAt.j0.eq_2 _ _ _ _ _ _ _ _) (Ev.ite_neg (by decide) (Ev.bind (toSq x (by omega)) (Ev.bind (eqSq (sqOf x) (by omega)) (Ev.ite_pos rfl (Ev.now _)))))
end Go.Proofs.Ytpelelodjigijaa.Q
