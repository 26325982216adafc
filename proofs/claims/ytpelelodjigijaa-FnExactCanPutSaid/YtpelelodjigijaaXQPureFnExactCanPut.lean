/- The law on CanPut answers true for every square and every slab; no condition. -/
import Derived.Test.YtpelelodjigijaaXQLawCanPut
import Derived.Test.YtpelelodjigijaaXQOpn
import Derived.Test.YtpelelodjigijaaXQBSqWf
import Derived.Test.YtpelelodjigijaaXQBCan
namespace Go.Proofs.Ytpelelodjigijaa.Q
open Go.RowKit Go.Proofs.YtpelelodjigijaaW.PrintWords Go.Proofs.YtpelelodjigijaaW.PrintLast Go.Proofs.YtpelelodjigijaaW.PrintMore
set_option linter.unusedVariables false
def Pure.FnExactCanPut : Prop := ∀ (x0 : S25) (x1 : S35), wf25 x0 → wf35 x1 → ∃ k, laws_FnExactCanPut.f k x0.f0 x0.f1 x0.f2 x1.f0 x1.f1 x1.f2 x1.f3 = some true
def canR (q : Sq) (s : Sl) : Bool × Int := if sqB q = true then (canB q s, 0) else (false, 1)
theorem specCanPut (q : Sq) (s : Sl) (hq : smallQ q) (hs : smallS s) : Ev (fun k => spec_CanPut.f k q.f0 q.f1 q.f2 s.f0 s.f1 s.f2 s.f3) (canR q s) := by
  unfold spec_CanPut.f canR
  refine Ev.bind (specOk q hq) ?_
  by_cases h : sqB q = true
  · rw [if_pos h]
    exact Ev.ite_pos h (Ev.bind (specCan q s hq hs h) (Ev.now _))
  · rw [if_neg h]
    exact Ev.ite_neg h (Ev.now _)
theorem implCanPut (q : Sq) (s : Sl) (hq : smallQ q) (hs : smallS s) : Ev (fun k => impl_CanPut.f k q.f0 q.f1 q.f2 s.f0 s.f1 s.f2 s.f3) (canR q s) := by
  unfold impl_CanPut.f canR
  refine Ev.bind (implValid q hq) ?_
  by_cases h : sqB q = true
  · rw [if_pos h]
    exact Ev.ite_pos h (Ev.bind (implCan q s hq hs) (Ev.now _))
  · rw [if_neg h]
    exact Ev.ite_neg h (Ev.now _)
theorem pure_FnExactCanPut : Pure.FnExactCanPut := by
  intro x s hx hs
  have hml := hx.2.2.1
  unfold maxLen at hml
  refine Ev.rounds (g := fun k => laws_FnExactCanPut.f k x.f0 x.f1 x.f2 s.f0 s.f1 s.f2 s.f3) ?_
  unfold laws_FnExactCanPut.f
  refine Ev.call (szSq x hml) ?_
  by_cases h : (1048576 : Int) < x.f2.length
  · rw [if_pos h]
    exact Ev.ite_pos (by decide) (Ev.now _)
  · rw [if_neg h]
    have hq := sq_small hx (by omega)
    have hl2 : (sqOf x).f2.length ≤ 1048576 := hq.2.2.1
    have hs' : smallS (slabOf s) := ⟨wf8 hs.1, wf8 hs.2.1, wf8 hs.2.2.1, wf8 hs.2.2.2⟩
    have hc : laws_toSlab.f s.f0 s.f1 s.f2 s.f3 = some (s.f0, s.f1, s.f2, s.f3) := by simp [laws_toSlab.f]
    have hS := specCanPut (sqOf x) (slabOf s) hq hs'
    have hI := implCanPut (sqOf x) (slabOf s) hq hs'
    generalize canR (sqOf x) (slabOf s) = R at *
    refine Ev.ite_neg (by omega) (Ev.bind (toSq x (by omega)) (Ev.call hc (Ev.bind hS (Ev.bind (toSq x (by omega)) (Ev.call hc (Ev.bind hI ?_))))))
    rw [show (R.1 != R.1) = false by simp, show (R.2 != R.2) = false by simp]
    exact Ev.ite_neg (by decide) (Ev.step (fun k => laws_FnExactCanPut.j0.eq_2 _ _ _ _ _ _ _ _) (Ev.ite_neg (by decide) (Ev.bind (toSq x (by omega)) (Ev.bind (eqSq (sqOf x) (by omega)) (Ev.ite_pos rfl (Ev.now _))))))
end Go.Proofs.Ytpelelodjigijaa.Q
