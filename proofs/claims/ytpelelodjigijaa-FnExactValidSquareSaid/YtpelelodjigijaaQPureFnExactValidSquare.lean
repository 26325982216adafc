/- The law on ValidSquare answers true for every square; no condition. -/
import Derived.Test.YtpelelodjigijaaQLawValidSquare
import Derived.Test.YtpelelodjigijaaQOpn
import Derived.Test.YtpelelodjigijaaQBSqWf
namespace Go.Proofs.Ytpelelodjigijaa.Q
open Go.RowKit Go.Proofs.YtpelelodjigijaaW.PrintWords Go.Proofs.YtpelelodjigijaaW.PrintLast Go.Proofs.YtpelelodjigijaaW.PrintMore
set_option linter.unusedVariables false

def Pure.FnExactValidSquare : Prop := ∀ (x0 : S25), wf25 x0 → ∃ k, laws_FnExactValidSquare.f k x0.f0 x0.f1 x0.f2 = some true

theorem specOk (q : Sq) (hq : smallQ q) : Ev (fun k => spec_l01Ok.f k [q]) (sqB q) := by
  unfold spec_l01Ok.f
  refine Ev.bind (lay_val q hq) (Ev.ite_pos (layV_len q) (Ev.eq_ (Ev.now _) (layV_spec q).1))
theorem pure_FnExactValidSquare : Pure.FnExactValidSquare := by
  intro x hx
  have hml := hx.2.2.1
  unfold maxLen at hml
  refine Ev.rounds (g := fun k => laws_FnExactValidSquare.f k x.f0 x.f1 x.f2) ?_
  unfold laws_FnExactValidSquare.f
  refine Ev.call (szSq x hml) ?_
  by_cases h : (1048576 : Int) < x.f2.length
  · rw [if_pos h]
    exact Ev.ite_pos (by decide) (Ev.now _)
  · rw [if_neg h]
    have hq := sq_small hx (by omega)
    have hl2 : (sqOf x).f2.length ≤ 1048576 := hq.2.2.1
    refine Ev.ite_neg (by omega) (Ev.bind (toSq x (by omega)) (Ev.bind (a := sqB (sqOf x)) ?_ (Ev.bind (toSq x (by omega)) (Ev.bind (implValid (sqOf x) hq) ?_))))
    · unfold spec_ValidSquare.f
      exact Ev.bind (specOk (sqOf x) hq) (Ev.now _)
    · rw [show (sqB (sqOf x) != sqB (sqOf x)) = false by simp]
      exact Ev.ite_neg (by decide) (Ev.bind (toSq x (by omega)) (Ev.bind (eqSq (sqOf x) (by omega)) (Ev.ite_pos rfl (Ev.now _))))
end Go.Proofs.Ytpelelodjigijaa.Q
