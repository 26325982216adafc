/- The law on ValidSetts answers true for every list of setts; no condition. -/
import Derived.Test.YtifpaoaipaicbaaQLawValidSetts
import Derived.Test.YtifpaoaipaicbaaQOpn
import Derived.Test.YtifpaoaipaicbaaQ4
import Derived.Test.YtifpaoaipaicbaaQBSett
namespace Go.Proofs.Ytifpaoaipaicbaa.Q
open Go.RowKit Go.Proofs.YtifpaoaipaicbaaW.PrintWords Go.Proofs.YtifpaoaipaicbaaW.PrintLast Go.Proofs.YtifpaoaipaicbaaW.PrintMore

def Pure.FnExactValidSetts : Prop := ∀ (x0 : List (S79)), (x0.length ≤ maxLen ∧ ∀ z_ ∈ x0, wf79 z_) → ∃ k, laws_FnExactValidSetts.f k x0 = some true

theorem pure_FnExactValidSetts : Pure.FnExactValidSetts := by
  rintro l ⟨hl, -⟩
  unfold maxLen at hl
  refine Ev.rounds (g := fun k => laws_FnExactValidSetts.f k l) ?_
  unfold laws_FnExactValidSetts.f
  refine Ev.call (szSetts l _ hl (by omega) (by omega)) ?_
  by_cases h : (1048576 : Int) < l.length
  · rw [if_pos h]
    exact Ev.ite_pos (by decide) (Ev.now _)
  · rw [if_neg h]
    have hS : Ev (fun k => spec_ValidSetts.f k (l.map settOf)) (settsB (l.map settOf)) := by
      unfold spec_ValidSetts.f
      exact Ev.bind (specSetts _ (by simp; omega)) (Ev.now _)
    exact Ev.ite_neg (by omega) (Ev.bind (toSetts l (by omega)) (Ev.bind hS (Ev.bind (toSetts l (by omega)) (Ev.bind (implSetts _ (by simp; omega)) (Ev.ite_neg (by simp) (Ev.bind (toSetts l (by omega)) (Ev.bind (eqSetts _ (by simp; omega)) (Ev.ite_pos rfl (Ev.now _)))))))))
end Go.Proofs.Ytifpaoaipaicbaa.Q
