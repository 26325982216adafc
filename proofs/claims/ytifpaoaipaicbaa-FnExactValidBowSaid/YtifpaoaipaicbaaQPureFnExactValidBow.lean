/- The law on ValidBow answers true for every list of heights; no condition. -/
import Derived.Test.YtifpaoaipaicbaaQLawValidBow
import Derived.Test.YtifpaoaipaicbaaQOpn
import Derived.Test.YtifpaoaipaicbaaQBBow
import Derived.Test.YtifpaoaipaicbaaQBInts
namespace Go.Proofs.Ytifpaoaipaicbaa.Q
open Go.RowKit Go.Proofs.YtifpaoaipaicbaaW.PrintWords Go.Proofs.YtifpaoaipaicbaaW.PrintLast Go.Proofs.YtifpaoaipaicbaaW.PrintMore

def Pure.FnExactValidBow : Prop := ∀ (x0 : List Int), (x0.length ≤ maxLen ∧ ∀ z_ ∈ x0, (Lit.int .i64 z_).wf = true) → ∃ k, laws_FnExactValidBow.f k x0 = some true

theorem pure_FnExactValidBow : Pure.FnExactValidBow := by
  rintro l ⟨hl, -⟩
  unfold maxLen at hl
  refine Ev.rounds (g := fun k => laws_FnExactValidBow.f k l) ?_
  unfold laws_FnExactValidBow.f
  by_cases h : (l.length : Int) > 1048576
  · exact Ev.ite_pos h (Ev.now _)
  · refine Ev.ite_neg h (Ev.bind (toInts l (by omega)) (Ev.bind (specValidBow l (by omega)) (Ev.bind (toInts l (by omega)) (Ev.bind (implBow l (by omega)) ?_))))
    exact Ev.ite_neg (by simp) (Ev.bind (toInts l (by omega)) (Ev.bind (eqInts l (by omega)) (Ev.ite_pos rfl (Ev.now _))))
end Go.Proofs.Ytifpaoaipaicbaa.Q
