/- Plain facts on the bounds' tests of program and reference. -/
import Derived.Test.YtjanocigeoolfaaDoorQ5
import Derived.Test.YtjanocigeoolfaaDoorQ1
import Derived.Test.YtjanocigeoolfaaDoorQEv
namespace Go.Proofs.YtjanocigeoolfaaDoor.Q
open Go.RowKit Go.Proofs.YtjanocigeoolfaaDoorW.PrintWords Go.Proofs.YtjanocigeoolfaaDoorW.PrintLast Go.Proofs.YtjanocigeoolfaaDoorW.PrintMore

def inB (a b c : Int) : Bool := decide (b ≤ a ∧ a ≤ c)
theorem within_val (a b c : Int) : impl_within.f a b c = some (inB a b c) := by
  unfold impl_within.f inB
  by_cases h : b ≤ a <;> simp [h]
theorem l00In_val (a b c : Int) : spec_l00In.f a b c = some (inB a b c) := by
  unfold spec_l00In.f inB
  by_cases h : b ≤ a <;> simp [h]
theorem inB_iff {a b c : Int} : inB a b c = true ↔ b ≤ a ∧ a ≤ c := by simp [inB]
theorem inB_no {a b c : Int} : inB a b c = false ↔ ¬ (b ≤ a ∧ a ≤ c) := by simp [inB]
end Go.Proofs.YtjanocigeoolfaaDoor.Q
