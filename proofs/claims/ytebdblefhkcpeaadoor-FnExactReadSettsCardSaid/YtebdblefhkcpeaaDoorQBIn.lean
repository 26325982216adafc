/- Plain facts on the bounds' tests of program and reference. -/
import Derived.Test.YtebdblefhkcpeaaDoorQ4
import Derived.Test.YtebdblefhkcpeaaDoorQ1
import Derived.Test.YtebdblefhkcpeaaDoorQEv
namespace Go.Proofs.YtebdblefhkcpeaaDoor.Q
open Go.RowKit Go.Proofs.YtebdblefhkcpeaaDoorW.PrintWords Go.Proofs.YtebdblefhkcpeaaDoorW.PrintLast Go.Proofs.YtebdblefhkcpeaaDoorW.PrintMore

def inB (a b c : Int) : Bool := decide (b ≤ a ∧ a ≤ c)
theorem within_val (a b c : Int) : impl_within.f a b c = some (inB a b c) := by
  unfold impl_within.f inB
  by_cases h : b ≤ a <;> simp [h]
theorem l00In_val (a b c : Int) : spec_l00In.f a b c = some (inB a b c) := by
  unfold spec_l00In.f inB
  by_cases h : b ≤ a <;> simp [h]
theorem inB_iff {a b c : Int} : inB a b c = true ↔ b ≤ a ∧ a ≤ c := by simp [inB]
theorem inB_no {a b c : Int} : inB a b c = false ↔ ¬ (b ≤ a ∧ a ≤ c) := by simp [inB]
end Go.Proofs.YtebdblefhkcpeaaDoor.Q
