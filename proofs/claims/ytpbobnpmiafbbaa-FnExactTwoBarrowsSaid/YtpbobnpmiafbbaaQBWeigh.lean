/- Plain facts on slabs' weights. -/
import Derived.Test.YtpbobnpmiafbbaaQ3
import Derived.Test.YtpbobnpmiafbbaaQ1
import Derived.Test.YtpbobnpmiafbbaaQBIn
import Derived.Test.YtpbobnpmiafbbaaQBSlab
namespace Go.Proofs.Ytpbobnpmiafbbaa.Q
open Go.RowKit Go.Proofs.YtpbobnpmiafbbaaW.PrintWords Go.Proofs.YtpbobnpmiafbbaaW.PrintLast Go.Proofs.YtpbobnpmiafbbaaW.PrintMore
set_option linter.unusedVariables false

theorem isEdge_val (a : Int) : impl_isEdge.f a = some (inB a 1 12) := by
  unfold impl_isEdge.f
  rw [within_val]
  rfl
theorem l01Edge_val (a : Int) : spec_l01Edge.f a = some (inB a 1 12) := by
  unfold spec_l01Edge.f
  rw [l00In_val]
  rfl
/-- A slab's weight. -/
def weigh (x : Sl) : Int := if inB (wrap64 x.f2) 1 12 = true then (if inB (wrap64 x.f3) 1 12 = true then wrap64 ((wrap64 ((wrap64 x.f2) * (wrap64 x.f3))) * 4) else 0) else 0
theorem implWeigh (x : Sl) : impl_WeightOf.f x.f0 x.f1 x.f2 x.f3 = some (weigh x) := by
  unfold impl_WeightOf.f impl_Slab_area.f weigh
  simp only [isEdge_val, Option.bind_some]
  by_cases h1 : inB (wrap64 x.f2) 1 12 = true <;> by_cases h2 : inB (wrap64 x.f3) 1 12 = true <;> simp [h1, h2]
theorem specWeigh (x : Sl) : spec_l05Weight.f x.f0 x.f1 x.f2 x.f3 = some (weigh x) := by
  unfold spec_l05Weight.f weigh
  simp only [l01Edge_val, Option.bind_some]
  by_cases h1 : inB (wrap64 x.f2) 1 12 = true <;> by_cases h2 : inB (wrap64 x.f3) 1 12 = true <;> simp [h1, h2]
theorem prod12 {a b : Int} (ha : 1 ≤ a ∧ a ≤ 12) (hb : 1 ≤ b ∧ b ≤ 12) : 1 ≤ a * b ∧ a * b ≤ 144 := by
  have h1 : 1 * 1 ≤ a * b := Int.mul_le_mul ha.1 hb.1 (by decide) (by omega)
  have h2 : a * b ≤ 12 * 12 := Int.mul_le_mul ha.2 hb.2 (by omega) (by decide)
  omega
theorem weigh_le (x : Sl) : 0 ≤ weigh x ∧ weigh x ≤ 576 := by
  unfold weigh
  split
  · rename_i h1
    split
    · rename_i h2
      have hp := prod12 (inB_iff.1 h1) (inB_iff.1 h2)
      generalize wrap64 x.f2 * wrap64 x.f3 = p at *
      rw [w64 (x := p) (by omega) (by omega), w64 (by omega) (by omega)]
      omega
    · omega
  · omega
end Go.Proofs.Ytpbobnpmiafbbaa.Q
