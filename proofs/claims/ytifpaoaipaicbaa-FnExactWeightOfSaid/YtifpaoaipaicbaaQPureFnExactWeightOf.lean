/- The law on WeightOf answers true for every slab; no condition. -/
import Derived.Test.YtifpaoaipaicbaaQLawWeightOf
import Derived.Test.YtifpaoaipaicbaaQOpn
import Derived.Test.YtifpaoaipaicbaaQ2
import Derived.Test.YtifpaoaipaicbaaQ1
import Derived.Test.YtifpaoaipaicbaaQBIn
namespace Go.Proofs.Ytifpaoaipaicbaa.Q
open Go.RowKit Go.Proofs.YtifpaoaipaicbaaW.PrintWords Go.Proofs.YtifpaoaipaicbaaW.PrintLast Go.Proofs.YtifpaoaipaicbaaW.PrintMore

def Pure.FnExactWeightOf : Prop := ∀ (x0 : S27), wf27 x0 → laws_FnExactWeightOf.f x0.f0 x0.f1 x0.f2 x0.f3 = some true

theorem isEdge_val (a : Int) : impl_isEdge.f a = some (inB a 1 12) := by
  unfold impl_isEdge.f
  rw [within_val]
  rfl
theorem l01Edge_val (a : Int) : spec_l01Edge.f a = some (inB a 1 12) := by
  unfold spec_l01Edge.f
  rw [l00In_val]
  rfl
theorem pure_FnExactWeightOf : Pure.FnExactWeightOf := by
  intro x _
  have h : impl_WeightOf.f x.f0 x.f1 x.f2 x.f3 = spec_WeightOf.f x.f0 x.f1 x.f2 x.f3 := by
    unfold impl_WeightOf.f spec_WeightOf.f spec_l05Weight.f impl_Slab_area.f
    simp only [isEdge_val, l01Edge_val, Option.bind_some]
    by_cases h1 : inB (wrap64 x.f2) 1 12 = true <;> by_cases h2 : inB (wrap64 x.f3) 1 12 = true <;> simp [h1, h2]
  have hs : ∃ r, spec_WeightOf.f x.f0 x.f1 x.f2 x.f3 = some r := by
    unfold spec_WeightOf.f spec_l05Weight.f
    simp only [l01Edge_val, Option.bind_some]
    by_cases h1 : inB (wrap64 x.f2) 1 12 = true <;> by_cases h2 : inB (wrap64 x.f3) 1 12 = true <;> simp [h1, h2]
  obtain ⟨r, hr⟩ := hs
  have hc : laws_toSlab.f x.f0 x.f1 x.f2 x.f3 = some (x.f0, x.f1, x.f2, x.f3) := by simp [laws_toSlab.f]
  unfold laws_FnExactWeightOf.f
  rw [hc]
  simp only [Option.bind_some, h, hr, if_true]
end Go.Proofs.Ytifpaoaipaicbaa.Q
