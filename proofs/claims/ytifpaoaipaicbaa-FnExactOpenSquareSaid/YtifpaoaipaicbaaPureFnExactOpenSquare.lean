/- The law on OpenSquare answers true for every two int64 sides; no condition. -/
import Derived.Test.YtifpaoaipaicbaaPFnExactOpenSquarex2
namespace Go.Proofs.Ytifpaoaipaicbaa.Pure
open Go.RowKit Go.Proofs.Ytifpaoaipaicbaa.PFnExactOpenSquare Go.Proofs.YtifpaoaipaicbaaW.PrintWords Go.Proofs.YtifpaoaipaicbaaW.PrintLast

theorem within_val (a : Int) : impl_isEdge.f a = some (decide (1 ≤ a ∧ a ≤ 12)) := by
  unfold impl_isEdge.f impl_within.f
  by_cases h : 1 ≤ a <;> simp [h]
theorem edge_val (a : Int) : spec_l01Edge.f a = some (decide (1 ≤ a ∧ a ≤ 12)) := by
  unfold spec_l01Edge.f spec_l00In.f
  by_cases h : 1 ≤ a <;> simp [h]
theorem FnExactOpenSquare : laws_FnExactOpenSquare.Pure := by
  intro a0 a1 _ _
  refine ⟨3, ?_⟩
  unfold laws_FnExactOpenSquare.f spec_OpenSquare.f impl_OpenSquare.f
  simp only [within_val, edge_val]
  by_cases h0 : 1 ≤ a0 ∧ a0 ≤ 12 <;> by_cases h1 : 1 ≤ a1 ∧ a1 ≤ 12 <;>
    simp [h0, h1, laws_eqSquare.f, laws_eqSlabS.f, laws_eqSlabS.l0, laws_FnExactOpenSquare.j0, laws_FnExactOpenSquare.j1, laws_markSquare.f, laws_markSlabS.f, laws_markSlabS.l0, laws_heldSquare.f, laws_heldSlabS.f, laws_heldSlabS.l0, within_val, impl_OpenSquare.f]

end Go.Proofs.Ytifpaoaipaicbaa.Pure
