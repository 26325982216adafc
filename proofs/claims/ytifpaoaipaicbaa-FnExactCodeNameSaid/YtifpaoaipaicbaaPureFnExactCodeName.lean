/- The law on CodeName answers true for every int64 code; no condition. -/
import Derived.Test.YtifpaoaipaicbaaPFnExactCodeNamex1
namespace Go.Proofs.Ytifpaoaipaicbaa.Pure
open Go.RowKit Go.Proofs.Ytifpaoaipaicbaa.PFnExactCodeName Go.Proofs.YtifpaoaipaicbaaW.PrintWords Go.Proofs.YtifpaoaipaicbaaW.PrintLast

theorem FnExactCodeName : laws_FnExactCodeName.Pure := by
  intro a0 _
  by_cases h : 0 ≤ a0 ∧ a0 ≤ 8
  · obtain ⟨h0, h8⟩ := h
    have hc : a0 = 0 ∨ a0 = 1 ∨ a0 = 2 ∨ a0 = 3 ∨ a0 = 4 ∨ a0 = 5 ∨ a0 = 6 ∨ a0 = 7 ∨ a0 = 8 := by omega
    have hw : wrap64 8 = 8 := by unfold wrap64; omega
    rcases hc with rfl | rfl | rfl | rfl | rfl | rfl | rfl | rfl | rfl <;> simp [laws_FnExactCodeName.f, spec_CodeName.f, impl_CodeName.f, spec_l00In.f, impl_within.f, impl_size_string.f, hw, rdOf]
  · have h1 : spec_CodeName.f a0 = some (⟨#[]⟩ : ByteArray) := by
      unfold spec_CodeName.f spec_l00In.f
      by_cases hg : a0 ≥ 0
      · have hn : ¬ a0 ≤ 8 := fun hl => h ⟨hg, hl⟩
        simp [hg, hn]
      · simp [hg]
    have h2 : impl_CodeName.f a0 = some (⟨#[]⟩ : ByteArray) := by
      unfold impl_CodeName.f impl_size_string.f impl_within.f
      by_cases hg : 0 ≤ a0
      · have hn : ¬ a0 ≤ 8 := fun hl => h ⟨hg, hl⟩
        have hw : wrap64 8 = 8 := by unfold wrap64; omega
        simp [hg, hw, hn]
      · simp [hg]
    unfold laws_FnExactCodeName.f
    rw [h1, h2]
    simp

end Go.Proofs.Ytifpaoaipaicbaa.Pure
