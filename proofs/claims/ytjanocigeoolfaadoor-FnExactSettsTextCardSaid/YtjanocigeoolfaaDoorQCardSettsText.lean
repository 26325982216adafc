/- The tied card of SettsText: the row, and what it lists tied to the program's text. -/
import Derived.Test.YtjanocigeoolfaaDoorQRowL
import Derived.Test.YtjanocigeoolfaaDoorTie
import Derived.Test.YtjanocigeoolfaaDoorCards
import Derived.SevenTiedAt
namespace Go.Proofs.YtjanocigeoolfaaDoor
open Go
/-- The tied card of FnExactSettsText, for the claim. -/
theorem fnExactSettsTextCard_holds : Rows.FnExactSettsTextCardSaid :=
  Claim7.holds_tied_plain_at .later [] [.data, .data, .data] true (true, "b13d3f3b5303d6332663bd069d9a54070e983d352b5d7f3c667c3567f04e989d") true
    fnExactSettsText_holds (fun _ h => by cases h) (by kernel_rfl) (fun _ h => by cases h) fnExactSettsText_row_tie rfl ⟨rfl, rfl⟩ (by kernel_rfl) rfl
    (fun f fn hf hfn => by
      obtain rfl : f = 3 := Option.some.inj ((show Tryd.prog.funcNamed "loop.example/g01383/laws.FnExactSettsText" = some 3 by kernel_rfl).symm.trans hf) |>.symm
      obtain rfl : fn = Tryd.f3 := (Option.some.inj (Tryd.func3.symm.trans hfn)).symm
      exact ⟨by kernel_rfl, fun j t ht => by
        rw [Tryd.params3] at ht
        have h3 : t = 22 := by
          rcases j with _ | j
          · simpa using ht.symm
          · simp at ht
        subst h3
        exact (show Tryd.prog.wantsStandIn 22 = false by kernel_rfl)⟩)
    (by kernel_rfl)
#print axioms fnExactSettsTextCard_holds
end Go.Proofs.YtjanocigeoolfaaDoor
