/- The tied card of ReadSetts: the row, and what it lists tied to the program's text. -/
import Derived.Test.YtebdblefhkcpeaaDoorQRowLReadSetts
import Derived.Test.YtebdblefhkcpeaaDoorTie
import Derived.Test.YtebdblefhkcpeaaDoorCards
import Derived.SevenTiedAt
namespace Go.Proofs.YtebdblefhkcpeaaDoor
open Go
/-- The tied card of FnExactReadSetts, for the claim. -/
theorem fnExactReadSettsCard_holds : Rows.FnExactReadSettsCardSaid :=
  Claim7.holds_tied_plain_at .later [] [.data, .data, .data, .data, .sentinel, .sentinel, .pinned] true (true, "0d5c003f873e59893a79edea1b684af49ecb0f952c5b058f7a6823178a3f295e") true
    fnExactReadSetts_holds (fun _ h => by cases h) (by kernel_rfl) (fun _ h => by cases h) fnExactReadSetts_row_tie rfl ⟨rfl, rfl⟩ (by kernel_rfl) rfl
    (fun f fn hf hfn => by
      obtain rfl : f = 3 := Option.some.inj ((show Tryd.prog.funcNamed "loop.example/g01383/laws.FnExactReadSetts" = some 3 by kernel_rfl).symm.trans hf) |>.symm
      obtain rfl : fn = Tryd.f3 := (Option.some.inj (Tryd.func3.symm.trans hfn)).symm
      exact ⟨by kernel_rfl, fun j t ht => by
        rw [Tryd.params3] at ht
        have h3 : t = 9 := by
          rcases j with _ | j
          · simpa using ht.symm
          · simp at ht
        subst h3
        exact (show Tryd.prog.wantsStandIn 9 = false by kernel_rfl)⟩)
    (by kernel_rfl)
#print axioms fnExactReadSettsCard_holds
end Go.Proofs.YtebdblefhkcpeaaDoor
