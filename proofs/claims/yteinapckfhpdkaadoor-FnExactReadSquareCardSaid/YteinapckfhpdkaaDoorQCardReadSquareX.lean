/- The tied card of ReadSquare: the row, and what it lists tied to the program's text. -/
import Derived.Test.YteinapckfhpdkaaDoorQRowLReadSquareX
import Derived.Test.YteinapckfhpdkaaDoorTie
import Derived.Test.YteinapckfhpdkaaDoorCards
import Derived.SevenTiedAt
namespace Go.Proofs.YteinapckfhpdkaaDoor
open Go
theorem fnExactReadSquareCard_holds : Rows.FnExactReadSquareCardSaid :=
 Claim7.holds_tied_plain_at .later [] [.data, .pinned] true (true, "3615f01869501980f70ff0963517d030b43d3f4469d99ec917e386eb7b48de93") false
  fnExactReadSquare_holds (fun _ h => by cases h) (by kernel_rfl) (fun _ h => by cases h) fnExactReadSquare_row_tie rfl ⟨rfl, rfl⟩ (by kernel_rfl) rfl
  (fun f fn hf hfn => by
   obtain rfl : f = 3 := Option.some.inj ((show Tryd.prog.funcNamed "loop.example/g01383/laws.FnExactReadSquare" = some 3 by kernel_rfl).symm.trans hf) |>.symm
   obtain rfl : fn = Tryd.f3 := (Option.some.inj (Tryd.func3.symm.trans hfn)).symm
   exact ⟨by kernel_rfl, fun j t ht => by
    rw [Tryd.params3] at ht
    have h3 : t = 9 := by
     rcases j with _ | j
     · simpa using ht.symm
     · simp at ht
    subst h3
    exact (show Tryd.prog.wantsStandIn 9 = false by kernel_rfl)⟩)
  (by kernel_rfl)
#print axioms fnExactReadSquareCard_holds
end Go.Proofs.YteinapckfhpdkaaDoor
