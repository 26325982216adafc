/-
  DERIVED. GIVEN WITH THE SEED: THE CARDS: each row of YteinapckfhpdkaaDoorRows.lean that lists a variable, with what it lists TIED to the program's text (the seventh form; the later family's looks); each row that meets fmt, with fmt's text TOLD by the authors' own Lean function (tested against real Go, not proved from fmt's source: count such statements apart). THE CARD IS WHAT COUNTS. Prove the row's statement (the work); the ties are given (YteinapckfhpdkaaDoorTie.lean); close each card by the builder's one call (the guide's Derived/Test/ToyasCard.lean, 'card_holds'). Laid BY PROGRAM, IN A SANDBOX (cutbox-door.mjs). By AI agents, Wed Nov 11 2026. No macro, syntax, notation, axiom, sorry.
-/
import Derived.Test.YteinapckfhpdkaaDoorRows
import GoSem.ClaimSeven
namespace Go.Proofs.YteinapckfhpdkaaDoor
namespace Rows

/-- THE TIED CARD OF 'laws.FnExactReadSquare'. -/
def fnExactReadSquareCard : Claim7 := { stood := { row := fnExactReadSquareRow, standIns := [], harness := (true, "3615f01869501980f70ff0963517d030b43d3f4469d99ec917e386eb7b48de93"), looks := false }, kinds := [], alts := [], laidByText := true, laidKinds := [.data, .pinned], laidTests := true, laidLooks := .later }
def FnExactReadSquareCardSaid : Prop := Claim7.holds Tryd.pinned (.plain (OpenSpec.ofChange fnExactReadSquareSpec)) fnExactReadSquareCard

/-- THE SECOND FORM's CARD OF 'laws.FnExactReadSquare'. -/
def fnExactReadSquareUptoCard : Claim7 := { stood := { row := fnExactReadSquareUptoRow, standIns := [], harness := (true, "3615f01869501980f70ff0963517d030b43d3f4469d99ec917e386eb7b48de93"), looks := false }, kinds := [], alts := [], laidByText := true, laidKinds := [.data, .pinned], laidTests := true, laidLooks := .later }
def FnExactReadSquareUptoCardSaid : Prop := Claim7.holds Tryd.pinned (.plain (OpenSpec.upto fnExactReadSquareSpec)) fnExactReadSquareUptoCard
end Rows
end Go.Proofs.YteinapckfhpdkaaDoor
