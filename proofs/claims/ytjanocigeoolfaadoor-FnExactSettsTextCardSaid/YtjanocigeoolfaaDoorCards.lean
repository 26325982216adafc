/-
  DERIVED. GIVEN WITH THE SEED: THE CARDS: each row of YtjanocigeoolfaaDoorRows.lean that lists a variable, with what it lists TIED to the program's text (the seventh form; the later family's looks); each row that meets fmt, with fmt's text TOLD by the authors' own Lean function (tested against real Go, not proved from fmt's source: count such statements apart). THE CARD IS WHAT COUNTS. Prove the row's statement (the work); the ties are given (YtjanocigeoolfaaDoorTie.lean); close each card by the builder's one call (the guide's Derived/Test/ToyasCard.lean, 'card_holds'). Laid BY PROGRAM, IN A SANDBOX (cutbox-door.mjs). By AI agents, Wed Nov 11 2026. No macro, syntax, notation, axiom, sorry.
-/
import Derived.Test.YtjanocigeoolfaaDoorRows
import GoSem.ClaimSeven
namespace Go.Proofs.YtjanocigeoolfaaDoor
namespace Rows

/-- THE TIED CARD OF 'laws.FnExactSettsText'. -/
def fnExactSettsTextCard : Claim7 := { stood := { row := fnExactSettsTextRow, standIns := [], harness := (true, "b13d3f3b5303d6332663bd069d9a54070e983d352b5d7f3c667c3567f04e989d"), looks := true }, kinds := [], alts := [], laidByText := true, laidKinds := [.data, .data, .data], laidTests := true, laidLooks := .later }
def FnExactSettsTextCardSaid : Prop := Claim7.holds Tryd.pinned (.plain (OpenSpec.ofChange fnExactSettsTextSpec)) fnExactSettsTextCard

/-- THE TIED CARD OF 'laws.FnExactReadSetts'. -/
def fnExactReadSettsCard : Claim7 := { stood := { row := fnExactReadSettsRow, standIns := [], harness := (true, "b13d3f3b5303d6332663bd069d9a54070e983d352b5d7f3c667c3567f04e989d"), looks := true }, kinds := [], alts := [], laidByText := true, laidKinds := [.data, .data, .data, .data, .sentinel, .sentinel, .pinned], laidTests := true, laidLooks := .later }
def FnExactReadSettsCardSaid : Prop := Claim7.holds Tryd.pinned (.plain (OpenSpec.ofChange fnExactReadSettsSpec)) fnExactReadSettsCard

/-- THE SECOND FORM's CARD OF 'laws.FnExactSettsText'. -/
def fnExactSettsTextUptoCard : Claim7 := { stood := { row := fnExactSettsTextUptoRow, standIns := [], harness := (true, "b13d3f3b5303d6332663bd069d9a54070e983d352b5d7f3c667c3567f04e989d"), looks := true }, kinds := [], alts := [], laidByText := true, laidKinds := [.data, .data, .data], laidTests := true, laidLooks := .later }
def FnExactSettsTextUptoCardSaid : Prop := Claim7.holds Tryd.pinned (.plain (OpenSpec.upto fnExactSettsTextSpec)) fnExactSettsTextUptoCard

/-- THE SECOND FORM's CARD OF 'laws.FnExactReadSetts'. -/
def fnExactReadSettsUptoCard : Claim7 := { stood := { row := fnExactReadSettsUptoRow, standIns := [], harness := (true, "b13d3f3b5303d6332663bd069d9a54070e983d352b5d7f3c667c3567f04e989d"), looks := true }, kinds := [], alts := [], laidByText := true, laidKinds := [.data, .data, .data, .data, .sentinel, .sentinel, .pinned], laidTests := true, laidLooks := .later }
def FnExactReadSettsUptoCardSaid : Prop := Claim7.holds Tryd.pinned (.plain (OpenSpec.upto fnExactReadSettsSpec)) fnExactReadSettsUptoCard
end Rows
end Go.Proofs.YtjanocigeoolfaaDoor
