/-
  DERIVED. GIVEN WITH THE SEED: THE CARDS: each row of YtebdblefhkcpeaaDoorRows.lean that lists a variable, with what it lists TIED to the program's text (the seventh form; the later family's looks); each row that meets fmt, with fmt's text TOLD by the authors' own Lean function (tested against real Go, not proved from fmt's source: count such statements apart). THE CARD IS WHAT COUNTS. Prove the row's statement (the work); the ties are given (YtebdblefhkcpeaaDoorTie.lean); close each card by the builder's one call (the guide's Derived/Test/ToyasCard.lean, 'card_holds'). Laid BY PROGRAM, IN A SANDBOX (cutbox-door.mjs). By AI agents, Wed Nov 11 2026. No macro, syntax, notation, axiom, sorry.
-/
import Derived.Test.YtebdblefhkcpeaaDoorRows
import GoSem.ClaimSeven
namespace Go.Proofs.YtebdblefhkcpeaaDoor
namespace Rows

/-- THE TIED CARD OF 'laws.FnExactReadSetts'. -/
def fnExactReadSettsCard : Claim7 := { stood := { row := fnExactReadSettsRow, standIns := [], harness := (true, "0d5c003f873e59893a79edea1b684af49ecb0f952c5b058f7a6823178a3f295e"), looks := true }, kinds := [], alts := [], laidByText := true, laidKinds := [.data, .data, .data, .data, .sentinel, .sentinel, .pinned], laidTests := true, laidLooks := .later }
def FnExactReadSettsCardSaid : Prop := Claim7.holds Tryd.pinned (.plain (OpenSpec.ofChange fnExactReadSettsSpec)) fnExactReadSettsCard

/-- THE SECOND FORM's CARD OF 'laws.FnExactReadSetts'. -/
def fnExactReadSettsUptoCard : Claim7 := { stood := { row := fnExactReadSettsUptoRow, standIns := [], harness := (true, "0d5c003f873e59893a79edea1b684af49ecb0f952c5b058f7a6823178a3f295e"), looks := true }, kinds := [], alts := [], laidByText := true, laidKinds := [.data, .data, .data, .data, .sentinel, .sentinel, .pinned], laidTests := true, laidLooks := .later }
def FnExactReadSettsUptoCardSaid : Prop := Claim7.holds Tryd.pinned (.plain (OpenSpec.upto fnExactReadSettsSpec)) fnExactReadSettsUptoCard
end Rows
end Go.Proofs.YtebdblefhkcpeaaDoor
