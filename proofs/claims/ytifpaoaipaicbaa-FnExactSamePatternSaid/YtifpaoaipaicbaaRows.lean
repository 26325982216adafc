/-
  No cell of these rows narrows 'for every input' (looked for: loops, veiled, ifaces, maps, wideKeys, modest, calm, conditions, laid).
  DERIVED. THE GIVEN ROWS OF THIS SEAT. 12 by the template 'for every input the law returns true; each argument reads behind the call as it read before'; 0 by the template 'total and deterministic' (their statements: YtifpaoaipaicbaaTotals.lean).
  GIVEN WITH THE SEED: the statements are not yours to turn. If you find one false, say at which input.
  Laid BY PROGRAM, IN A SANDBOX (cutbox-rows.mjs): the forced cells as the released guide's own fill.sh prints them over the translation 2d40bd764ddfda99… (all of the seat's roots in one cut). By AI agents, Wed Nov 11 2026. No macro, syntax, notation, axiom, sorry.
-/
import Derived.Test.YtifpaoaipaicbaaChecked
import GoSem.Claim
import GoSem.ClaimJoined
import GoSem.ClaimMapViews
import Derived.JoinedTies
import Derived.KernelRfl
namespace Go.Proofs.Ytifpaoaipaicbaa
/- THE CELL 'sum', in the pinned program and in every row, IS THE sha256 OF THE DUMP (.gsa) THAT YtifpaoaipaicbaaProg.lean LOADS. Nothing in Lean hashes anything: it is a label: what it is worth is what the hold of that sum in a sandbox is worth. -/
noncomputable def Try.pinned : Pinned := { name := "ytifpaoaipaicbaa", sum := "2d40bd764ddfda99d5091e34f4d7f80f6662a386f7f62124f36852bc63a85e9a", checked := Try.checked }
namespace Rows
def none {H : Type} : Left H := { results := [], args := [] }

/-- 'laws.FnExactConstants': WHATEVER THE INPUT: true; the input reads as it did. -/
def fnExactConstantsSpec : ChangeSpec := { name := "fnExactConstants", fn := fun _ => fun
  | [] => { results := [.lit (.bool true)], args := [] }
  | _ => none }
def fnExactConstantsRow : OpenClaim := { program := "ytifpaoaipaicbaa", sum := "2d40bd764ddfda99d5091e34f4d7f80f6662a386f7f62124f36852bc63a85e9a", func := "loop.example/g01383/laws.FnExactConstants", spec := "fnExactConstants", apart := false }
def FnExactConstantsSaid : Prop := fnExactConstantsRow.holds Try.pinned (OpenSpec.ofChange fnExactConstantsSpec)

/-- ITS FALSE NEIGHBOUR: 'it returns false'. Refute it at one input. -/
def fnExactConstantsWrong : ChangeSpec := { name := "fnExactConstants", fn := fun _ => fun
  | [] => { results := [.lit (.bool false)], args := [] }
  | _ => none }
def FnExactConstantsWrongFalsely : Prop := fnExactConstantsRow.holds Try.pinned (OpenSpec.ofChange fnExactConstantsWrong)

/-- 'laws.FnExactCodeName': WHATEVER THE INPUT: true; the input reads as it did. -/
def fnExactCodeNameSpec : ChangeSpec := { name := "fnExactCodeName", fn := fun _ => fun
  | [d] => { results := [.lit (.bool true)], args := [d] }
  | _ => none }
def fnExactCodeNameRow : OpenClaim := { program := "ytifpaoaipaicbaa", sum := "2d40bd764ddfda99d5091e34f4d7f80f6662a386f7f62124f36852bc63a85e9a", func := "loop.example/g01383/laws.FnExactCodeName", spec := "fnExactCodeName", apart := false }
def FnExactCodeNameSaid : Prop := fnExactCodeNameRow.holds Try.pinned (OpenSpec.ofChange fnExactCodeNameSpec)

/-- ITS FALSE NEIGHBOUR: 'it returns false'. Refute it at one input. -/
def fnExactCodeNameWrong : ChangeSpec := { name := "fnExactCodeName", fn := fun _ => fun
  | [d] => { results := [.lit (.bool false)], args := [d] }
  | _ => none }
def FnExactCodeNameWrongFalsely : Prop := fnExactCodeNameRow.holds Try.pinned (OpenSpec.ofChange fnExactCodeNameWrong)

/-- 'laws.FnExactWeightOf': WHATEVER THE INPUT: true; the input reads as it did. -/
def fnExactWeightOfSpec : ChangeSpec := { name := "fnExactWeightOf", fn := fun _ => fun
  | [d] => { results := [.lit (.bool true)], args := [d] }
  | _ => none }
def fnExactWeightOfRow : OpenClaim := { program := "ytifpaoaipaicbaa", sum := "2d40bd764ddfda99d5091e34f4d7f80f6662a386f7f62124f36852bc63a85e9a", func := "loop.example/g01383/laws.FnExactWeightOf", spec := "fnExactWeightOf", apart := false }
def FnExactWeightOfSaid : Prop := fnExactWeightOfRow.holds Try.pinned (OpenSpec.ofChange fnExactWeightOfSpec)

/-- ITS FALSE NEIGHBOUR: 'it returns false'. Refute it at one input. -/
def fnExactWeightOfWrong : ChangeSpec := { name := "fnExactWeightOf", fn := fun _ => fun
  | [d] => { results := [.lit (.bool false)], args := [d] }
  | _ => none }
def FnExactWeightOfWrongFalsely : Prop := fnExactWeightOfRow.holds Try.pinned (OpenSpec.ofChange fnExactWeightOfWrong)

/-- 'laws.FnExactValidSetts': WHATEVER THE INPUT: true; the input reads as it did. -/
def fnExactValidSettsSpec : ChangeSpec := { name := "fnExactValidSetts", fn := fun _ => fun
  | [d] => { results := [.lit (.bool true)], args := [d] }
  | _ => none }
def fnExactValidSettsRow : OpenClaim := { program := "ytifpaoaipaicbaa", sum := "2d40bd764ddfda99d5091e34f4d7f80f6662a386f7f62124f36852bc63a85e9a", func := "loop.example/g01383/laws.FnExactValidSetts", spec := "fnExactValidSetts", apart := false }
def FnExactValidSettsSaid : Prop := fnExactValidSettsRow.holds Try.pinned (OpenSpec.ofChange fnExactValidSettsSpec)

/-- ITS FALSE NEIGHBOUR: 'it returns false'. Refute it at one input. -/
def fnExactValidSettsWrong : ChangeSpec := { name := "fnExactValidSetts", fn := fun _ => fun
  | [d] => { results := [.lit (.bool false)], args := [d] }
  | _ => none }
def FnExactValidSettsWrongFalsely : Prop := fnExactValidSettsRow.holds Try.pinned (OpenSpec.ofChange fnExactValidSettsWrong)

/-- 'laws.FnExactValidBow': WHATEVER THE INPUT: true; the input reads as it did. -/
def fnExactValidBowSpec : ChangeSpec := { name := "fnExactValidBow", fn := fun _ => fun
  | [d] => { results := [.lit (.bool true)], args := [d] }
  | _ => none }
def fnExactValidBowRow : OpenClaim := { program := "ytifpaoaipaicbaa", sum := "2d40bd764ddfda99d5091e34f4d7f80f6662a386f7f62124f36852bc63a85e9a", func := "loop.example/g01383/laws.FnExactValidBow", spec := "fnExactValidBow", unfollowed := true, recurses := true, apart := false }
def FnExactValidBowSaid : Prop := fnExactValidBowRow.holds Try.pinned (OpenSpec.ofChange fnExactValidBowSpec)

/-- ITS FALSE NEIGHBOUR: 'it returns false'. Refute it at one input. -/
def fnExactValidBowWrong : ChangeSpec := { name := "fnExactValidBow", fn := fun _ => fun
  | [d] => { results := [.lit (.bool false)], args := [d] }
  | _ => none }
def FnExactValidBowWrongFalsely : Prop := fnExactValidBowRow.holds Try.pinned (OpenSpec.ofChange fnExactValidBowWrong)

/-- 'laws.FnExactTopsOf': WHATEVER THE INPUT: true; the input reads as it did. -/
def fnExactTopsOfSpec : ChangeSpec := { name := "fnExactTopsOf", fn := fun _ => fun
  | [d] => { results := [.lit (.bool true)], args := [d] }
  | _ => none }
def fnExactTopsOfRow : OpenClaim := { program := "ytifpaoaipaicbaa", sum := "2d40bd764ddfda99d5091e34f4d7f80f6662a386f7f62124f36852bc63a85e9a", func := "loop.example/g01383/laws.FnExactTopsOf", spec := "fnExactTopsOf", unfollowed := true, recurses := true, apart := false }
def FnExactTopsOfSaid : Prop := fnExactTopsOfRow.holds Try.pinned (OpenSpec.ofChange fnExactTopsOfSpec)

/-- ITS FALSE NEIGHBOUR: 'it returns false'. Refute it at one input. -/
def fnExactTopsOfWrong : ChangeSpec := { name := "fnExactTopsOf", fn := fun _ => fun
  | [d] => { results := [.lit (.bool false)], args := [d] }
  | _ => none }
def FnExactTopsOfWrongFalsely : Prop := fnExactTopsOfRow.holds Try.pinned (OpenSpec.ofChange fnExactTopsOfWrong)

/-- 'laws.FnExactMakeBow': WHATEVER THE INPUT: true; the input reads as it did. -/
def fnExactMakeBowSpec : ChangeSpec := { name := "fnExactMakeBow", fn := fun _ => fun
  | [d1, d2] => { results := [.lit (.bool true)], args := [d1, d2] }
  | _ => none }
def fnExactMakeBowRow : OpenClaim := { program := "ytifpaoaipaicbaa", sum := "2d40bd764ddfda99d5091e34f4d7f80f6662a386f7f62124f36852bc63a85e9a", func := "loop.example/g01383/laws.FnExactMakeBow", spec := "fnExactMakeBow", unfollowed := true, recurses := true, apart := false }
def FnExactMakeBowSaid : Prop := fnExactMakeBowRow.holds Try.pinned (OpenSpec.ofChange fnExactMakeBowSpec)

/-- ITS FALSE NEIGHBOUR: 'it returns false'. Refute it at one input. -/
def fnExactMakeBowWrong : ChangeSpec := { name := "fnExactMakeBow", fn := fun _ => fun
  | [d1, d2] => { results := [.lit (.bool false)], args := [d1, d2] }
  | _ => none }
def FnExactMakeBowWrongFalsely : Prop := fnExactMakeBowRow.holds Try.pinned (OpenSpec.ofChange fnExactMakeBowWrong)

/-- 'laws.FnExactSameSquare': WHATEVER THE INPUT: true; the input reads as it did. -/
def fnExactSameSquareSpec : ChangeSpec := { name := "fnExactSameSquare", fn := fun _ => fun
  | [d1, d2] => { results := [.lit (.bool true)], args := [d1, d2] }
  | _ => none }
def fnExactSameSquareRow : OpenClaim := { program := "ytifpaoaipaicbaa", sum := "2d40bd764ddfda99d5091e34f4d7f80f6662a386f7f62124f36852bc63a85e9a", func := "loop.example/g01383/laws.FnExactSameSquare", spec := "fnExactSameSquare", apart := false }
def FnExactSameSquareSaid : Prop := fnExactSameSquareRow.holds Try.pinned (OpenSpec.ofChange fnExactSameSquareSpec)

/-- ITS FALSE NEIGHBOUR: 'it returns false'. Refute it at one input. -/
def fnExactSameSquareWrong : ChangeSpec := { name := "fnExactSameSquare", fn := fun _ => fun
  | [d1, d2] => { results := [.lit (.bool false)], args := [d1, d2] }
  | _ => none }
def FnExactSameSquareWrongFalsely : Prop := fnExactSameSquareRow.holds Try.pinned (OpenSpec.ofChange fnExactSameSquareWrong)

/-- 'laws.FnExactOpenSquare': WHATEVER THE INPUT: true; the input reads as it did. -/
def fnExactOpenSquareSpec : ChangeSpec := { name := "fnExactOpenSquare", fn := fun _ => fun
  | [d1, d2] => { results := [.lit (.bool true)], args := [d1, d2] }
  | _ => none }
def fnExactOpenSquareRow : OpenClaim := { program := "ytifpaoaipaicbaa", sum := "2d40bd764ddfda99d5091e34f4d7f80f6662a386f7f62124f36852bc63a85e9a", func := "loop.example/g01383/laws.FnExactOpenSquare", spec := "fnExactOpenSquare", apart := false }
def FnExactOpenSquareSaid : Prop := fnExactOpenSquareRow.holds Try.pinned (OpenSpec.ofChange fnExactOpenSquareSpec)

/-- ITS FALSE NEIGHBOUR: 'it returns false'. Refute it at one input. -/
def fnExactOpenSquareWrong : ChangeSpec := { name := "fnExactOpenSquare", fn := fun _ => fun
  | [d1, d2] => { results := [.lit (.bool false)], args := [d1, d2] }
  | _ => none }
def FnExactOpenSquareWrongFalsely : Prop := fnExactOpenSquareRow.holds Try.pinned (OpenSpec.ofChange fnExactOpenSquareWrong)

/-- 'laws.FnExactJointsOf': WHATEVER THE INPUT: true; the input reads as it did. -/
def fnExactJointsOfSpec : ChangeSpec := { name := "fnExactJointsOf", fn := fun _ => fun
  | [d1, d2] => { results := [.lit (.bool true)], args := [d1, d2] }
  | _ => none }
def fnExactJointsOfRow : OpenClaim := { program := "ytifpaoaipaicbaa", sum := "2d40bd764ddfda99d5091e34f4d7f80f6662a386f7f62124f36852bc63a85e9a", func := "loop.example/g01383/laws.FnExactJointsOf", spec := "fnExactJointsOf", unfollowed := true, recurses := true, apart := false }
def FnExactJointsOfSaid : Prop := fnExactJointsOfRow.holds Try.pinned (OpenSpec.ofChange fnExactJointsOfSpec)

/-- ITS FALSE NEIGHBOUR: 'it returns false'. Refute it at one input. -/
def fnExactJointsOfWrong : ChangeSpec := { name := "fnExactJointsOf", fn := fun _ => fun
  | [d1, d2] => { results := [.lit (.bool false)], args := [d1, d2] }
  | _ => none }
def FnExactJointsOfWrongFalsely : Prop := fnExactJointsOfRow.holds Try.pinned (OpenSpec.ofChange fnExactJointsOfWrong)

/-- 'laws.FnExactBowFrom': WHATEVER THE INPUT: true; the input reads as it did. -/
def fnExactBowFromSpec : ChangeSpec := { name := "fnExactBowFrom", fn := fun _ => fun
  | [d] => { results := [.lit (.bool true)], args := [d] }
  | _ => none }
def fnExactBowFromRow : OpenClaim := { program := "ytifpaoaipaicbaa", sum := "2d40bd764ddfda99d5091e34f4d7f80f6662a386f7f62124f36852bc63a85e9a", func := "loop.example/g01383/laws.FnExactBowFrom", spec := "fnExactBowFrom", unfollowed := true, recurses := true, apart := false }
def FnExactBowFromSaid : Prop := fnExactBowFromRow.holds Try.pinned (OpenSpec.ofChange fnExactBowFromSpec)

/-- ITS FALSE NEIGHBOUR: 'it returns false'. Refute it at one input. -/
def fnExactBowFromWrong : ChangeSpec := { name := "fnExactBowFrom", fn := fun _ => fun
  | [d] => { results := [.lit (.bool false)], args := [d] }
  | _ => none }
def FnExactBowFromWrongFalsely : Prop := fnExactBowFromRow.holds Try.pinned (OpenSpec.ofChange fnExactBowFromWrong)

/-- 'laws.FnExactSamePattern': WHATEVER THE INPUT: true; the input reads as it did. -/
def fnExactSamePatternSpec : ChangeSpec := { name := "fnExactSamePattern", fn := fun _ => fun
  | [d1, d2] => { results := [.lit (.bool true)], args := [d1, d2] }
  | _ => none }
def fnExactSamePatternRow : OpenClaim := { program := "ytifpaoaipaicbaa", sum := "2d40bd764ddfda99d5091e34f4d7f80f6662a386f7f62124f36852bc63a85e9a", func := "loop.example/g01383/laws.FnExactSamePattern", spec := "fnExactSamePattern", apart := false }
def FnExactSamePatternSaid : Prop := fnExactSamePatternRow.holds Try.pinned (OpenSpec.ofChange fnExactSamePatternSpec)

/-- ITS FALSE NEIGHBOUR: 'it returns false'. Refute it at one input. -/
def fnExactSamePatternWrong : ChangeSpec := { name := "fnExactSamePattern", fn := fun _ => fun
  | [d1, d2] => { results := [.lit (.bool false)], args := [d1, d2] }
  | _ => none }
def FnExactSamePatternWrongFalsely : Prop := fnExactSamePatternRow.holds Try.pinned (OpenSpec.ofChange fnExactSamePatternWrong)

/- THE SECOND FORM. 'bulk': how many values and letters a reading holds, each counted each time it is reached (what is shared counts as often as it is met; a slice's spare places count too). A statement '..UptoSaid' is the law's where the arguments, and the package variables that the reading takes, are together of bulk at most 1048576: NARROWER than '..Said'. Prove '..Said' where nothing that the law and all that it calls make is longer than what came in: it says more and counts as full. Else prove '..UptoSaid'. A law counts once. -/
mutual
def uptoBulk {H : Type} : DataW H → Nat
  | .lit (.string bytes) => bytes.length + 1
  | .lit _ => 1
  | .nil => 1
  | .ptr d => uptoBulk d + 1
  | .slice elems spare => uptoBulkAll elems + uptoBulkAll spare + 1
  | .agg parts => uptoBulkAll parts + 1
  | .iface _ d => uptoBulk d + 1
  | .map entries => uptoBulkEntries entries + 1
  | .held _ => 1
def uptoBulkAll {H : Type} : List (DataW H) → Nat
  | [] => 0
  | d :: r => uptoBulk d + uptoBulkAll r
def uptoBulkEntries {H : Type} : List (Lit × DataW H) → Nat
  | [] => 0
  | x :: r => uptoBulkEntry x + uptoBulkEntries r
def uptoBulkEntry {H : Type} : Lit × DataW H → Nat
  | (.string bytes, d) => bytes.length + uptoBulk d + 1
  | (_, d) => uptoBulk d + 1
 end
def uptoSmall : (H : Type) → List (DataW H) → Bool := fun _ ds => decide (uptoBulkAll ds ≤ 1048576)
def OpenSpec.upto (s : _root_.Go.ChangeSpec) : _root_.Go.OpenSpec := { _root_.Go.OpenSpec.ofChange s with cond := some uptoSmall }

/-- 'laws.FnExactConstants', WHERE WHAT IT READS IS OF BULK AT MOST 1048576: true; the input reads as it did. -/
def fnExactConstantsUptoRow : OpenClaim := { program := "ytifpaoaipaicbaa", sum := "2d40bd764ddfda99d5091e34f4d7f80f6662a386f7f62124f36852bc63a85e9a", func := "loop.example/g01383/laws.FnExactConstants", spec := "fnExactConstants", apart := false, narrowed := true }
def FnExactConstantsUptoSaid : Prop := fnExactConstantsUptoRow.holds Try.pinned (OpenSpec.upto fnExactConstantsSpec)

/-- 'laws.FnExactCodeName', WHERE WHAT IT READS IS OF BULK AT MOST 1048576: true; the input reads as it did. -/
def fnExactCodeNameUptoRow : OpenClaim := { program := "ytifpaoaipaicbaa", sum := "2d40bd764ddfda99d5091e34f4d7f80f6662a386f7f62124f36852bc63a85e9a", func := "loop.example/g01383/laws.FnExactCodeName", spec := "fnExactCodeName", apart := false, narrowed := true }
def FnExactCodeNameUptoSaid : Prop := fnExactCodeNameUptoRow.holds Try.pinned (OpenSpec.upto fnExactCodeNameSpec)

/-- 'laws.FnExactWeightOf', WHERE WHAT IT READS IS OF BULK AT MOST 1048576: true; the input reads as it did. -/
def fnExactWeightOfUptoRow : OpenClaim := { program := "ytifpaoaipaicbaa", sum := "2d40bd764ddfda99d5091e34f4d7f80f6662a386f7f62124f36852bc63a85e9a", func := "loop.example/g01383/laws.FnExactWeightOf", spec := "fnExactWeightOf", apart := false, narrowed := true }
def FnExactWeightOfUptoSaid : Prop := fnExactWeightOfUptoRow.holds Try.pinned (OpenSpec.upto fnExactWeightOfSpec)

/-- 'laws.FnExactValidSetts', WHERE WHAT IT READS IS OF BULK AT MOST 1048576: true; the input reads as it did. -/
def fnExactValidSettsUptoRow : OpenClaim := { program := "ytifpaoaipaicbaa", sum := "2d40bd764ddfda99d5091e34f4d7f80f6662a386f7f62124f36852bc63a85e9a", func := "loop.example/g01383/laws.FnExactValidSetts", spec := "fnExactValidSetts", apart := false, narrowed := true }
def FnExactValidSettsUptoSaid : Prop := fnExactValidSettsUptoRow.holds Try.pinned (OpenSpec.upto fnExactValidSettsSpec)

/-- 'laws.FnExactValidBow', WHERE WHAT IT READS IS OF BULK AT MOST 1048576: true; the input reads as it did. -/
def fnExactValidBowUptoRow : OpenClaim := { program := "ytifpaoaipaicbaa", sum := "2d40bd764ddfda99d5091e34f4d7f80f6662a386f7f62124f36852bc63a85e9a", func := "loop.example/g01383/laws.FnExactValidBow", spec := "fnExactValidBow", unfollowed := true, recurses := true, apart := false, narrowed := true }
def FnExactValidBowUptoSaid : Prop := fnExactValidBowUptoRow.holds Try.pinned (OpenSpec.upto fnExactValidBowSpec)

/-- 'laws.FnExactTopsOf', WHERE WHAT IT READS IS OF BULK AT MOST 1048576: true; the input reads as it did. -/
def fnExactTopsOfUptoRow : OpenClaim := { program := "ytifpaoaipaicbaa", sum := "2d40bd764ddfda99d5091e34f4d7f80f6662a386f7f62124f36852bc63a85e9a", func := "loop.example/g01383/laws.FnExactTopsOf", spec := "fnExactTopsOf", unfollowed := true, recurses := true, apart := false, narrowed := true }
def FnExactTopsOfUptoSaid : Prop := fnExactTopsOfUptoRow.holds Try.pinned (OpenSpec.upto fnExactTopsOfSpec)

/-- 'laws.FnExactMakeBow', WHERE WHAT IT READS IS OF BULK AT MOST 1048576: true; the input reads as it did. -/
def fnExactMakeBowUptoRow : OpenClaim := { program := "ytifpaoaipaicbaa", sum := "2d40bd764ddfda99d5091e34f4d7f80f6662a386f7f62124f36852bc63a85e9a", func := "loop.example/g01383/laws.FnExactMakeBow", spec := "fnExactMakeBow", unfollowed := true, recurses := true, apart := false, narrowed := true }
def FnExactMakeBowUptoSaid : Prop := fnExactMakeBowUptoRow.holds Try.pinned (OpenSpec.upto fnExactMakeBowSpec)

/-- 'laws.FnExactSameSquare', WHERE WHAT IT READS IS OF BULK AT MOST 1048576: true; the input reads as it did. -/
def fnExactSameSquareUptoRow : OpenClaim := { program := "ytifpaoaipaicbaa", sum := "2d40bd764ddfda99d5091e34f4d7f80f6662a386f7f62124f36852bc63a85e9a", func := "loop.example/g01383/laws.FnExactSameSquare", spec := "fnExactSameSquare", apart := false, narrowed := true }
def FnExactSameSquareUptoSaid : Prop := fnExactSameSquareUptoRow.holds Try.pinned (OpenSpec.upto fnExactSameSquareSpec)

/-- 'laws.FnExactOpenSquare', WHERE WHAT IT READS IS OF BULK AT MOST 1048576: true; the input reads as it did. -/
def fnExactOpenSquareUptoRow : OpenClaim := { program := "ytifpaoaipaicbaa", sum := "2d40bd764ddfda99d5091e34f4d7f80f6662a386f7f62124f36852bc63a85e9a", func := "loop.example/g01383/laws.FnExactOpenSquare", spec := "fnExactOpenSquare", apart := false, narrowed := true }
def FnExactOpenSquareUptoSaid : Prop := fnExactOpenSquareUptoRow.holds Try.pinned (OpenSpec.upto fnExactOpenSquareSpec)

/-- 'laws.FnExactJointsOf', WHERE WHAT IT READS IS OF BULK AT MOST 1048576: true; the input reads as it did. -/
def fnExactJointsOfUptoRow : OpenClaim := { program := "ytifpaoaipaicbaa", sum := "2d40bd764ddfda99d5091e34f4d7f80f6662a386f7f62124f36852bc63a85e9a", func := "loop.example/g01383/laws.FnExactJointsOf", spec := "fnExactJointsOf", unfollowed := true, recurses := true, apart := false, narrowed := true }
def FnExactJointsOfUptoSaid : Prop := fnExactJointsOfUptoRow.holds Try.pinned (OpenSpec.upto fnExactJointsOfSpec)

/-- 'laws.FnExactBowFrom', WHERE WHAT IT READS IS OF BULK AT MOST 1048576: true; the input reads as it did. -/
def fnExactBowFromUptoRow : OpenClaim := { program := "ytifpaoaipaicbaa", sum := "2d40bd764ddfda99d5091e34f4d7f80f6662a386f7f62124f36852bc63a85e9a", func := "loop.example/g01383/laws.FnExactBowFrom", spec := "fnExactBowFrom", unfollowed := true, recurses := true, apart := false, narrowed := true }
def FnExactBowFromUptoSaid : Prop := fnExactBowFromUptoRow.holds Try.pinned (OpenSpec.upto fnExactBowFromSpec)

/-- 'laws.FnExactSamePattern', WHERE WHAT IT READS IS OF BULK AT MOST 1048576: true; the input reads as it did. -/
def fnExactSamePatternUptoRow : OpenClaim := { program := "ytifpaoaipaicbaa", sum := "2d40bd764ddfda99d5091e34f4d7f80f6662a386f7f62124f36852bc63a85e9a", func := "loop.example/g01383/laws.FnExactSamePattern", spec := "fnExactSamePattern", apart := false, narrowed := true }
def FnExactSamePatternUptoSaid : Prop := fnExactSamePatternUptoRow.holds Try.pinned (OpenSpec.upto fnExactSamePatternSpec)

end Rows
end Go.Proofs.Ytifpaoaipaicbaa
