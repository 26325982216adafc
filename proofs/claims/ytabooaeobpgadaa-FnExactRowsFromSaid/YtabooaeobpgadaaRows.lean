/-
  No cell of these rows narrows 'for every input' (looked for: loops, veiled, ifaces, maps, wideKeys, modest, calm, conditions, laid).
  DERIVED. THE GIVEN ROWS OF THIS SEAT. 11 by the template 'for every input the law returns true; each argument reads behind the call as it read before'; 0 by the template 'total and deterministic' (their statements: YtabooaeobpgadaaTotals.lean).
  GIVEN WITH THE SEED: the statements are not yours to turn. If you find one false, say at which input.
  Laid BY PROGRAM, IN A SANDBOX (cutbox-rows.mjs): the forced cells as the released guide's own fill.sh prints them over the translation ebdd65ad4c7ce233… (all of the seat's roots in one cut). By AI agents, Wed Nov 11 2026. No macro, syntax, notation, axiom, sorry.
-/
import Derived.Test.YtabooaeobpgadaaChecked
import GoSem.Claim
import GoSem.ClaimJoined
import GoSem.ClaimMapViews
import Derived.JoinedTies
import Derived.KernelRfl
namespace Go.Proofs.Ytabooaeobpgadaa
/- THE CELL 'sum', in the pinned program and in every row, IS THE sha256 OF THE DUMP (.gsa) THAT YtabooaeobpgadaaProg.lean LOADS. Nothing in Lean hashes anything: it is a label: what it is worth is what the hold of that sum in a sandbox is worth. -/
noncomputable def Try.pinned : Pinned := { name := "ytabooaeobpgadaa", sum := "ebdd65ad4c7ce2333fec0eb4fd371e83e823533166cbd315e479a2dae3ee2e3d", checked := Try.checked }
namespace Rows
def none {H : Type} : Left H := { results := [], args := [] }

/-- 'laws.FnExactTurnRow': WHATEVER THE INPUT: true; the input reads as it did. -/
def fnExactTurnRowSpec : ChangeSpec := { name := "fnExactTurnRow", fn := fun _ => fun
  | [d1, d2] => { results := [.lit (.bool true)], args := [d1, d2] }
  | _ => none }
def fnExactTurnRowRow : OpenClaim := { program := "ytabooaeobpgadaa", sum := "ebdd65ad4c7ce2333fec0eb4fd371e83e823533166cbd315e479a2dae3ee2e3d", func := "loop.example/g01383/laws.FnExactTurnRow", spec := "fnExactTurnRow", unfollowed := true, recurses := true, apart := false }
def FnExactTurnRowSaid : Prop := fnExactTurnRowRow.holds Try.pinned (OpenSpec.ofChange fnExactTurnRowSpec)

/-- ITS FALSE NEIGHBOUR: 'it returns false'. Refute it at one input. -/
def fnExactTurnRowWrong : ChangeSpec := { name := "fnExactTurnRow", fn := fun _ => fun
  | [d1, d2] => { results := [.lit (.bool false)], args := [d1, d2] }
  | _ => none }
def FnExactTurnRowWrongFalsely : Prop := fnExactTurnRowRow.holds Try.pinned (OpenSpec.ofChange fnExactTurnRowWrong)

/-- 'laws.FnExactOffsetBow': WHATEVER THE INPUT: true; the input reads as it did. -/
def fnExactOffsetBowSpec : ChangeSpec := { name := "fnExactOffsetBow", fn := fun _ => fun
  | [d] => { results := [.lit (.bool true)], args := [d] }
  | _ => none }
def fnExactOffsetBowRow : OpenClaim := { program := "ytabooaeobpgadaa", sum := "ebdd65ad4c7ce2333fec0eb4fd371e83e823533166cbd315e479a2dae3ee2e3d", func := "loop.example/g01383/laws.FnExactOffsetBow", spec := "fnExactOffsetBow", unfollowed := true, recurses := true, apart := false }
def FnExactOffsetBowSaid : Prop := fnExactOffsetBowRow.holds Try.pinned (OpenSpec.ofChange fnExactOffsetBowSpec)

/-- ITS FALSE NEIGHBOUR: 'it returns false'. Refute it at one input. -/
def fnExactOffsetBowWrong : ChangeSpec := { name := "fnExactOffsetBow", fn := fun _ => fun
  | [d] => { results := [.lit (.bool false)], args := [d] }
  | _ => none }
def FnExactOffsetBowWrongFalsely : Prop := fnExactOffsetBowRow.holds Try.pinned (OpenSpec.ofChange fnExactOffsetBowWrong)

/-- 'laws.FnExactWaysToFill': WHATEVER THE INPUT: true; the input reads as it did. -/
def fnExactWaysToFillSpec : ChangeSpec := { name := "fnExactWaysToFill", fn := fun _ => fun
  | [d1, d2, d3] => { results := [.lit (.bool true)], args := [d1, d2, d3] }
  | _ => none }
def fnExactWaysToFillRow : OpenClaim := { program := "ytabooaeobpgadaa", sum := "ebdd65ad4c7ce2333fec0eb4fd371e83e823533166cbd315e479a2dae3ee2e3d", func := "loop.example/g01383/laws.FnExactWaysToFill", spec := "fnExactWaysToFill", apart := false }
def FnExactWaysToFillSaid : Prop := fnExactWaysToFillRow.holds Try.pinned (OpenSpec.ofChange fnExactWaysToFillSpec)

/-- ITS FALSE NEIGHBOUR: 'it returns false'. Refute it at one input. -/
def fnExactWaysToFillWrong : ChangeSpec := { name := "fnExactWaysToFill", fn := fun _ => fun
  | [d1, d2, d3] => { results := [.lit (.bool false)], args := [d1, d2, d3] }
  | _ => none }
def FnExactWaysToFillWrongFalsely : Prop := fnExactWaysToFillRow.holds Try.pinned (OpenSpec.ofChange fnExactWaysToFillWrong)

/-- 'laws.FnExactCommonJoints': WHATEVER THE INPUT: true; the input reads as it did. -/
def fnExactCommonJointsSpec : ChangeSpec := { name := "fnExactCommonJoints", fn := fun _ => fun
  | [d1, d2, d3] => { results := [.lit (.bool true)], args := [d1, d2, d3] }
  | _ => none }
def fnExactCommonJointsRow : OpenClaim := { program := "ytabooaeobpgadaa", sum := "ebdd65ad4c7ce2333fec0eb4fd371e83e823533166cbd315e479a2dae3ee2e3d", func := "loop.example/g01383/laws.FnExactCommonJoints", spec := "fnExactCommonJoints", unfollowed := true, recurses := true, apart := false }
def FnExactCommonJointsSaid : Prop := fnExactCommonJointsRow.holds Try.pinned (OpenSpec.ofChange fnExactCommonJointsSpec)

/-- ITS FALSE NEIGHBOUR: 'it returns false'. Refute it at one input. -/
def fnExactCommonJointsWrong : ChangeSpec := { name := "fnExactCommonJoints", fn := fun _ => fun
  | [d1, d2, d3] => { results := [.lit (.bool false)], args := [d1, d2, d3] }
  | _ => none }
def FnExactCommonJointsWrongFalsely : Prop := fnExactCommonJointsRow.holds Try.pinned (OpenSpec.ofChange fnExactCommonJointsWrong)

/-- 'laws.FnExactJoinBows': WHATEVER THE INPUT: true; the input reads as it did. -/
def fnExactJoinBowsSpec : ChangeSpec := { name := "fnExactJoinBows", fn := fun _ => fun
  | [d] => { results := [.lit (.bool true)], args := [d] }
  | _ => none }
def fnExactJoinBowsRow : OpenClaim := { program := "ytabooaeobpgadaa", sum := "ebdd65ad4c7ce2333fec0eb4fd371e83e823533166cbd315e479a2dae3ee2e3d", func := "loop.example/g01383/laws.FnExactJoinBows", spec := "fnExactJoinBows", unfollowed := true, recurses := true, apart := false }
def FnExactJoinBowsSaid : Prop := fnExactJoinBowsRow.holds Try.pinned (OpenSpec.ofChange fnExactJoinBowsSpec)

/-- ITS FALSE NEIGHBOUR: 'it returns false'. Refute it at one input. -/
def fnExactJoinBowsWrong : ChangeSpec := { name := "fnExactJoinBows", fn := fun _ => fun
  | [d] => { results := [.lit (.bool false)], args := [d] }
  | _ => none }
def FnExactJoinBowsWrongFalsely : Prop := fnExactJoinBowsRow.holds Try.pinned (OpenSpec.ofChange fnExactJoinBowsWrong)

/-- 'laws.FnExactCutRow': WHATEVER THE INPUT: true; the input reads as it did. -/
def fnExactCutRowSpec : ChangeSpec := { name := "fnExactCutRow", fn := fun _ => fun
  | [d1, d2, d3] => { results := [.lit (.bool true)], args := [d1, d2, d3] }
  | _ => none }
def fnExactCutRowRow : OpenClaim := { program := "ytabooaeobpgadaa", sum := "ebdd65ad4c7ce2333fec0eb4fd371e83e823533166cbd315e479a2dae3ee2e3d", func := "loop.example/g01383/laws.FnExactCutRow", spec := "fnExactCutRow", unfollowed := true, recurses := true, apart := false }
def FnExactCutRowSaid : Prop := fnExactCutRowRow.holds Try.pinned (OpenSpec.ofChange fnExactCutRowSpec)

/-- ITS FALSE NEIGHBOUR: 'it returns false'. Refute it at one input. -/
def fnExactCutRowWrong : ChangeSpec := { name := "fnExactCutRow", fn := fun _ => fun
  | [d1, d2, d3] => { results := [.lit (.bool false)], args := [d1, d2, d3] }
  | _ => none }
def FnExactCutRowWrongFalsely : Prop := fnExactCutRowRow.holds Try.pinned (OpenSpec.ofChange fnExactCutRowWrong)

/-- 'laws.FnExactBestTurn': WHATEVER THE INPUT: true; the input reads as it did. -/
def fnExactBestTurnSpec : ChangeSpec := { name := "fnExactBestTurn", fn := fun _ => fun
  | [d1, d2, d3] => { results := [.lit (.bool true)], args := [d1, d2, d3] }
  | _ => none }
def fnExactBestTurnRow : OpenClaim := { program := "ytabooaeobpgadaa", sum := "ebdd65ad4c7ce2333fec0eb4fd371e83e823533166cbd315e479a2dae3ee2e3d", func := "loop.example/g01383/laws.FnExactBestTurn", spec := "fnExactBestTurn", unfollowed := true, recurses := true, apart := false }
def FnExactBestTurnSaid : Prop := fnExactBestTurnRow.holds Try.pinned (OpenSpec.ofChange fnExactBestTurnSpec)

/-- ITS FALSE NEIGHBOUR: 'it returns false'. Refute it at one input. -/
def fnExactBestTurnWrong : ChangeSpec := { name := "fnExactBestTurn", fn := fun _ => fun
  | [d1, d2, d3] => { results := [.lit (.bool false)], args := [d1, d2, d3] }
  | _ => none }
def FnExactBestTurnWrongFalsely : Prop := fnExactBestTurnRow.holds Try.pinned (OpenSpec.ofChange fnExactBestTurnWrong)

/-- 'laws.FnExactLayRow': WHATEVER THE INPUT: true; the input reads as it did. -/
def fnExactLayRowSpec : ChangeSpec := { name := "fnExactLayRow", fn := fun _ => fun
  | [d1, d2] => { results := [.lit (.bool true)], args := [d1, d2] }
  | _ => none }
def fnExactLayRowRow : OpenClaim := { program := "ytabooaeobpgadaa", sum := "ebdd65ad4c7ce2333fec0eb4fd371e83e823533166cbd315e479a2dae3ee2e3d", func := "loop.example/g01383/laws.FnExactLayRow", spec := "fnExactLayRow", unfollowed := true, recurses := true, apart := false }
def FnExactLayRowSaid : Prop := fnExactLayRowRow.holds Try.pinned (OpenSpec.ofChange fnExactLayRowSpec)

/-- ITS FALSE NEIGHBOUR: 'it returns false'. Refute it at one input. -/
def fnExactLayRowWrong : ChangeSpec := { name := "fnExactLayRow", fn := fun _ => fun
  | [d1, d2] => { results := [.lit (.bool false)], args := [d1, d2] }
  | _ => none }
def FnExactLayRowWrongFalsely : Prop := fnExactLayRowRow.holds Try.pinned (OpenSpec.ofChange fnExactLayRowWrong)

/-- 'laws.FnExactRowsFrom': WHATEVER THE INPUT: true; the input reads as it did. -/
def fnExactRowsFromSpec : ChangeSpec := { name := "fnExactRowsFrom", fn := fun _ => fun
  | [d1, d2, d3] => { results := [.lit (.bool true)], args := [d1, d2, d3] }
  | _ => none }
def fnExactRowsFromRow : OpenClaim := { program := "ytabooaeobpgadaa", sum := "ebdd65ad4c7ce2333fec0eb4fd371e83e823533166cbd315e479a2dae3ee2e3d", func := "loop.example/g01383/laws.FnExactRowsFrom", spec := "fnExactRowsFrom", apart := false }
def FnExactRowsFromSaid : Prop := fnExactRowsFromRow.holds Try.pinned (OpenSpec.ofChange fnExactRowsFromSpec)

/-- ITS FALSE NEIGHBOUR: 'it returns false'. Refute it at one input. -/
def fnExactRowsFromWrong : ChangeSpec := { name := "fnExactRowsFrom", fn := fun _ => fun
  | [d1, d2, d3] => { results := [.lit (.bool false)], args := [d1, d2, d3] }
  | _ => none }
def FnExactRowsFromWrongFalsely : Prop := fnExactRowsFromRow.holds Try.pinned (OpenSpec.ofChange fnExactRowsFromWrong)

/-- 'laws.FnExactFillRow': WHATEVER THE INPUT: true; the input reads as it did. -/
def fnExactFillRowSpec : ChangeSpec := { name := "fnExactFillRow", fn := fun _ => fun
  | [d1, d2, d3] => { results := [.lit (.bool true)], args := [d1, d2, d3] }
  | _ => none }
def fnExactFillRowRow : OpenClaim := { program := "ytabooaeobpgadaa", sum := "ebdd65ad4c7ce2333fec0eb4fd371e83e823533166cbd315e479a2dae3ee2e3d", func := "loop.example/g01383/laws.FnExactFillRow", spec := "fnExactFillRow", apart := false }
def FnExactFillRowSaid : Prop := fnExactFillRowRow.holds Try.pinned (OpenSpec.ofChange fnExactFillRowSpec)

/-- ITS FALSE NEIGHBOUR: 'it returns false'. Refute it at one input. -/
def fnExactFillRowWrong : ChangeSpec := { name := "fnExactFillRow", fn := fun _ => fun
  | [d1, d2, d3] => { results := [.lit (.bool false)], args := [d1, d2, d3] }
  | _ => none }
def FnExactFillRowWrongFalsely : Prop := fnExactFillRowRow.holds Try.pinned (OpenSpec.ofChange fnExactFillRowWrong)

/-- 'laws.FnExactFewestSorts': WHATEVER THE INPUT: true; the input reads as it did. -/
def fnExactFewestSortsSpec : ChangeSpec := { name := "fnExactFewestSorts", fn := fun _ => fun
  | [d1, d2, d3] => { results := [.lit (.bool true)], args := [d1, d2, d3] }
  | _ => none }
def fnExactFewestSortsRow : OpenClaim := { program := "ytabooaeobpgadaa", sum := "ebdd65ad4c7ce2333fec0eb4fd371e83e823533166cbd315e479a2dae3ee2e3d", func := "loop.example/g01383/laws.FnExactFewestSorts", spec := "fnExactFewestSorts", unfollowed := true, recurses := true, apart := false }
def FnExactFewestSortsSaid : Prop := fnExactFewestSortsRow.holds Try.pinned (OpenSpec.ofChange fnExactFewestSortsSpec)

/-- ITS FALSE NEIGHBOUR: 'it returns false'. Refute it at one input. -/
def fnExactFewestSortsWrong : ChangeSpec := { name := "fnExactFewestSorts", fn := fun _ => fun
  | [d1, d2, d3] => { results := [.lit (.bool false)], args := [d1, d2, d3] }
  | _ => none }
def FnExactFewestSortsWrongFalsely : Prop := fnExactFewestSortsRow.holds Try.pinned (OpenSpec.ofChange fnExactFewestSortsWrong)

/- THE SECOND FORM. 'bulk': how many values and letters a reading holds, each counted each time it is reached (what is shared counts as often as it is met; a slice's spare places count too). A statement '..UptoSaid' is the law's where the arguments, and the package variables that the reading takes, are together of bulk at most 1048576: NARROWER than '..Said'. Prove '..Said' where nothing that the law and all that it calls make is longer than what came in: it says more and counts as full. Else prove '..UptoSaid'. A law counts once. -/
mutual
def uptoBulk {H : Type} : DataW H → Nat
  | .lit (.string bytes) => bytes.length + 1
  | .lit _ => 1
  | .nil => 1
  | .ptr d => uptoBulk d + 1
  | .slice elems spare => uptoBulkAll elems + uptoBulkAll spare + 1
  | .agg parts => uptoBulkAll parts + 1
  | .iface _ d => uptoBulk d + 1
  | .map entries => uptoBulkEntries entries + 1
  | .held _ => 1
def uptoBulkAll {H : Type} : List (DataW H) → Nat
  | [] => 0
  | d :: r => uptoBulk d + uptoBulkAll r
def uptoBulkEntries {H : Type} : List (Lit × DataW H) → Nat
  | [] => 0
  | x :: r => uptoBulkEntry x + uptoBulkEntries r
def uptoBulkEntry {H : Type} : Lit × DataW H → Nat
  | (.string bytes, d) => bytes.length + uptoBulk d + 1
  | (_, d) => uptoBulk d + 1
 end
def uptoSmall : (H : Type) → List (DataW H) → Bool := fun _ ds => decide (uptoBulkAll ds ≤ 1048576)
def OpenSpec.upto (s : _root_.Go.ChangeSpec) : _root_.Go.OpenSpec := { _root_.Go.OpenSpec.ofChange s with cond := some uptoSmall }

/-- 'laws.FnExactTurnRow', WHERE WHAT IT READS IS OF BULK AT MOST 1048576: true; the input reads as it did. -/
def fnExactTurnRowUptoRow : OpenClaim := { program := "ytabooaeobpgadaa", sum := "ebdd65ad4c7ce2333fec0eb4fd371e83e823533166cbd315e479a2dae3ee2e3d", func := "loop.example/g01383/laws.FnExactTurnRow", spec := "fnExactTurnRow", unfollowed := true, recurses := true, apart := false, narrowed := true }
def FnExactTurnRowUptoSaid : Prop := fnExactTurnRowUptoRow.holds Try.pinned (OpenSpec.upto fnExactTurnRowSpec)

/-- 'laws.FnExactOffsetBow', WHERE WHAT IT READS IS OF BULK AT MOST 1048576: true; the input reads as it did. -/
def fnExactOffsetBowUptoRow : OpenClaim := { program := "ytabooaeobpgadaa", sum := "ebdd65ad4c7ce2333fec0eb4fd371e83e823533166cbd315e479a2dae3ee2e3d", func := "loop.example/g01383/laws.FnExactOffsetBow", spec := "fnExactOffsetBow", unfollowed := true, recurses := true, apart := false, narrowed := true }
def FnExactOffsetBowUptoSaid : Prop := fnExactOffsetBowUptoRow.holds Try.pinned (OpenSpec.upto fnExactOffsetBowSpec)

/-- 'laws.FnExactWaysToFill', WHERE WHAT IT READS IS OF BULK AT MOST 1048576: true; the input reads as it did. -/
def fnExactWaysToFillUptoRow : OpenClaim := { program := "ytabooaeobpgadaa", sum := "ebdd65ad4c7ce2333fec0eb4fd371e83e823533166cbd315e479a2dae3ee2e3d", func := "loop.example/g01383/laws.FnExactWaysToFill", spec := "fnExactWaysToFill", apart := false, narrowed := true }
def FnExactWaysToFillUptoSaid : Prop := fnExactWaysToFillUptoRow.holds Try.pinned (OpenSpec.upto fnExactWaysToFillSpec)

/-- 'laws.FnExactCommonJoints', WHERE WHAT IT READS IS OF BULK AT MOST 1048576: true; the input reads as it did. -/
def fnExactCommonJointsUptoRow : OpenClaim := { program := "ytabooaeobpgadaa", sum := "ebdd65ad4c7ce2333fec0eb4fd371e83e823533166cbd315e479a2dae3ee2e3d", func := "loop.example/g01383/laws.FnExactCommonJoints", spec := "fnExactCommonJoints", unfollowed := true, recurses := true, apart := false, narrowed := true }
def FnExactCommonJointsUptoSaid : Prop := fnExactCommonJointsUptoRow.holds Try.pinned (OpenSpec.upto fnExactCommonJointsSpec)

/-- 'laws.FnExactJoinBows', WHERE WHAT IT READS IS OF BULK AT MOST 1048576: true; the input reads as it did. -/
def fnExactJoinBowsUptoRow : OpenClaim := { program := "ytabooaeobpgadaa", sum := "ebdd65ad4c7ce2333fec0eb4fd371e83e823533166cbd315e479a2dae3ee2e3d", func := "loop.example/g01383/laws.FnExactJoinBows", spec := "fnExactJoinBows", unfollowed := true, recurses := true, apart := false, narrowed := true }
def FnExactJoinBowsUptoSaid : Prop := fnExactJoinBowsUptoRow.holds Try.pinned (OpenSpec.upto fnExactJoinBowsSpec)

/-- 'laws.FnExactCutRow', WHERE WHAT IT READS IS OF BULK AT MOST 1048576: true; the input reads as it did. -/
def fnExactCutRowUptoRow : OpenClaim := { program := "ytabooaeobpgadaa", sum := "ebdd65ad4c7ce2333fec0eb4fd371e83e823533166cbd315e479a2dae3ee2e3d", func := "loop.example/g01383/laws.FnExactCutRow", spec := "fnExactCutRow", unfollowed := true, recurses := true, apart := false, narrowed := true }
def FnExactCutRowUptoSaid : Prop := fnExactCutRowUptoRow.holds Try.pinned (OpenSpec.upto fnExactCutRowSpec)

/-- 'laws.FnExactBestTurn', WHERE WHAT IT READS IS OF BULK AT MOST 1048576: true; the input reads as it did. -/
def fnExactBestTurnUptoRow : OpenClaim := { program := "ytabooaeobpgadaa", sum := "ebdd65ad4c7ce2333fec0eb4fd371e83e823533166cbd315e479a2dae3ee2e3d", func := "loop.example/g01383/laws.FnExactBestTurn", spec := "fnExactBestTurn", unfollowed := true, recurses := true, apart := false, narrowed := true }
def FnExactBestTurnUptoSaid : Prop := fnExactBestTurnUptoRow.holds Try.pinned (OpenSpec.upto fnExactBestTurnSpec)

/-- 'laws.FnExactLayRow', WHERE WHAT IT READS IS OF BULK AT MOST 1048576: true; the input reads as it did. -/
def fnExactLayRowUptoRow : OpenClaim := { program := "ytabooaeobpgadaa", sum := "ebdd65ad4c7ce2333fec0eb4fd371e83e823533166cbd315e479a2dae3ee2e3d", func := "loop.example/g01383/laws.FnExactLayRow", spec := "fnExactLayRow", unfollowed := true, recurses := true, apart := false, narrowed := true }
def FnExactLayRowUptoSaid : Prop := fnExactLayRowUptoRow.holds Try.pinned (OpenSpec.upto fnExactLayRowSpec)

/-- 'laws.FnExactRowsFrom', WHERE WHAT IT READS IS OF BULK AT MOST 1048576: true; the input reads as it did. -/
def fnExactRowsFromUptoRow : OpenClaim := { program := "ytabooaeobpgadaa", sum := "ebdd65ad4c7ce2333fec0eb4fd371e83e823533166cbd315e479a2dae3ee2e3d", func := "loop.example/g01383/laws.FnExactRowsFrom", spec := "fnExactRowsFrom", apart := false, narrowed := true }
def FnExactRowsFromUptoSaid : Prop := fnExactRowsFromUptoRow.holds Try.pinned (OpenSpec.upto fnExactRowsFromSpec)

/-- 'laws.FnExactFillRow', WHERE WHAT IT READS IS OF BULK AT MOST 1048576: true; the input reads as it did. -/
def fnExactFillRowUptoRow : OpenClaim := { program := "ytabooaeobpgadaa", sum := "ebdd65ad4c7ce2333fec0eb4fd371e83e823533166cbd315e479a2dae3ee2e3d", func := "loop.example/g01383/laws.FnExactFillRow", spec := "fnExactFillRow", apart := false, narrowed := true }
def FnExactFillRowUptoSaid : Prop := fnExactFillRowUptoRow.holds Try.pinned (OpenSpec.upto fnExactFillRowSpec)

/-- 'laws.FnExactFewestSorts', WHERE WHAT IT READS IS OF BULK AT MOST 1048576: true; the input reads as it did. -/
def fnExactFewestSortsUptoRow : OpenClaim := { program := "ytabooaeobpgadaa", sum := "ebdd65ad4c7ce2333fec0eb4fd371e83e823533166cbd315e479a2dae3ee2e3d", func := "loop.example/g01383/laws.FnExactFewestSorts", spec := "fnExactFewestSorts", unfollowed := true, recurses := true, apart := false, narrowed := true }
def FnExactFewestSortsUptoSaid : Prop := fnExactFewestSortsUptoRow.holds Try.pinned (OpenSpec.upto fnExactFewestSortsSpec)

end Rows
end Go.Proofs.Ytabooaeobpgadaa
