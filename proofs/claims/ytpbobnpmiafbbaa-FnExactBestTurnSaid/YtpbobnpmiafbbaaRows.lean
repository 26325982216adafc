/-
  No cell of these rows narrows 'for every input' (looked for: loops, veiled, ifaces, maps, wideKeys, modest, calm, conditions, laid).
  DERIVED. THE GIVEN ROWS OF THIS SEAT. 7 by the template 'for every input the law returns true; each argument reads behind the call as it read before'; 0 by the template 'total and deterministic' (their statements: YtpbobnpmiafbbaaTotals.lean).
  GIVEN WITH THE SEED: the statements are not yours to turn. If you find one false, say at which input.
  Laid BY PROGRAM, IN A SANDBOX (cutbox-rows.mjs): the forced cells as the released guide's own fill.sh prints them over the translation 2208ba51fef854d6… (all of the seat's roots in one cut). By AI agents, Wed Nov 11 2026. No macro, syntax, notation, axiom, sorry.
-/
import Derived.Test.YtpbobnpmiafbbaaChecked
import GoSem.Claim
import GoSem.ClaimJoined
import GoSem.ClaimMapViews
import Derived.JoinedTies
import Derived.KernelRfl
namespace Go.Proofs.Ytpbobnpmiafbbaa
/- THE CELL 'sum', in the pinned program and in every row, IS THE sha256 OF THE DUMP (.gsa) THAT YtpbobnpmiafbbaaProg.lean LOADS. Nothing in Lean hashes anything: it is a label: what it is worth is what the hold of that sum in a sandbox is worth. -/
noncomputable def Try.pinned : Pinned := { name := "ytpbobnpmiafbbaa", sum := "2208ba51fef854d674f1f8f2c4f95c45974bd913d349d67073a4c86e83e437bc", checked := Try.checked }
namespace Rows
def none {H : Type} : Left H := { results := [], args := [] }

/-- 'laws.FnExactCommonJoints': WHATEVER THE INPUT: true; the input reads as it did. -/
def fnExactCommonJointsSpec : ChangeSpec := { name := "fnExactCommonJoints", fn := fun _ => fun
  | [d1, d2, d3] => { results := [.lit (.bool true)], args := [d1, d2, d3] }
  | _ => none }
def fnExactCommonJointsRow : OpenClaim := { program := "ytpbobnpmiafbbaa", sum := "2208ba51fef854d674f1f8f2c4f95c45974bd913d349d67073a4c86e83e437bc", func := "loop.example/g01383/laws.FnExactCommonJoints", spec := "fnExactCommonJoints", unfollowed := true, recurses := true, apart := false }
def FnExactCommonJointsSaid : Prop := fnExactCommonJointsRow.holds Try.pinned (OpenSpec.ofChange fnExactCommonJointsSpec)

/-- ITS FALSE NEIGHBOUR: 'it returns false'. Refute it at one input. -/
def fnExactCommonJointsWrong : ChangeSpec := { name := "fnExactCommonJoints", fn := fun _ => fun
  | [d1, d2, d3] => { results := [.lit (.bool false)], args := [d1, d2, d3] }
  | _ => none }
def FnExactCommonJointsWrongFalsely : Prop := fnExactCommonJointsRow.holds Try.pinned (OpenSpec.ofChange fnExactCommonJointsWrong)

/-- 'laws.FnExactJoinBows': WHATEVER THE INPUT: true; the input reads as it did. -/
def fnExactJoinBowsSpec : ChangeSpec := { name := "fnExactJoinBows", fn := fun _ => fun
  | [d] => { results := [.lit (.bool true)], args := [d] }
  | _ => none }
def fnExactJoinBowsRow : OpenClaim := { program := "ytpbobnpmiafbbaa", sum := "2208ba51fef854d674f1f8f2c4f95c45974bd913d349d67073a4c86e83e437bc", func := "loop.example/g01383/laws.FnExactJoinBows", spec := "fnExactJoinBows", unfollowed := true, recurses := true, apart := false }
def FnExactJoinBowsSaid : Prop := fnExactJoinBowsRow.holds Try.pinned (OpenSpec.ofChange fnExactJoinBowsSpec)

/-- ITS FALSE NEIGHBOUR: 'it returns false'. Refute it at one input. -/
def fnExactJoinBowsWrong : ChangeSpec := { name := "fnExactJoinBows", fn := fun _ => fun
  | [d] => { results := [.lit (.bool false)], args := [d] }
  | _ => none }
def FnExactJoinBowsWrongFalsely : Prop := fnExactJoinBowsRow.holds Try.pinned (OpenSpec.ofChange fnExactJoinBowsWrong)

/-- 'laws.FnExactCutRow': WHATEVER THE INPUT: true; the input reads as it did. -/
def fnExactCutRowSpec : ChangeSpec := { name := "fnExactCutRow", fn := fun _ => fun
  | [d1, d2, d3] => { results := [.lit (.bool true)], args := [d1, d2, d3] }
  | _ => none }
def fnExactCutRowRow : OpenClaim := { program := "ytpbobnpmiafbbaa", sum := "2208ba51fef854d674f1f8f2c4f95c45974bd913d349d67073a4c86e83e437bc", func := "loop.example/g01383/laws.FnExactCutRow", spec := "fnExactCutRow", unfollowed := true, recurses := true, apart := false }
def FnExactCutRowSaid : Prop := fnExactCutRowRow.holds Try.pinned (OpenSpec.ofChange fnExactCutRowSpec)

/-- ITS FALSE NEIGHBOUR: 'it returns false'. Refute it at one input. -/
def fnExactCutRowWrong : ChangeSpec := { name := "fnExactCutRow", fn := fun _ => fun
  | [d1, d2, d3] => { results := [.lit (.bool false)], args := [d1, d2, d3] }
  | _ => none }
def FnExactCutRowWrongFalsely : Prop := fnExactCutRowRow.holds Try.pinned (OpenSpec.ofChange fnExactCutRowWrong)

/-- 'laws.FnExactBestTurn': WHATEVER THE INPUT: true; the input reads as it did. -/
def fnExactBestTurnSpec : ChangeSpec := { name := "fnExactBestTurn", fn := fun _ => fun
  | [d1, d2, d3] => { results := [.lit (.bool true)], args := [d1, d2, d3] }
  | _ => none }
def fnExactBestTurnRow : OpenClaim := { program := "ytpbobnpmiafbbaa", sum := "2208ba51fef854d674f1f8f2c4f95c45974bd913d349d67073a4c86e83e437bc", func := "loop.example/g01383/laws.FnExactBestTurn", spec := "fnExactBestTurn", unfollowed := true, recurses := true, apart := false }
def FnExactBestTurnSaid : Prop := fnExactBestTurnRow.holds Try.pinned (OpenSpec.ofChange fnExactBestTurnSpec)

/-- ITS FALSE NEIGHBOUR: 'it returns false'. Refute it at one input. -/
def fnExactBestTurnWrong : ChangeSpec := { name := "fnExactBestTurn", fn := fun _ => fun
  | [d1, d2, d3] => { results := [.lit (.bool false)], args := [d1, d2, d3] }
  | _ => none }
def FnExactBestTurnWrongFalsely : Prop := fnExactBestTurnRow.holds Try.pinned (OpenSpec.ofChange fnExactBestTurnWrong)

/-- 'laws.FnExactTwoBarrows': WHATEVER THE INPUT: true; the input reads as it did. -/
def fnExactTwoBarrowsSpec : ChangeSpec := { name := "fnExactTwoBarrows", fn := fun _ => fun
  | [d] => { results := [.lit (.bool true)], args := [d] }
  | _ => none }
def fnExactTwoBarrowsRow : OpenClaim := { program := "ytpbobnpmiafbbaa", sum := "2208ba51fef854d674f1f8f2c4f95c45974bd913d349d67073a4c86e83e437bc", func := "loop.example/g01383/laws.FnExactTwoBarrows", spec := "fnExactTwoBarrows", apart := false }
def FnExactTwoBarrowsSaid : Prop := fnExactTwoBarrowsRow.holds Try.pinned (OpenSpec.ofChange fnExactTwoBarrowsSpec)

/-- ITS FALSE NEIGHBOUR: 'it returns false'. Refute it at one input. -/
def fnExactTwoBarrowsWrong : ChangeSpec := { name := "fnExactTwoBarrows", fn := fun _ => fun
  | [d] => { results := [.lit (.bool false)], args := [d] }
  | _ => none }
def FnExactTwoBarrowsWrongFalsely : Prop := fnExactTwoBarrowsRow.holds Try.pinned (OpenSpec.ofChange fnExactTwoBarrowsWrong)

/-- 'laws.FnExactLayRow': WHATEVER THE INPUT: true; the input reads as it did. -/
def fnExactLayRowSpec : ChangeSpec := { name := "fnExactLayRow", fn := fun _ => fun
  | [d1, d2] => { results := [.lit (.bool true)], args := [d1, d2] }
  | _ => none }
def fnExactLayRowRow : OpenClaim := { program := "ytpbobnpmiafbbaa", sum := "2208ba51fef854d674f1f8f2c4f95c45974bd913d349d67073a4c86e83e437bc", func := "loop.example/g01383/laws.FnExactLayRow", spec := "fnExactLayRow", unfollowed := true, recurses := true, apart := false }
def FnExactLayRowSaid : Prop := fnExactLayRowRow.holds Try.pinned (OpenSpec.ofChange fnExactLayRowSpec)

/-- ITS FALSE NEIGHBOUR: 'it returns false'. Refute it at one input. -/
def fnExactLayRowWrong : ChangeSpec := { name := "fnExactLayRow", fn := fun _ => fun
  | [d1, d2] => { results := [.lit (.bool false)], args := [d1, d2] }
  | _ => none }
def FnExactLayRowWrongFalsely : Prop := fnExactLayRowRow.holds Try.pinned (OpenSpec.ofChange fnExactLayRowWrong)

/-- 'laws.FnExactFewestSorts': WHATEVER THE INPUT: true; the input reads as it did. -/
def fnExactFewestSortsSpec : ChangeSpec := { name := "fnExactFewestSorts", fn := fun _ => fun
  | [d1, d2, d3] => { results := [.lit (.bool true)], args := [d1, d2, d3] }
  | _ => none }
def fnExactFewestSortsRow : OpenClaim := { program := "ytpbobnpmiafbbaa", sum := "2208ba51fef854d674f1f8f2c4f95c45974bd913d349d67073a4c86e83e437bc", func := "loop.example/g01383/laws.FnExactFewestSorts", spec := "fnExactFewestSorts", unfollowed := true, recurses := true, apart := false }
def FnExactFewestSortsSaid : Prop := fnExactFewestSortsRow.holds Try.pinned (OpenSpec.ofChange fnExactFewestSortsSpec)

/-- ITS FALSE NEIGHBOUR: 'it returns false'. Refute it at one input. -/
def fnExactFewestSortsWrong : ChangeSpec := { name := "fnExactFewestSorts", fn := fun _ => fun
  | [d1, d2, d3] => { results := [.lit (.bool false)], args := [d1, d2, d3] }
  | _ => none }
def FnExactFewestSortsWrongFalsely : Prop := fnExactFewestSortsRow.holds Try.pinned (OpenSpec.ofChange fnExactFewestSortsWrong)

/- THE SECOND FORM. 'bulk': how many values and letters a reading holds, each counted each time it is reached (what is shared counts as often as it is met; a slice's spare places count too). A statement '..UptoSaid' is the law's where the arguments, and the package variables that the reading takes, are together of bulk at most 1048576: NARROWER than '..Said'. Prove '..Said' where nothing that the law and all that it calls make is longer than what came in: it says more and counts as full. Else prove '..UptoSaid'. A law counts once. -/
mutual
def uptoBulk {H : Type} : DataW H → Nat
  | .lit (.string bytes) => bytes.length + 1
  | .lit _ => 1
  | .nil => 1
  | .ptr d => uptoBulk d + 1
  | .slice elems spare => uptoBulkAll elems + uptoBulkAll spare + 1
  | .agg parts => uptoBulkAll parts + 1
  | .iface _ d => uptoBulk d + 1
  | .map entries => uptoBulkEntries entries + 1
  | .held _ => 1
def uptoBulkAll {H : Type} : List (DataW H) → Nat
  | [] => 0
  | d :: r => uptoBulk d + uptoBulkAll r
def uptoBulkEntries {H : Type} : List (Lit × DataW H) → Nat
  | [] => 0
  | x :: r => uptoBulkEntry x + uptoBulkEntries r
def uptoBulkEntry {H : Type} : Lit × DataW H → Nat
  | (.string bytes, d) => bytes.length + uptoBulk d + 1
  | (_, d) => uptoBulk d + 1
 end
def uptoSmall : (H : Type) → List (DataW H) → Bool := fun _ ds => decide (uptoBulkAll ds ≤ 1048576)
def OpenSpec.upto (s : _root_.Go.ChangeSpec) : _root_.Go.OpenSpec := { _root_.Go.OpenSpec.ofChange s with cond := some uptoSmall }

/-- 'laws.FnExactCommonJoints', WHERE WHAT IT READS IS OF BULK AT MOST 1048576: true; the input reads as it did. -/
def fnExactCommonJointsUptoRow : OpenClaim := { program := "ytpbobnpmiafbbaa", sum := "2208ba51fef854d674f1f8f2c4f95c45974bd913d349d67073a4c86e83e437bc", func := "loop.example/g01383/laws.FnExactCommonJoints", spec := "fnExactCommonJoints", unfollowed := true, recurses := true, apart := false, narrowed := true }
def FnExactCommonJointsUptoSaid : Prop := fnExactCommonJointsUptoRow.holds Try.pinned (OpenSpec.upto fnExactCommonJointsSpec)

/-- 'laws.FnExactJoinBows', WHERE WHAT IT READS IS OF BULK AT MOST 1048576: true; the input reads as it did. -/
def fnExactJoinBowsUptoRow : OpenClaim := { program := "ytpbobnpmiafbbaa", sum := "2208ba51fef854d674f1f8f2c4f95c45974bd913d349d67073a4c86e83e437bc", func := "loop.example/g01383/laws.FnExactJoinBows", spec := "fnExactJoinBows", unfollowed := true, recurses := true, apart := false, narrowed := true }
def FnExactJoinBowsUptoSaid : Prop := fnExactJoinBowsUptoRow.holds Try.pinned (OpenSpec.upto fnExactJoinBowsSpec)

/-- 'laws.FnExactCutRow', WHERE WHAT IT READS IS OF BULK AT MOST 1048576: true; the input reads as it did. -/
def fnExactCutRowUptoRow : OpenClaim := { program := "ytpbobnpmiafbbaa", sum := "2208ba51fef854d674f1f8f2c4f95c45974bd913d349d67073a4c86e83e437bc", func := "loop.example/g01383/laws.FnExactCutRow", spec := "fnExactCutRow", unfollowed := true, recurses := true, apart := false, narrowed := true }
def FnExactCutRowUptoSaid : Prop := fnExactCutRowUptoRow.holds Try.pinned (OpenSpec.upto fnExactCutRowSpec)

/-- 'laws.FnExactBestTurn', WHERE WHAT IT READS IS OF BULK AT MOST 1048576: true; the input reads as it did. -/
def fnExactBestTurnUptoRow : OpenClaim := { program := "ytpbobnpmiafbbaa", sum := "2208ba51fef854d674f1f8f2c4f95c45974bd913d349d67073a4c86e83e437bc", func := "loop.example/g01383/laws.FnExactBestTurn", spec := "fnExactBestTurn", unfollowed := true, recurses := true, apart := false, narrowed := true }
def FnExactBestTurnUptoSaid : Prop := fnExactBestTurnUptoRow.holds Try.pinned (OpenSpec.upto fnExactBestTurnSpec)

/-- 'laws.FnExactTwoBarrows', WHERE WHAT IT READS IS OF BULK AT MOST 1048576: true; the input reads as it did. -/
def fnExactTwoBarrowsUptoRow : OpenClaim := { program := "ytpbobnpmiafbbaa", sum := "2208ba51fef854d674f1f8f2c4f95c45974bd913d349d67073a4c86e83e437bc", func := "loop.example/g01383/laws.FnExactTwoBarrows", spec := "fnExactTwoBarrows", apart := false, narrowed := true }
def FnExactTwoBarrowsUptoSaid : Prop := fnExactTwoBarrowsUptoRow.holds Try.pinned (OpenSpec.upto fnExactTwoBarrowsSpec)

/-- 'laws.FnExactLayRow', WHERE WHAT IT READS IS OF BULK AT MOST 1048576: true; the input reads as it did. -/
def fnExactLayRowUptoRow : OpenClaim := { program := "ytpbobnpmiafbbaa", sum := "2208ba51fef854d674f1f8f2c4f95c45974bd913d349d67073a4c86e83e437bc", func := "loop.example/g01383/laws.FnExactLayRow", spec := "fnExactLayRow", unfollowed := true, recurses := true, apart := false, narrowed := true }
def FnExactLayRowUptoSaid : Prop := fnExactLayRowUptoRow.holds Try.pinned (OpenSpec.upto fnExactLayRowSpec)

/-- 'laws.FnExactFewestSorts', WHERE WHAT IT READS IS OF BULK AT MOST 1048576: true; the input reads as it did. -/
def fnExactFewestSortsUptoRow : OpenClaim := { program := "ytpbobnpmiafbbaa", sum := "2208ba51fef854d674f1f8f2c4f95c45974bd913d349d67073a4c86e83e437bc", func := "loop.example/g01383/laws.FnExactFewestSorts", spec := "fnExactFewestSorts", unfollowed := true, recurses := true, apart := false, narrowed := true }
def FnExactFewestSortsUptoSaid : Prop := fnExactFewestSortsUptoRow.holds Try.pinned (OpenSpec.upto fnExactFewestSortsSpec)

end Rows
end Go.Proofs.Ytpbobnpmiafbbaa
