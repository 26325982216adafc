/-
  No cell of these rows narrows 'for every input' (looked for: loops, veiled, ifaces, maps, wideKeys, modest, calm, conditions, laid).
  DERIVED. THE GIVEN ROWS OF THIS SEAT. 7 by the template 'for every input the law returns true; each argument reads behind the call as it read before'; 0 by the template 'total and deterministic' (their statements: YtflnkaabfjfdlaaTotals.lean).
  GIVEN WITH THE SEED: the statements are not yours to turn. If you find one false, say at which input.
  Laid BY PROGRAM, IN A SANDBOX (cutbox-rows.mjs): the forced cells as the released guide's own fill.sh prints them over the translation adb51cdcd8c0dbea… (all of the seat's roots in one cut). By AI agents, Wed Nov 11 2026. No macro, syntax, notation, axiom, sorry.
-/
import Derived.Test.YtflnkaabfjfdlaaChecked
import GoSem.Claim
import GoSem.ClaimJoined
import GoSem.ClaimMapViews
import Derived.JoinedTies
import Derived.KernelRfl
namespace Go.Proofs.Ytflnkaabfjfdlaa
/- THE CELL 'sum', in the pinned program and in every row, IS THE sha256 OF THE DUMP (.gsa) THAT YtflnkaabfjfdlaaProg.lean LOADS. Nothing in Lean hashes anything: it is a label: what it is worth is what the hold of that sum in a sandbox is worth. -/
noncomputable def Try.pinned : Pinned := { name := "ytflnkaabfjfdlaa", sum := "adb51cdcd8c0dbeaa8d7ddb8ad988d5617e5902a9eed9bc729abe8425a9088d0", checked := Try.checked }
namespace Rows
def none {H : Type} : Left H := { results := [], args := [] }

/-- 'laws.FnExactSameGround': WHATEVER THE INPUT: true; the input reads as it did. -/
def fnExactSameGroundSpec : ChangeSpec := { name := "fnExactSameGround", fn := fun _ => fun
  | [d1, d2] => { results := [.lit (.bool true)], args := [d1, d2] }
  | _ => none }
def fnExactSameGroundRow : OpenClaim := { program := "ytflnkaabfjfdlaa", sum := "adb51cdcd8c0dbeaa8d7ddb8ad988d5617e5902a9eed9bc729abe8425a9088d0", func := "loop.example/g01383/laws.FnExactSameGround", spec := "fnExactSameGround", plainKeys := false, apart := false }
def FnExactSameGroundSaid : Prop := fnExactSameGroundRow.holds Try.pinned (OpenSpec.ofChange fnExactSameGroundSpec)

/-- ITS FALSE NEIGHBOUR: 'it returns false'. Refute it at one input. -/
def fnExactSameGroundWrong : ChangeSpec := { name := "fnExactSameGround", fn := fun _ => fun
  | [d1, d2] => { results := [.lit (.bool false)], args := [d1, d2] }
  | _ => none }
def FnExactSameGroundWrongFalsely : Prop := fnExactSameGroundRow.holds Try.pinned (OpenSpec.ofChange fnExactSameGroundWrong)

/-- 'laws.FnExactTwoBarrows': WHATEVER THE INPUT: true; the input reads as it did. -/
def fnExactTwoBarrowsSpec : ChangeSpec := { name := "fnExactTwoBarrows", fn := fun _ => fun
  | [d] => { results := [.lit (.bool true)], args := [d] }
  | _ => none }
def fnExactTwoBarrowsRow : OpenClaim := { program := "ytflnkaabfjfdlaa", sum := "adb51cdcd8c0dbeaa8d7ddb8ad988d5617e5902a9eed9bc729abe8425a9088d0", func := "loop.example/g01383/laws.FnExactTwoBarrows", spec := "fnExactTwoBarrows", plainKeys := false, apart := false }
def FnExactTwoBarrowsSaid : Prop := fnExactTwoBarrowsRow.holds Try.pinned (OpenSpec.ofChange fnExactTwoBarrowsSpec)

/-- ITS FALSE NEIGHBOUR: 'it returns false'. Refute it at one input. -/
def fnExactTwoBarrowsWrong : ChangeSpec := { name := "fnExactTwoBarrows", fn := fun _ => fun
  | [d] => { results := [.lit (.bool false)], args := [d] }
  | _ => none }
def FnExactTwoBarrowsWrongFalsely : Prop := fnExactTwoBarrowsRow.holds Try.pinned (OpenSpec.ofChange fnExactTwoBarrowsWrong)

/-- 'laws.FnExactBarrowLoads': WHATEVER THE INPUT: true; the input reads as it did. -/
def fnExactBarrowLoadsSpec : ChangeSpec := { name := "fnExactBarrowLoads", fn := fun _ => fun
  | [d1, d2] => { results := [.lit (.bool true)], args := [d1, d2] }
  | _ => none }
def fnExactBarrowLoadsRow : OpenClaim := { program := "ytflnkaabfjfdlaa", sum := "adb51cdcd8c0dbeaa8d7ddb8ad988d5617e5902a9eed9bc729abe8425a9088d0", func := "loop.example/g01383/laws.FnExactBarrowLoads", spec := "fnExactBarrowLoads", unfollowed := true, recurses := true, plainKeys := false, apart := false }
def FnExactBarrowLoadsSaid : Prop := fnExactBarrowLoadsRow.holds Try.pinned (OpenSpec.ofChange fnExactBarrowLoadsSpec)

/-- ITS FALSE NEIGHBOUR: 'it returns false'. Refute it at one input. -/
def fnExactBarrowLoadsWrong : ChangeSpec := { name := "fnExactBarrowLoads", fn := fun _ => fun
  | [d1, d2] => { results := [.lit (.bool false)], args := [d1, d2] }
  | _ => none }
def FnExactBarrowLoadsWrongFalsely : Prop := fnExactBarrowLoadsRow.holds Try.pinned (OpenSpec.ofChange fnExactBarrowLoadsWrong)

/-- 'laws.FnExactValidPattern': WHATEVER THE INPUT: true; the input reads as it did. -/
def fnExactValidPatternSpec : ChangeSpec := { name := "fnExactValidPattern", fn := fun _ => fun
  | [d] => { results := [.lit (.bool true)], args := [d] }
  | _ => none }
def fnExactValidPatternRow : OpenClaim := { program := "ytflnkaabfjfdlaa", sum := "adb51cdcd8c0dbeaa8d7ddb8ad988d5617e5902a9eed9bc729abe8425a9088d0", func := "loop.example/g01383/laws.FnExactValidPattern", spec := "fnExactValidPattern", unfollowed := true, recurses := true, plainKeys := false, apart := false }
def FnExactValidPatternSaid : Prop := fnExactValidPatternRow.holds Try.pinned (OpenSpec.ofChange fnExactValidPatternSpec)

/-- ITS FALSE NEIGHBOUR: 'it returns false'. Refute it at one input. -/
def fnExactValidPatternWrong : ChangeSpec := { name := "fnExactValidPattern", fn := fun _ => fun
  | [d] => { results := [.lit (.bool false)], args := [d] }
  | _ => none }
def FnExactValidPatternWrongFalsely : Prop := fnExactValidPatternRow.holds Try.pinned (OpenSpec.ofChange fnExactValidPatternWrong)

/-- 'laws.FnExactAreaOfPattern': WHATEVER THE INPUT: true; the input reads as it did. -/
def fnExactAreaOfPatternSpec : ChangeSpec := { name := "fnExactAreaOfPattern", fn := fun _ => fun
  | [d] => { results := [.lit (.bool true)], args := [d] }
  | _ => none }
def fnExactAreaOfPatternRow : OpenClaim := { program := "ytflnkaabfjfdlaa", sum := "adb51cdcd8c0dbeaa8d7ddb8ad988d5617e5902a9eed9bc729abe8425a9088d0", func := "loop.example/g01383/laws.FnExactAreaOfPattern", spec := "fnExactAreaOfPattern", unfollowed := true, recurses := true, plainKeys := false, apart := false }
def FnExactAreaOfPatternSaid : Prop := fnExactAreaOfPatternRow.holds Try.pinned (OpenSpec.ofChange fnExactAreaOfPatternSpec)

/-- ITS FALSE NEIGHBOUR: 'it returns false'. Refute it at one input. -/
def fnExactAreaOfPatternWrong : ChangeSpec := { name := "fnExactAreaOfPattern", fn := fun _ => fun
  | [d] => { results := [.lit (.bool false)], args := [d] }
  | _ => none }
def FnExactAreaOfPatternWrongFalsely : Prop := fnExactAreaOfPatternRow.holds Try.pinned (OpenSpec.ofChange fnExactAreaOfPatternWrong)

/-- 'laws.FnExactSquareText': WHATEVER THE INPUT: true; the input reads as it did. -/
def fnExactSquareTextSpec : ChangeSpec := { name := "fnExactSquareText", fn := fun _ => fun
  | [d] => { results := [.lit (.bool true)], args := [d] }
  | _ => none }
def fnExactSquareTextRow : OpenClaim := { program := "ytflnkaabfjfdlaa", sum := "adb51cdcd8c0dbeaa8d7ddb8ad988d5617e5902a9eed9bc729abe8425a9088d0", func := "loop.example/g01383/laws.FnExactSquareText", spec := "fnExactSquareText", unfollowed := true, recurses := true, plainKeys := false, apart := false }
def FnExactSquareTextSaid : Prop := fnExactSquareTextRow.holds Try.pinned (OpenSpec.ofChange fnExactSquareTextSpec)

/-- ITS FALSE NEIGHBOUR: 'it returns false'. Refute it at one input. -/
def fnExactSquareTextWrong : ChangeSpec := { name := "fnExactSquareText", fn := fun _ => fun
  | [d] => { results := [.lit (.bool false)], args := [d] }
  | _ => none }
def FnExactSquareTextWrongFalsely : Prop := fnExactSquareTextRow.holds Try.pinned (OpenSpec.ofChange fnExactSquareTextWrong)

/-- 'laws.FnExactSizesIn': WHATEVER THE INPUT: true; the input reads as it did. -/
def fnExactSizesInSpec : ChangeSpec := { name := "fnExactSizesIn", fn := fun _ => fun
  | [d] => { results := [.lit (.bool true)], args := [d] }
  | _ => none }
def fnExactSizesInRow : OpenClaim := { program := "ytflnkaabfjfdlaa", sum := "adb51cdcd8c0dbeaa8d7ddb8ad988d5617e5902a9eed9bc729abe8425a9088d0", func := "loop.example/g01383/laws.FnExactSizesIn", spec := "fnExactSizesIn", unfollowed := true, recurses := true, plainKeys := false, apart := false }
def FnExactSizesInSaid : Prop := fnExactSizesInRow.holds Try.pinned (OpenSpec.ofChange fnExactSizesInSpec)

/-- ITS FALSE NEIGHBOUR: 'it returns false'. Refute it at one input. -/
def fnExactSizesInWrong : ChangeSpec := { name := "fnExactSizesIn", fn := fun _ => fun
  | [d] => { results := [.lit (.bool false)], args := [d] }
  | _ => none }
def FnExactSizesInWrongFalsely : Prop := fnExactSizesInRow.holds Try.pinned (OpenSpec.ofChange fnExactSizesInWrong)

/- THE SECOND FORM. 'bulk': how many values and letters a reading holds, each counted each time it is reached (what is shared counts as often as it is met; a slice's spare places count too). A statement '..UptoSaid' is the law's where the arguments, and the package variables that the reading takes, are together of bulk at most 1048576: NARROWER than '..Said'. Prove '..Said' where nothing that the law and all that it calls make is longer than what came in: it says more and counts as full. Else prove '..UptoSaid'. A law counts once. -/
mutual
def uptoBulk {H : Type} : DataW H → Nat
  | .lit (.string bytes) => bytes.length + 1
  | .lit _ => 1
  | .nil => 1
  | .ptr d => uptoBulk d + 1
  | .slice elems spare => uptoBulkAll elems + uptoBulkAll spare + 1
  | .agg parts => uptoBulkAll parts + 1
  | .iface _ d => uptoBulk d + 1
  | .map entries => uptoBulkEntries entries + 1
  | .held _ => 1
def uptoBulkAll {H : Type} : List (DataW H) → Nat
  | [] => 0
  | d :: r => uptoBulk d + uptoBulkAll r
def uptoBulkEntries {H : Type} : List (Lit × DataW H) → Nat
  | [] => 0
  | x :: r => uptoBulkEntry x + uptoBulkEntries r
def uptoBulkEntry {H : Type} : Lit × DataW H → Nat
  | (.string bytes, d) => bytes.length + uptoBulk d + 1
  | (_, d) => uptoBulk d + 1
 end
def uptoSmall : (H : Type) → List (DataW H) → Bool := fun _ ds => decide (uptoBulkAll ds ≤ 1048576)
def OpenSpec.upto (s : _root_.Go.ChangeSpec) : _root_.Go.OpenSpec := { _root_.Go.OpenSpec.ofChange s with cond := some uptoSmall }

/-- 'laws.FnExactSameGround', WHERE WHAT IT READS IS OF BULK AT MOST 1048576: true; the input reads as it did. -/
def fnExactSameGroundUptoRow : OpenClaim := { program := "ytflnkaabfjfdlaa", sum := "adb51cdcd8c0dbeaa8d7ddb8ad988d5617e5902a9eed9bc729abe8425a9088d0", func := "loop.example/g01383/laws.FnExactSameGround", spec := "fnExactSameGround", plainKeys := false, apart := false, narrowed := true }
def FnExactSameGroundUptoSaid : Prop := fnExactSameGroundUptoRow.holds Try.pinned (OpenSpec.upto fnExactSameGroundSpec)

/-- 'laws.FnExactTwoBarrows', WHERE WHAT IT READS IS OF BULK AT MOST 1048576: true; the input reads as it did. -/
def fnExactTwoBarrowsUptoRow : OpenClaim := { program := "ytflnkaabfjfdlaa", sum := "adb51cdcd8c0dbeaa8d7ddb8ad988d5617e5902a9eed9bc729abe8425a9088d0", func := "loop.example/g01383/laws.FnExactTwoBarrows", spec := "fnExactTwoBarrows", plainKeys := false, apart := false, narrowed := true }
def FnExactTwoBarrowsUptoSaid : Prop := fnExactTwoBarrowsUptoRow.holds Try.pinned (OpenSpec.upto fnExactTwoBarrowsSpec)

/-- 'laws.FnExactBarrowLoads', WHERE WHAT IT READS IS OF BULK AT MOST 1048576: true; the input reads as it did. -/
def fnExactBarrowLoadsUptoRow : OpenClaim := { program := "ytflnkaabfjfdlaa", sum := "adb51cdcd8c0dbeaa8d7ddb8ad988d5617e5902a9eed9bc729abe8425a9088d0", func := "loop.example/g01383/laws.FnExactBarrowLoads", spec := "fnExactBarrowLoads", unfollowed := true, recurses := true, plainKeys := false, apart := false, narrowed := true }
def FnExactBarrowLoadsUptoSaid : Prop := fnExactBarrowLoadsUptoRow.holds Try.pinned (OpenSpec.upto fnExactBarrowLoadsSpec)

/-- 'laws.FnExactValidPattern', WHERE WHAT IT READS IS OF BULK AT MOST 1048576: true; the input reads as it did. -/
def fnExactValidPatternUptoRow : OpenClaim := { program := "ytflnkaabfjfdlaa", sum := "adb51cdcd8c0dbeaa8d7ddb8ad988d5617e5902a9eed9bc729abe8425a9088d0", func := "loop.example/g01383/laws.FnExactValidPattern", spec := "fnExactValidPattern", unfollowed := true, recurses := true, plainKeys := false, apart := false, narrowed := true }
def FnExactValidPatternUptoSaid : Prop := fnExactValidPatternUptoRow.holds Try.pinned (OpenSpec.upto fnExactValidPatternSpec)

/-- 'laws.FnExactAreaOfPattern', WHERE WHAT IT READS IS OF BULK AT MOST 1048576: true; the input reads as it did. -/
def fnExactAreaOfPatternUptoRow : OpenClaim := { program := "ytflnkaabfjfdlaa", sum := "adb51cdcd8c0dbeaa8d7ddb8ad988d5617e5902a9eed9bc729abe8425a9088d0", func := "loop.example/g01383/laws.FnExactAreaOfPattern", spec := "fnExactAreaOfPattern", unfollowed := true, recurses := true, plainKeys := false, apart := false, narrowed := true }
def FnExactAreaOfPatternUptoSaid : Prop := fnExactAreaOfPatternUptoRow.holds Try.pinned (OpenSpec.upto fnExactAreaOfPatternSpec)

/-- 'laws.FnExactSquareText', WHERE WHAT IT READS IS OF BULK AT MOST 1048576: true; the input reads as it did. -/
def fnExactSquareTextUptoRow : OpenClaim := { program := "ytflnkaabfjfdlaa", sum := "adb51cdcd8c0dbeaa8d7ddb8ad988d5617e5902a9eed9bc729abe8425a9088d0", func := "loop.example/g01383/laws.FnExactSquareText", spec := "fnExactSquareText", unfollowed := true, recurses := true, plainKeys := false, apart := false, narrowed := true }
def FnExactSquareTextUptoSaid : Prop := fnExactSquareTextUptoRow.holds Try.pinned (OpenSpec.upto fnExactSquareTextSpec)

/-- 'laws.FnExactSizesIn', WHERE WHAT IT READS IS OF BULK AT MOST 1048576: true; the input reads as it did. -/
def fnExactSizesInUptoRow : OpenClaim := { program := "ytflnkaabfjfdlaa", sum := "adb51cdcd8c0dbeaa8d7ddb8ad988d5617e5902a9eed9bc729abe8425a9088d0", func := "loop.example/g01383/laws.FnExactSizesIn", spec := "fnExactSizesIn", unfollowed := true, recurses := true, plainKeys := false, apart := false, narrowed := true }
def FnExactSizesInUptoSaid : Prop := fnExactSizesInUptoRow.holds Try.pinned (OpenSpec.upto fnExactSizesInSpec)

end Rows
end Go.Proofs.Ytflnkaabfjfdlaa
