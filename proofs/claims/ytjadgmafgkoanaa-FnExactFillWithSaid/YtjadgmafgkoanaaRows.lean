/-
  No cell of these rows narrows 'for every input' (looked for: loops, veiled, ifaces, maps, wideKeys, modest, calm, conditions, laid).
  DERIVED. THE GIVEN ROWS OF THIS SEAT. 8 by the template 'for every input the law returns true; each argument reads behind the call as it read before'; 0 by the template 'total and deterministic' (their statements: YtjadgmafgkoanaaTotals.lean).
  GIVEN WITH THE SEED: the statements are not yours to turn. If you find one false, say at which input.
  Laid BY PROGRAM, IN A SANDBOX (cutbox-rows.mjs): the forced cells as the released guide's own fill.sh prints them over the translation a211dc7d043061ee… (all of the seat's roots in one cut). By AI agents, Wed Nov 11 2026. No macro, syntax, notation, axiom, sorry.
-/
import Derived.Test.YtjadgmafgkoanaaChecked
import GoSem.Claim
import GoSem.ClaimJoined
import GoSem.ClaimMapViews
import Derived.JoinedTies
import Derived.KernelRfl
namespace Go.Proofs.Ytjadgmafgkoanaa
/- THE CELL 'sum', in the pinned program and in every row, IS THE sha256 OF THE DUMP (.gsa) THAT YtjadgmafgkoanaaProg.lean LOADS. Nothing in Lean hashes anything: it is a label: what it is worth is what the hold of that sum in a sandbox is worth. -/
noncomputable def Try.pinned : Pinned := { name := "ytjadgmafgkoanaa", sum := "a211dc7d043061ee45d47e411c204e8ef78c198d2a207c49012886afcf3daaa4", checked := Try.checked }
namespace Rows
def none {H : Type} : Left H := { results := [], args := [] }

/-- 'laws.FnExactFillWith': WHATEVER THE INPUT: true; the input reads as it did. -/
def fnExactFillWithSpec : ChangeSpec := { name := "fnExactFillWith", fn := fun _ => fun
  | [d1, d2, d3] => { results := [.lit (.bool true)], args := [d1, d2, d3] }
  | _ => none }
def fnExactFillWithRow : OpenClaim := { program := "ytjadgmafgkoanaa", sum := "a211dc7d043061ee45d47e411c204e8ef78c198d2a207c49012886afcf3daaa4", func := "loop.example/g01383/laws.FnExactFillWith", spec := "fnExactFillWith", unfollowed := true, recurses := true, plainKeys := false, apart := false }
def FnExactFillWithSaid : Prop := fnExactFillWithRow.holds Try.pinned (OpenSpec.ofChange fnExactFillWithSpec)

/-- ITS FALSE NEIGHBOUR: 'it returns false'. Refute it at one input. -/
def fnExactFillWithWrong : ChangeSpec := { name := "fnExactFillWith", fn := fun _ => fun
  | [d1, d2, d3] => { results := [.lit (.bool false)], args := [d1, d2, d3] }
  | _ => none }
def FnExactFillWithWrongFalsely : Prop := fnExactFillWithRow.holds Try.pinned (OpenSpec.ofChange fnExactFillWithWrong)

/-- 'laws.FnExactTurnSquare': WHATEVER THE INPUT: true; the input reads as it did. -/
def fnExactTurnSquareSpec : ChangeSpec := { name := "fnExactTurnSquare", fn := fun _ => fun
  | [d] => { results := [.lit (.bool true)], args := [d] }
  | _ => none }
def fnExactTurnSquareRow : OpenClaim := { program := "ytjadgmafgkoanaa", sum := "a211dc7d043061ee45d47e411c204e8ef78c198d2a207c49012886afcf3daaa4", func := "loop.example/g01383/laws.FnExactTurnSquare", spec := "fnExactTurnSquare", unfollowed := true, recurses := true, plainKeys := false, apart := false }
def FnExactTurnSquareSaid : Prop := fnExactTurnSquareRow.holds Try.pinned (OpenSpec.ofChange fnExactTurnSquareSpec)

/-- ITS FALSE NEIGHBOUR: 'it returns false'. Refute it at one input. -/
def fnExactTurnSquareWrong : ChangeSpec := { name := "fnExactTurnSquare", fn := fun _ => fun
  | [d] => { results := [.lit (.bool false)], args := [d] }
  | _ => none }
def FnExactTurnSquareWrongFalsely : Prop := fnExactTurnSquareRow.holds Try.pinned (OpenSpec.ofChange fnExactTurnSquareWrong)

/-- 'laws.FnExactMirrorSquare': WHATEVER THE INPUT: true; the input reads as it did. -/
def fnExactMirrorSquareSpec : ChangeSpec := { name := "fnExactMirrorSquare", fn := fun _ => fun
  | [d] => { results := [.lit (.bool true)], args := [d] }
  | _ => none }
def fnExactMirrorSquareRow : OpenClaim := { program := "ytjadgmafgkoanaa", sum := "a211dc7d043061ee45d47e411c204e8ef78c198d2a207c49012886afcf3daaa4", func := "loop.example/g01383/laws.FnExactMirrorSquare", spec := "fnExactMirrorSquare", unfollowed := true, recurses := true, plainKeys := false, apart := false }
def FnExactMirrorSquareSaid : Prop := fnExactMirrorSquareRow.holds Try.pinned (OpenSpec.ofChange fnExactMirrorSquareSpec)

/-- ITS FALSE NEIGHBOUR: 'it returns false'. Refute it at one input. -/
def fnExactMirrorSquareWrong : ChangeSpec := { name := "fnExactMirrorSquare", fn := fun _ => fun
  | [d] => { results := [.lit (.bool false)], args := [d] }
  | _ => none }
def FnExactMirrorSquareWrongFalsely : Prop := fnExactMirrorSquareRow.holds Try.pinned (OpenSpec.ofChange fnExactMirrorSquareWrong)

/-- 'laws.FnExactSizesIn': WHATEVER THE INPUT: true; the input reads as it did. -/
def fnExactSizesInSpec : ChangeSpec := { name := "fnExactSizesIn", fn := fun _ => fun
  | [d] => { results := [.lit (.bool true)], args := [d] }
  | _ => none }
def fnExactSizesInRow : OpenClaim := { program := "ytjadgmafgkoanaa", sum := "a211dc7d043061ee45d47e411c204e8ef78c198d2a207c49012886afcf3daaa4", func := "loop.example/g01383/laws.FnExactSizesIn", spec := "fnExactSizesIn", unfollowed := true, recurses := true, plainKeys := false, apart := false }
def FnExactSizesInSaid : Prop := fnExactSizesInRow.holds Try.pinned (OpenSpec.ofChange fnExactSizesInSpec)

/-- ITS FALSE NEIGHBOUR: 'it returns false'. Refute it at one input. -/
def fnExactSizesInWrong : ChangeSpec := { name := "fnExactSizesIn", fn := fun _ => fun
  | [d] => { results := [.lit (.bool false)], args := [d] }
  | _ => none }
def FnExactSizesInWrongFalsely : Prop := fnExactSizesInRow.holds Try.pinned (OpenSpec.ofChange fnExactSizesInWrong)

/-- 'laws.FnExactPutSlab': WHATEVER THE INPUT: true; the input reads as it did. -/
def fnExactPutSlabSpec : ChangeSpec := { name := "fnExactPutSlab", fn := fun _ => fun
  | [d1, d2] => { results := [.lit (.bool true)], args := [d1, d2] }
  | _ => none }
def fnExactPutSlabRow : OpenClaim := { program := "ytjadgmafgkoanaa", sum := "a211dc7d043061ee45d47e411c204e8ef78c198d2a207c49012886afcf3daaa4", func := "loop.example/g01383/laws.FnExactPutSlab", spec := "fnExactPutSlab", unfollowed := true, recurses := true, plainKeys := false, apart := false }
def FnExactPutSlabSaid : Prop := fnExactPutSlabRow.holds Try.pinned (OpenSpec.ofChange fnExactPutSlabSpec)

/-- ITS FALSE NEIGHBOUR: 'it returns false'. Refute it at one input. -/
def fnExactPutSlabWrong : ChangeSpec := { name := "fnExactPutSlab", fn := fun _ => fun
  | [d1, d2] => { results := [.lit (.bool false)], args := [d1, d2] }
  | _ => none }
def FnExactPutSlabWrongFalsely : Prop := fnExactPutSlabRow.holds Try.pinned (OpenSpec.ofChange fnExactPutSlabWrong)

/-- 'laws.FnExactLiftSlab': WHATEVER THE INPUT: true; the input reads as it did. -/
def fnExactLiftSlabSpec : ChangeSpec := { name := "fnExactLiftSlab", fn := fun _ => fun
  | [d1, d2] => { results := [.lit (.bool true)], args := [d1, d2] }
  | _ => none }
def fnExactLiftSlabRow : OpenClaim := { program := "ytjadgmafgkoanaa", sum := "a211dc7d043061ee45d47e411c204e8ef78c198d2a207c49012886afcf3daaa4", func := "loop.example/g01383/laws.FnExactLiftSlab", spec := "fnExactLiftSlab", unfollowed := true, recurses := true, plainKeys := false, apart := false }
def FnExactLiftSlabSaid : Prop := fnExactLiftSlabRow.holds Try.pinned (OpenSpec.ofChange fnExactLiftSlabSpec)

/-- ITS FALSE NEIGHBOUR: 'it returns false'. Refute it at one input. -/
def fnExactLiftSlabWrong : ChangeSpec := { name := "fnExactLiftSlab", fn := fun _ => fun
  | [d1, d2] => { results := [.lit (.bool false)], args := [d1, d2] }
  | _ => none }
def FnExactLiftSlabWrongFalsely : Prop := fnExactLiftSlabRow.holds Try.pinned (OpenSpec.ofChange fnExactLiftSlabWrong)

/-- 'laws.FnExactCutSquare': WHATEVER THE INPUT: true; the input reads as it did. -/
def fnExactCutSquareSpec : ChangeSpec := { name := "fnExactCutSquare", fn := fun _ => fun
  | [d1, d2] => { results := [.lit (.bool true)], args := [d1, d2] }
  | _ => none }
def fnExactCutSquareRow : OpenClaim := { program := "ytjadgmafgkoanaa", sum := "a211dc7d043061ee45d47e411c204e8ef78c198d2a207c49012886afcf3daaa4", func := "loop.example/g01383/laws.FnExactCutSquare", spec := "fnExactCutSquare", unfollowed := true, recurses := true, plainKeys := false, apart := false }
def FnExactCutSquareSaid : Prop := fnExactCutSquareRow.holds Try.pinned (OpenSpec.ofChange fnExactCutSquareSpec)

/-- ITS FALSE NEIGHBOUR: 'it returns false'. Refute it at one input. -/
def fnExactCutSquareWrong : ChangeSpec := { name := "fnExactCutSquare", fn := fun _ => fun
  | [d1, d2] => { results := [.lit (.bool false)], args := [d1, d2] }
  | _ => none }
def FnExactCutSquareWrongFalsely : Prop := fnExactCutSquareRow.holds Try.pinned (OpenSpec.ofChange fnExactCutSquareWrong)

/-- 'laws.FnExactCrossesIn': WHATEVER THE INPUT: true; the input reads as it did. -/
def fnExactCrossesInSpec : ChangeSpec := { name := "fnExactCrossesIn", fn := fun _ => fun
  | [d] => { results := [.lit (.bool true)], args := [d] }
  | _ => none }
def fnExactCrossesInRow : OpenClaim := { program := "ytjadgmafgkoanaa", sum := "a211dc7d043061ee45d47e411c204e8ef78c198d2a207c49012886afcf3daaa4", func := "loop.example/g01383/laws.FnExactCrossesIn", spec := "fnExactCrossesIn", unfollowed := true, recurses := true, plainKeys := false, apart := false }
def FnExactCrossesInSaid : Prop := fnExactCrossesInRow.holds Try.pinned (OpenSpec.ofChange fnExactCrossesInSpec)

/-- ITS FALSE NEIGHBOUR: 'it returns false'. Refute it at one input. -/
def fnExactCrossesInWrong : ChangeSpec := { name := "fnExactCrossesIn", fn := fun _ => fun
  | [d] => { results := [.lit (.bool false)], args := [d] }
  | _ => none }
def FnExactCrossesInWrongFalsely : Prop := fnExactCrossesInRow.holds Try.pinned (OpenSpec.ofChange fnExactCrossesInWrong)

/- THE SECOND FORM. 'bulk': how many values and letters a reading holds, each counted each time it is reached (what is shared counts as often as it is met; a slice's spare places count too). A statement '..UptoSaid' is the law's where the arguments, and the package variables that the reading takes, are together of bulk at most 1048576: NARROWER than '..Said'. Prove '..Said' where nothing that the law and all that it calls make is longer than what came in: it says more and counts as full. Else prove '..UptoSaid'. A law counts once. -/
mutual
def uptoBulk {H : Type} : DataW H → Nat
  | .lit (.string bytes) => bytes.length + 1
  | .lit _ => 1
  | .nil => 1
  | .ptr d => uptoBulk d + 1
  | .slice elems spare => uptoBulkAll elems + uptoBulkAll spare + 1
  | .agg parts => uptoBulkAll parts + 1
  | .iface _ d => uptoBulk d + 1
  | .map entries => uptoBulkEntries entries + 1
  | .held _ => 1
def uptoBulkAll {H : Type} : List (DataW H) → Nat
  | [] => 0
  | d :: r => uptoBulk d + uptoBulkAll r
def uptoBulkEntries {H : Type} : List (Lit × DataW H) → Nat
  | [] => 0
  | x :: r => uptoBulkEntry x + uptoBulkEntries r
def uptoBulkEntry {H : Type} : Lit × DataW H → Nat
  | (.string bytes, d) => bytes.length + uptoBulk d + 1
  | (_, d) => uptoBulk d + 1
 end
def uptoSmall : (H : Type) → List (DataW H) → Bool := fun _ ds => decide (uptoBulkAll ds ≤ 1048576)
def OpenSpec.upto (s : _root_.Go.ChangeSpec) : _root_.Go.OpenSpec := { _root_.Go.OpenSpec.ofChange s with cond := some uptoSmall }

/-- 'laws.FnExactFillWith', WHERE WHAT IT READS IS OF BULK AT MOST 1048576: true; the input reads as it did. -/
def fnExactFillWithUptoRow : OpenClaim := { program := "ytjadgmafgkoanaa", sum := "a211dc7d043061ee45d47e411c204e8ef78c198d2a207c49012886afcf3daaa4", func := "loop.example/g01383/laws.FnExactFillWith", spec := "fnExactFillWith", unfollowed := true, recurses := true, plainKeys := false, apart := false, narrowed := true }
def FnExactFillWithUptoSaid : Prop := fnExactFillWithUptoRow.holds Try.pinned (OpenSpec.upto fnExactFillWithSpec)

/-- 'laws.FnExactTurnSquare', WHERE WHAT IT READS IS OF BULK AT MOST 1048576: true; the input reads as it did. -/
def fnExactTurnSquareUptoRow : OpenClaim := { program := "ytjadgmafgkoanaa", sum := "a211dc7d043061ee45d47e411c204e8ef78c198d2a207c49012886afcf3daaa4", func := "loop.example/g01383/laws.FnExactTurnSquare", spec := "fnExactTurnSquare", unfollowed := true, recurses := true, plainKeys := false, apart := false, narrowed := true }
def FnExactTurnSquareUptoSaid : Prop := fnExactTurnSquareUptoRow.holds Try.pinned (OpenSpec.upto fnExactTurnSquareSpec)

/-- 'laws.FnExactMirrorSquare', WHERE WHAT IT READS IS OF BULK AT MOST 1048576: true; the input reads as it did. -/
def fnExactMirrorSquareUptoRow : OpenClaim := { program := "ytjadgmafgkoanaa", sum := "a211dc7d043061ee45d47e411c204e8ef78c198d2a207c49012886afcf3daaa4", func := "loop.example/g01383/laws.FnExactMirrorSquare", spec := "fnExactMirrorSquare", unfollowed := true, recurses := true, plainKeys := false, apart := false, narrowed := true }
def FnExactMirrorSquareUptoSaid : Prop := fnExactMirrorSquareUptoRow.holds Try.pinned (OpenSpec.upto fnExactMirrorSquareSpec)

/-- 'laws.FnExactSizesIn', WHERE WHAT IT READS IS OF BULK AT MOST 1048576: true; the input reads as it did. -/
def fnExactSizesInUptoRow : OpenClaim := { program := "ytjadgmafgkoanaa", sum := "a211dc7d043061ee45d47e411c204e8ef78c198d2a207c49012886afcf3daaa4", func := "loop.example/g01383/laws.FnExactSizesIn", spec := "fnExactSizesIn", unfollowed := true, recurses := true, plainKeys := false, apart := false, narrowed := true }
def FnExactSizesInUptoSaid : Prop := fnExactSizesInUptoRow.holds Try.pinned (OpenSpec.upto fnExactSizesInSpec)

/-- 'laws.FnExactPutSlab', WHERE WHAT IT READS IS OF BULK AT MOST 1048576: true; the input reads as it did. -/
def fnExactPutSlabUptoRow : OpenClaim := { program := "ytjadgmafgkoanaa", sum := "a211dc7d043061ee45d47e411c204e8ef78c198d2a207c49012886afcf3daaa4", func := "loop.example/g01383/laws.FnExactPutSlab", spec := "fnExactPutSlab", unfollowed := true, recurses := true, plainKeys := false, apart := false, narrowed := true }
def FnExactPutSlabUptoSaid : Prop := fnExactPutSlabUptoRow.holds Try.pinned (OpenSpec.upto fnExactPutSlabSpec)

/-- 'laws.FnExactLiftSlab', WHERE WHAT IT READS IS OF BULK AT MOST 1048576: true; the input reads as it did. -/
def fnExactLiftSlabUptoRow : OpenClaim := { program := "ytjadgmafgkoanaa", sum := "a211dc7d043061ee45d47e411c204e8ef78c198d2a207c49012886afcf3daaa4", func := "loop.example/g01383/laws.FnExactLiftSlab", spec := "fnExactLiftSlab", unfollowed := true, recurses := true, plainKeys := false, apart := false, narrowed := true }
def FnExactLiftSlabUptoSaid : Prop := fnExactLiftSlabUptoRow.holds Try.pinned (OpenSpec.upto fnExactLiftSlabSpec)

/-- 'laws.FnExactCutSquare', WHERE WHAT IT READS IS OF BULK AT MOST 1048576: true; the input reads as it did. -/
def fnExactCutSquareUptoRow : OpenClaim := { program := "ytjadgmafgkoanaa", sum := "a211dc7d043061ee45d47e411c204e8ef78c198d2a207c49012886afcf3daaa4", func := "loop.example/g01383/laws.FnExactCutSquare", spec := "fnExactCutSquare", unfollowed := true, recurses := true, plainKeys := false, apart := false, narrowed := true }
def FnExactCutSquareUptoSaid : Prop := fnExactCutSquareUptoRow.holds Try.pinned (OpenSpec.upto fnExactCutSquareSpec)

/-- 'laws.FnExactCrossesIn', WHERE WHAT IT READS IS OF BULK AT MOST 1048576: true; the input reads as it did. -/
def fnExactCrossesInUptoRow : OpenClaim := { program := "ytjadgmafgkoanaa", sum := "a211dc7d043061ee45d47e411c204e8ef78c198d2a207c49012886afcf3daaa4", func := "loop.example/g01383/laws.FnExactCrossesIn", spec := "fnExactCrossesIn", unfollowed := true, recurses := true, plainKeys := false, apart := false, narrowed := true }
def FnExactCrossesInUptoSaid : Prop := fnExactCrossesInUptoRow.holds Try.pinned (OpenSpec.upto fnExactCrossesInSpec)

end Rows
end Go.Proofs.Ytjadgmafgkoanaa
