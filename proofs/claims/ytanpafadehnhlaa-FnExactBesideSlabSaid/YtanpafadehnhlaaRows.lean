/-
  No cell of these rows narrows 'for every input' (looked for: loops, veiled, ifaces, maps, wideKeys, modest, calm, conditions, laid).
  DERIVED. THE GIVEN ROWS OF THIS SEAT. 8 by the template 'for every input the law returns true; each argument reads behind the call as it read before'; 0 by the template 'total and deterministic' (their statements: YtanpafadehnhlaaTotals.lean).
  GIVEN WITH THE SEED: the statements are not yours to turn. If you find one false, say at which input.
  Laid BY PROGRAM, IN A SANDBOX (cutbox-rows.mjs): the forced cells as the released guide's own fill.sh prints them over the translation e4777d42f3aab804… (all of the seat's roots in one cut). By AI agents, Wed Nov 11 2026. No macro, syntax, notation, axiom, sorry.
-/
import Derived.Test.YtanpafadehnhlaaChecked
import GoSem.Claim
import GoSem.ClaimJoined
import GoSem.ClaimMapViews
import Derived.JoinedTies
import Derived.KernelRfl
namespace Go.Proofs.Ytanpafadehnhlaa
/- THE CELL 'sum', in the pinned program and in every row, IS THE sha256 OF THE DUMP (.gsa) THAT YtanpafadehnhlaaProg.lean LOADS. Nothing in Lean hashes anything: it is a label: what it is worth is what the hold of that sum in a sandbox is worth. -/
noncomputable def Try.pinned : Pinned := { name := "ytanpafadehnhlaa", sum := "e4777d42f3aab804ff43826e8b10547b56fe2119fb473f4cf29bfff7f301b62a", checked := Try.checked }
namespace Rows
def none {H : Type} : Left H := { results := [], args := [] }

/-- 'laws.FnExactValidSquare': WHATEVER THE INPUT: true; the input reads as it did. -/
def fnExactValidSquareSpec : ChangeSpec := { name := "fnExactValidSquare", fn := fun _ => fun
  | [d] => { results := [.lit (.bool true)], args := [d] }
  | _ => none }
def fnExactValidSquareRow : OpenClaim := { program := "ytanpafadehnhlaa", sum := "e4777d42f3aab804ff43826e8b10547b56fe2119fb473f4cf29bfff7f301b62a", func := "loop.example/g01383/laws.FnExactValidSquare", spec := "fnExactValidSquare", unfollowed := true, recurses := true, apart := false }
def FnExactValidSquareSaid : Prop := fnExactValidSquareRow.holds Try.pinned (OpenSpec.ofChange fnExactValidSquareSpec)

/-- ITS FALSE NEIGHBOUR: 'it returns false'. Refute it at one input. -/
def fnExactValidSquareWrong : ChangeSpec := { name := "fnExactValidSquare", fn := fun _ => fun
  | [d] => { results := [.lit (.bool false)], args := [d] }
  | _ => none }
def FnExactValidSquareWrongFalsely : Prop := fnExactValidSquareRow.holds Try.pinned (OpenSpec.ofChange fnExactValidSquareWrong)

/-- 'laws.FnExactCanPut': WHATEVER THE INPUT: true; the input reads as it did. -/
def fnExactCanPutSpec : ChangeSpec := { name := "fnExactCanPut", fn := fun _ => fun
  | [d1, d2] => { results := [.lit (.bool true)], args := [d1, d2] }
  | _ => none }
def fnExactCanPutRow : OpenClaim := { program := "ytanpafadehnhlaa", sum := "e4777d42f3aab804ff43826e8b10547b56fe2119fb473f4cf29bfff7f301b62a", func := "loop.example/g01383/laws.FnExactCanPut", spec := "fnExactCanPut", unfollowed := true, recurses := true, apart := false }
def FnExactCanPutSaid : Prop := fnExactCanPutRow.holds Try.pinned (OpenSpec.ofChange fnExactCanPutSpec)

/-- ITS FALSE NEIGHBOUR: 'it returns false'. Refute it at one input. -/
def fnExactCanPutWrong : ChangeSpec := { name := "fnExactCanPut", fn := fun _ => fun
  | [d1, d2] => { results := [.lit (.bool false)], args := [d1, d2] }
  | _ => none }
def FnExactCanPutWrongFalsely : Prop := fnExactCanPutRow.holds Try.pinned (OpenSpec.ofChange fnExactCanPutWrong)

/-- 'laws.FnExactLaidArea': WHATEVER THE INPUT: true; the input reads as it did. -/
def fnExactLaidAreaSpec : ChangeSpec := { name := "fnExactLaidArea", fn := fun _ => fun
  | [d] => { results := [.lit (.bool true)], args := [d] }
  | _ => none }
def fnExactLaidAreaRow : OpenClaim := { program := "ytanpafadehnhlaa", sum := "e4777d42f3aab804ff43826e8b10547b56fe2119fb473f4cf29bfff7f301b62a", func := "loop.example/g01383/laws.FnExactLaidArea", spec := "fnExactLaidArea", unfollowed := true, recurses := true, apart := false }
def FnExactLaidAreaSaid : Prop := fnExactLaidAreaRow.holds Try.pinned (OpenSpec.ofChange fnExactLaidAreaSpec)

/-- ITS FALSE NEIGHBOUR: 'it returns false'. Refute it at one input. -/
def fnExactLaidAreaWrong : ChangeSpec := { name := "fnExactLaidArea", fn := fun _ => fun
  | [d] => { results := [.lit (.bool false)], args := [d] }
  | _ => none }
def FnExactLaidAreaWrongFalsely : Prop := fnExactLaidAreaRow.holds Try.pinned (OpenSpec.ofChange fnExactLaidAreaWrong)

/-- 'laws.FnExactSlabAt': WHATEVER THE INPUT: true; the input reads as it did. -/
def fnExactSlabAtSpec : ChangeSpec := { name := "fnExactSlabAt", fn := fun _ => fun
  | [d1, d2] => { results := [.lit (.bool true)], args := [d1, d2] }
  | _ => none }
def fnExactSlabAtRow : OpenClaim := { program := "ytanpafadehnhlaa", sum := "e4777d42f3aab804ff43826e8b10547b56fe2119fb473f4cf29bfff7f301b62a", func := "loop.example/g01383/laws.FnExactSlabAt", spec := "fnExactSlabAt", unfollowed := true, recurses := true, apart := false }
def FnExactSlabAtSaid : Prop := fnExactSlabAtRow.holds Try.pinned (OpenSpec.ofChange fnExactSlabAtSpec)

/-- ITS FALSE NEIGHBOUR: 'it returns false'. Refute it at one input. -/
def fnExactSlabAtWrong : ChangeSpec := { name := "fnExactSlabAt", fn := fun _ => fun
  | [d1, d2] => { results := [.lit (.bool false)], args := [d1, d2] }
  | _ => none }
def FnExactSlabAtWrongFalsely : Prop := fnExactSlabAtRow.holds Try.pinned (OpenSpec.ofChange fnExactSlabAtWrong)

/-- 'laws.FnExactFirstPlace': WHATEVER THE INPUT: true; the input reads as it did. -/
def fnExactFirstPlaceSpec : ChangeSpec := { name := "fnExactFirstPlace", fn := fun _ => fun
  | [d1, d2, d3] => { results := [.lit (.bool true)], args := [d1, d2, d3] }
  | _ => none }
def fnExactFirstPlaceRow : OpenClaim := { program := "ytanpafadehnhlaa", sum := "e4777d42f3aab804ff43826e8b10547b56fe2119fb473f4cf29bfff7f301b62a", func := "loop.example/g01383/laws.FnExactFirstPlace", spec := "fnExactFirstPlace", unfollowed := true, recurses := true, apart := false }
def FnExactFirstPlaceSaid : Prop := fnExactFirstPlaceRow.holds Try.pinned (OpenSpec.ofChange fnExactFirstPlaceSpec)

/-- ITS FALSE NEIGHBOUR: 'it returns false'. Refute it at one input. -/
def fnExactFirstPlaceWrong : ChangeSpec := { name := "fnExactFirstPlace", fn := fun _ => fun
  | [d1, d2, d3] => { results := [.lit (.bool false)], args := [d1, d2, d3] }
  | _ => none }
def FnExactFirstPlaceWrongFalsely : Prop := fnExactFirstPlaceRow.holds Try.pinned (OpenSpec.ofChange fnExactFirstPlaceWrong)

/-- 'laws.FnExactOpenCells': WHATEVER THE INPUT: true; the input reads as it did. -/
def fnExactOpenCellsSpec : ChangeSpec := { name := "fnExactOpenCells", fn := fun _ => fun
  | [d] => { results := [.lit (.bool true)], args := [d] }
  | _ => none }
def fnExactOpenCellsRow : OpenClaim := { program := "ytanpafadehnhlaa", sum := "e4777d42f3aab804ff43826e8b10547b56fe2119fb473f4cf29bfff7f301b62a", func := "loop.example/g01383/laws.FnExactOpenCells", spec := "fnExactOpenCells", unfollowed := true, recurses := true, apart := false }
def FnExactOpenCellsSaid : Prop := fnExactOpenCellsRow.holds Try.pinned (OpenSpec.ofChange fnExactOpenCellsSpec)

/-- ITS FALSE NEIGHBOUR: 'it returns false'. Refute it at one input. -/
def fnExactOpenCellsWrong : ChangeSpec := { name := "fnExactOpenCells", fn := fun _ => fun
  | [d] => { results := [.lit (.bool false)], args := [d] }
  | _ => none }
def FnExactOpenCellsWrongFalsely : Prop := fnExactOpenCellsRow.holds Try.pinned (OpenSpec.ofChange fnExactOpenCellsWrong)

/-- 'laws.FnExactBesideSlab': WHATEVER THE INPUT: true; the input reads as it did. -/
def fnExactBesideSlabSpec : ChangeSpec := { name := "fnExactBesideSlab", fn := fun _ => fun
  | [d1, d2] => { results := [.lit (.bool true)], args := [d1, d2] }
  | _ => none }
def fnExactBesideSlabRow : OpenClaim := { program := "ytanpafadehnhlaa", sum := "e4777d42f3aab804ff43826e8b10547b56fe2119fb473f4cf29bfff7f301b62a", func := "loop.example/g01383/laws.FnExactBesideSlab", spec := "fnExactBesideSlab", unfollowed := true, recurses := true, apart := false }
def FnExactBesideSlabSaid : Prop := fnExactBesideSlabRow.holds Try.pinned (OpenSpec.ofChange fnExactBesideSlabSpec)

/-- ITS FALSE NEIGHBOUR: 'it returns false'. Refute it at one input. -/
def fnExactBesideSlabWrong : ChangeSpec := { name := "fnExactBesideSlab", fn := fun _ => fun
  | [d1, d2] => { results := [.lit (.bool false)], args := [d1, d2] }
  | _ => none }
def FnExactBesideSlabWrongFalsely : Prop := fnExactBesideSlabRow.holds Try.pinned (OpenSpec.ofChange fnExactBesideSlabWrong)

/-- 'laws.FnExactLongestJoint': WHATEVER THE INPUT: true; the input reads as it did. -/
def fnExactLongestJointSpec : ChangeSpec := { name := "fnExactLongestJoint", fn := fun _ => fun
  | [d] => { results := [.lit (.bool true)], args := [d] }
  | _ => none }
def fnExactLongestJointRow : OpenClaim := { program := "ytanpafadehnhlaa", sum := "e4777d42f3aab804ff43826e8b10547b56fe2119fb473f4cf29bfff7f301b62a", func := "loop.example/g01383/laws.FnExactLongestJoint", spec := "fnExactLongestJoint", unfollowed := true, recurses := true, apart := false }
def FnExactLongestJointSaid : Prop := fnExactLongestJointRow.holds Try.pinned (OpenSpec.ofChange fnExactLongestJointSpec)

/-- ITS FALSE NEIGHBOUR: 'it returns false'. Refute it at one input. -/
def fnExactLongestJointWrong : ChangeSpec := { name := "fnExactLongestJoint", fn := fun _ => fun
  | [d] => { results := [.lit (.bool false)], args := [d] }
  | _ => none }
def FnExactLongestJointWrongFalsely : Prop := fnExactLongestJointRow.holds Try.pinned (OpenSpec.ofChange fnExactLongestJointWrong)

/- THE SECOND FORM. 'bulk': how many values and letters a reading holds, each counted each time it is reached (what is shared counts as often as it is met; a slice's spare places count too). A statement '..UptoSaid' is the law's where the arguments, and the package variables that the reading takes, are together of bulk at most 1048576: NARROWER than '..Said'. Prove '..Said' where nothing that the law and all that it calls make is longer than what came in: it says more and counts as full. Else prove '..UptoSaid'. A law counts once. -/
mutual
def uptoBulk {H : Type} : DataW H → Nat
  | .lit (.string bytes) => bytes.length + 1
  | .lit _ => 1
  | .nil => 1
  | .ptr d => uptoBulk d + 1
  | .slice elems spare => uptoBulkAll elems + uptoBulkAll spare + 1
  | .agg parts => uptoBulkAll parts + 1
  | .iface _ d => uptoBulk d + 1
  | .map entries => uptoBulkEntries entries + 1
  | .held _ => 1
def uptoBulkAll {H : Type} : List (DataW H) → Nat
  | [] => 0
  | d :: r => uptoBulk d + uptoBulkAll r
def uptoBulkEntries {H : Type} : List (Lit × DataW H) → Nat
  | [] => 0
  | x :: r => uptoBulkEntry x + uptoBulkEntries r
def uptoBulkEntry {H : Type} : Lit × DataW H → Nat
  | (.string bytes, d) => bytes.length + uptoBulk d + 1
  | (_, d) => uptoBulk d + 1
 end
def uptoSmall : (H : Type) → List (DataW H) → Bool := fun _ ds => decide (uptoBulkAll ds ≤ 1048576)
def OpenSpec.upto (s : _root_.Go.ChangeSpec) : _root_.Go.OpenSpec := { _root_.Go.OpenSpec.ofChange s with cond := some uptoSmall }

/-- 'laws.FnExactValidSquare', WHERE WHAT IT READS IS OF BULK AT MOST 1048576: true; the input reads as it did. -/
def fnExactValidSquareUptoRow : OpenClaim := { program := "ytanpafadehnhlaa", sum := "e4777d42f3aab804ff43826e8b10547b56fe2119fb473f4cf29bfff7f301b62a", func := "loop.example/g01383/laws.FnExactValidSquare", spec := "fnExactValidSquare", unfollowed := true, recurses := true, apart := false, narrowed := true }
def FnExactValidSquareUptoSaid : Prop := fnExactValidSquareUptoRow.holds Try.pinned (OpenSpec.upto fnExactValidSquareSpec)

/-- 'laws.FnExactCanPut', WHERE WHAT IT READS IS OF BULK AT MOST 1048576: true; the input reads as it did. -/
def fnExactCanPutUptoRow : OpenClaim := { program := "ytanpafadehnhlaa", sum := "e4777d42f3aab804ff43826e8b10547b56fe2119fb473f4cf29bfff7f301b62a", func := "loop.example/g01383/laws.FnExactCanPut", spec := "fnExactCanPut", unfollowed := true, recurses := true, apart := false, narrowed := true }
def FnExactCanPutUptoSaid : Prop := fnExactCanPutUptoRow.holds Try.pinned (OpenSpec.upto fnExactCanPutSpec)

/-- 'laws.FnExactLaidArea', WHERE WHAT IT READS IS OF BULK AT MOST 1048576: true; the input reads as it did. -/
def fnExactLaidAreaUptoRow : OpenClaim := { program := "ytanpafadehnhlaa", sum := "e4777d42f3aab804ff43826e8b10547b56fe2119fb473f4cf29bfff7f301b62a", func := "loop.example/g01383/laws.FnExactLaidArea", spec := "fnExactLaidArea", unfollowed := true, recurses := true, apart := false, narrowed := true }
def FnExactLaidAreaUptoSaid : Prop := fnExactLaidAreaUptoRow.holds Try.pinned (OpenSpec.upto fnExactLaidAreaSpec)

/-- 'laws.FnExactSlabAt', WHERE WHAT IT READS IS OF BULK AT MOST 1048576: true; the input reads as it did. -/
def fnExactSlabAtUptoRow : OpenClaim := { program := "ytanpafadehnhlaa", sum := "e4777d42f3aab804ff43826e8b10547b56fe2119fb473f4cf29bfff7f301b62a", func := "loop.example/g01383/laws.FnExactSlabAt", spec := "fnExactSlabAt", unfollowed := true, recurses := true, apart := false, narrowed := true }
def FnExactSlabAtUptoSaid : Prop := fnExactSlabAtUptoRow.holds Try.pinned (OpenSpec.upto fnExactSlabAtSpec)

/-- 'laws.FnExactFirstPlace', WHERE WHAT IT READS IS OF BULK AT MOST 1048576: true; the input reads as it did. -/
def fnExactFirstPlaceUptoRow : OpenClaim := { program := "ytanpafadehnhlaa", sum := "e4777d42f3aab804ff43826e8b10547b56fe2119fb473f4cf29bfff7f301b62a", func := "loop.example/g01383/laws.FnExactFirstPlace", spec := "fnExactFirstPlace", unfollowed := true, recurses := true, apart := false, narrowed := true }
def FnExactFirstPlaceUptoSaid : Prop := fnExactFirstPlaceUptoRow.holds Try.pinned (OpenSpec.upto fnExactFirstPlaceSpec)

/-- 'laws.FnExactOpenCells', WHERE WHAT IT READS IS OF BULK AT MOST 1048576: true; the input reads as it did. -/
def fnExactOpenCellsUptoRow : OpenClaim := { program := "ytanpafadehnhlaa", sum := "e4777d42f3aab804ff43826e8b10547b56fe2119fb473f4cf29bfff7f301b62a", func := "loop.example/g01383/laws.FnExactOpenCells", spec := "fnExactOpenCells", unfollowed := true, recurses := true, apart := false, narrowed := true }
def FnExactOpenCellsUptoSaid : Prop := fnExactOpenCellsUptoRow.holds Try.pinned (OpenSpec.upto fnExactOpenCellsSpec)

/-- 'laws.FnExactBesideSlab', WHERE WHAT IT READS IS OF BULK AT MOST 1048576: true; the input reads as it did. -/
def fnExactBesideSlabUptoRow : OpenClaim := { program := "ytanpafadehnhlaa", sum := "e4777d42f3aab804ff43826e8b10547b56fe2119fb473f4cf29bfff7f301b62a", func := "loop.example/g01383/laws.FnExactBesideSlab", spec := "fnExactBesideSlab", unfollowed := true, recurses := true, apart := false, narrowed := true }
def FnExactBesideSlabUptoSaid : Prop := fnExactBesideSlabUptoRow.holds Try.pinned (OpenSpec.upto fnExactBesideSlabSpec)

/-- 'laws.FnExactLongestJoint', WHERE WHAT IT READS IS OF BULK AT MOST 1048576: true; the input reads as it did. -/
def fnExactLongestJointUptoRow : OpenClaim := { program := "ytanpafadehnhlaa", sum := "e4777d42f3aab804ff43826e8b10547b56fe2119fb473f4cf29bfff7f301b62a", func := "loop.example/g01383/laws.FnExactLongestJoint", spec := "fnExactLongestJoint", unfollowed := true, recurses := true, apart := false, narrowed := true }
def FnExactLongestJointUptoSaid : Prop := fnExactLongestJointUptoRow.holds Try.pinned (OpenSpec.upto fnExactLongestJointSpec)

end Rows
end Go.Proofs.Ytanpafadehnhlaa
