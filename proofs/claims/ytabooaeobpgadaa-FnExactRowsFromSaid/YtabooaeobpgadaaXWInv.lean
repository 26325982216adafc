-- By a program of this session's: of the print's words what this claim needs. Lean checks it.
import Derived.Test.YtabooaeobpgadaaXWTab
namespace Go.Proofs.YtabooaeobpgadaaW.PrintLast
def up (b : Nat → Bool) (i : Nat) : Nat → Bool := fun j => if j = i then true else b j
end Go.Proofs.YtabooaeobpgadaaW.PrintLast
