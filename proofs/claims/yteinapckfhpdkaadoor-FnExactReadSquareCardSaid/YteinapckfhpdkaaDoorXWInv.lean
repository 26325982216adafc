-- Trimmed by a program.
import Derived.Test.YteinapckfhpdkaaDoorXWTab
namespace Go.Proofs.YteinapckfhpdkaaDoorW.PrintLast
def up (b : Nat → Bool) (i : Nat) : Nat → Bool := fun j => if j = i then true else b j
end Go.Proofs.YteinapckfhpdkaaDoorW.PrintLast
