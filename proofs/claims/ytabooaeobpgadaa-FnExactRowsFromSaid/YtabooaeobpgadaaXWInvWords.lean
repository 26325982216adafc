-- By a program of this session's: of the print's words what this claim needs. Lean checks it.
import Derived.Test.YtabooaeobpgadaaXWInv
import Derived.Test.YtabooaeobpgadaaXWFootNe
namespace Go.Proofs.YtabooaeobpgadaaW.PrintWords
open Go.RowKit
end Go.Proofs.YtabooaeobpgadaaW.PrintWords
namespace Go.Proofs.YtabooaeobpgadaaW.PrintLast
end Go.Proofs.YtabooaeobpgadaaW.PrintLast
