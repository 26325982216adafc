-- By a program of this session's: of the print's words what this claim needs. Lean checks it.
import Derived.Test.YtabooaeobpgadaaXWTab
namespace Go.Proofs.YtabooaeobpgadaaW.PrintLast
end Go.Proofs.YtabooaeobpgadaaW.PrintLast
