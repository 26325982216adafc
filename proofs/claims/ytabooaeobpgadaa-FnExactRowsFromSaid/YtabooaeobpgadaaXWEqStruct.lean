-- By a program of this session's: of the print's words what this claim needs. Lean checks it.
import Derived.Test.YtabooaeobpgadaaXWWords
import Derived.Laws.StructEq
namespace Go.Proofs.YtabooaeobpgadaaW.PrintWords
open Go.RowKit
end Go.Proofs.YtabooaeobpgadaaW.PrintWords
