-- By a program of this session's: of the print's words what this claim needs. Lean checks it.
import Derived.Test.YtanpafadehnhlaaXWInv
import Derived.Test.YtanpafadehnhlaaXWFootNe
namespace Go.Proofs.YtanpafadehnhlaaW.PrintWords
open Go.RowKit
end Go.Proofs.YtanpafadehnhlaaW.PrintWords
namespace Go.Proofs.YtanpafadehnhlaaW.PrintLast
end Go.Proofs.YtanpafadehnhlaaW.PrintLast
