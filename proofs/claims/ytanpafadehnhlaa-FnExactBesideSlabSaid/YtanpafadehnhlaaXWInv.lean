-- By a program of this session's: of the print's words what this claim needs. Lean checks it.
import Derived.Test.YtanpafadehnhlaaXWTab
namespace Go.Proofs.YtanpafadehnhlaaW.PrintLast
end Go.Proofs.YtanpafadehnhlaaW.PrintLast
