-- By a program of this session's: of the print's words what this claim needs. Lean checks it.
import Derived.Test.YtanpafadehnhlaaXWFootNe
namespace Go.Proofs.YtanpafadehnhlaaW.PrintWords
open Go.RowKit
namespace Kd
end Kd
end Go.Proofs.YtanpafadehnhlaaW.PrintWords
