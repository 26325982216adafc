-- By a program of this session's: of the print's words what this claim needs. Lean checks it.
import Derived.Test.YtabooaeobpgadaaXWApart
import Derived.Test.YtabooaeobpgadaaXWArr
namespace Go.Proofs.YtabooaeobpgadaaW.PrintWords
open Go.RowKit
namespace Kd
end Kd
end Go.Proofs.YtabooaeobpgadaaW.PrintWords
