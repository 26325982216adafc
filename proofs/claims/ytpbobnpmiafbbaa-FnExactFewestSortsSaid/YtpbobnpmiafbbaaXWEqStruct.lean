-- By a program of this session's: of the print's words what this claim needs. Lean checks it.
import Derived.Test.YtpbobnpmiafbbaaXWWords
import Derived.Laws.StructEq
namespace Go.Proofs.YtpbobnpmiafbbaaW.PrintWords
open Go.RowKit
end Go.Proofs.YtpbobnpmiafbbaaW.PrintWords
