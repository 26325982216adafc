-- By a program of this session's: of the print's words what this claim needs. Lean checks it.
import Derived.Test.YtpbobnpmiafbbaaXWInv
import Derived.Test.YtpbobnpmiafbbaaXWFootNe
namespace Go.Proofs.YtpbobnpmiafbbaaW.PrintWords
open Go.RowKit
end Go.Proofs.YtpbobnpmiafbbaaW.PrintWords
namespace Go.Proofs.YtpbobnpmiafbbaaW.PrintLast
end Go.Proofs.YtpbobnpmiafbbaaW.PrintLast
