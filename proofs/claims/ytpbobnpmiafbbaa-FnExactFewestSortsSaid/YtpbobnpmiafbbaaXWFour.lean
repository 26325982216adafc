-- By a program of this session's: of the print's words what this claim needs. Lean checks it.
import Derived.Test.YtpbobnpmiafbbaaXWTab
namespace Go.Proofs.YtpbobnpmiafbbaaW.PrintLast
end Go.Proofs.YtpbobnpmiafbbaaW.PrintLast
