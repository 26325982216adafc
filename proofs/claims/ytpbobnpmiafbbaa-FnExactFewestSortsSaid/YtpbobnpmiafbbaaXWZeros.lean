-- By a program of this session's: of the print's words what this claim needs. Lean checks it.
import Derived.Test.YtpbobnpmiafbbaaXWApart
import Derived.Test.YtpbobnpmiafbbaaXWArr
namespace Go.Proofs.YtpbobnpmiafbbaaW.PrintWords
open Go.RowKit
namespace Kd
end Kd
end Go.Proofs.YtpbobnpmiafbbaaW.PrintWords
