-- By a program of this session's: of the print's words what this claim needs. Lean checks it.
import Derived.Test.YtpelelodjigijaaXWTab
namespace Go.Proofs.YtpelelodjigijaaW.PrintLast
end Go.Proofs.YtpelelodjigijaaW.PrintLast
