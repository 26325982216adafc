-- By a program of this session's: of the print's words what this claim needs. Lean checks it.
import Derived.Test.YtpelelodjigijaaXWWords
import Derived.Test.YtpelelodjigijaaXWLast
namespace Go.Proofs.YtpelelodjigijaaW.PrintWords
open Go.RowKit
namespace Kd
end Kd
end Go.Proofs.YtpelelodjigijaaW.PrintWords
