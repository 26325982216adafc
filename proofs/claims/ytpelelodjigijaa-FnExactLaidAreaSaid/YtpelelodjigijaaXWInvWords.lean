-- By a program of this session's: of the print's words what this claim needs. Lean checks it.
import Derived.Test.YtpelelodjigijaaXWInv
import Derived.Test.YtpelelodjigijaaXWFootNe
namespace Go.Proofs.YtpelelodjigijaaW.PrintWords
open Go.RowKit
end Go.Proofs.YtpelelodjigijaaW.PrintWords
namespace Go.Proofs.YtpelelodjigijaaW.PrintLast
end Go.Proofs.YtpelelodjigijaaW.PrintLast
