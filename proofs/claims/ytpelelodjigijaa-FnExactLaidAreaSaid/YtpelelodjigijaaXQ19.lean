-- By a program of this session's: of the print's words what this claim needs. Lean checks it.
import Derived.Test.YtpelelodjigijaaXQ0
import Derived.Test.YtpelelodjigijaaXQ18
namespace Go.Proofs.Ytpelelodjigijaa.Q
open Go.RowKit Go.Proofs.YtpelelodjigijaaW.PrintWords Go.Proofs.YtpelelodjigijaaW.PrintLast Go.Proofs.YtpelelodjigijaaW.PrintMore
attribute [local go_sem] max2_int min2_int max_two min_two max_three min_three max_four min_four
set_option linter.unusedVariables false
set_option linter.unusedSimpArgs false
end Go.Proofs.Ytpelelodjigijaa.Q
