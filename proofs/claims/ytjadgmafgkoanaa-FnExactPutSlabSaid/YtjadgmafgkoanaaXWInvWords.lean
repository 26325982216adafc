-- By a program of this session's: of the print's words what this claim needs. Lean checks it.
import Derived.Test.YtjadgmafgkoanaaXWInv
import Derived.Test.YtjadgmafgkoanaaXWFootNe
namespace Go.Proofs.YtjadgmafgkoanaaW.PrintWords
open Go.RowKit
end Go.Proofs.YtjadgmafgkoanaaW.PrintWords
namespace Go.Proofs.YtjadgmafgkoanaaW.PrintLast
end Go.Proofs.YtjadgmafgkoanaaW.PrintLast
