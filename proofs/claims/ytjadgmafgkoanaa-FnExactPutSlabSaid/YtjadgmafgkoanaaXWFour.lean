-- By a program of this session's: of the print's words what this claim needs. Lean checks it.
import Derived.Test.YtjadgmafgkoanaaXWTab
namespace Go.Proofs.YtjadgmafgkoanaaW.PrintLast
end Go.Proofs.YtjadgmafgkoanaaW.PrintLast
