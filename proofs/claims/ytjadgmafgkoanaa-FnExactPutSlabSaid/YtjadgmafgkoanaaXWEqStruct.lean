-- By a program of this session's: of the print's words what this claim needs. Lean checks it.
import Derived.Test.YtjadgmafgkoanaaXWWords
import Derived.Laws.StructEq
namespace Go.Proofs.YtjadgmafgkoanaaW.PrintWords
open Go.RowKit
end Go.Proofs.YtjadgmafgkoanaaW.PrintWords
