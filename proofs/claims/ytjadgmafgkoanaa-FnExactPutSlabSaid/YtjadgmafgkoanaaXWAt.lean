-- By a program of this session's: of the print's words what this claim needs. Lean checks it.
import Derived.Test.YtjadgmafgkoanaaXWFootNe
namespace Go.Proofs.YtjadgmafgkoanaaW.PrintWords
open Go.RowKit
namespace Kd
end Kd
end Go.Proofs.YtjadgmafgkoanaaW.PrintWords
