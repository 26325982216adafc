-- Trimmed by a program of this session's.
import Derived.Test.YtjadgmafgkoanaaXWInv
import Derived.Test.YtjadgmafgkoanaaXWFootNe
namespace Go.Proofs.YtjadgmafgkoanaaW.PrintWords
open Go.RowKit
end Go.Proofs.YtjadgmafgkoanaaW.PrintWords
namespace Go.Proofs.YtjadgmafgkoanaaW.PrintLast
end Go.Proofs.YtjadgmafgkoanaaW.PrintLast
