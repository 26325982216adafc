-- Trimmed by a program of this session's.
import Derived.Test.YtjadgmafgkoanaaXWWords
import Derived.Laws.StructEq
namespace Go.Proofs.YtjadgmafgkoanaaW.PrintWords
open Go.RowKit
end Go.Proofs.YtjadgmafgkoanaaW.PrintWords
