-- Trimmed by a program of this session's.
import Derived.Test.YtjadgmafgkoanaaXWTab
namespace Go.Proofs.YtjadgmafgkoanaaW.PrintLast
end Go.Proofs.YtjadgmafgkoanaaW.PrintLast
