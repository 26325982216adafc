-- Trimmed by a program of this session's.
import Derived.Test.YtgpfjmkmopjfbaaXWTab
namespace Go.Proofs.YtgpfjmkmopjfbaaW.PrintLast
end Go.Proofs.YtgpfjmkmopjfbaaW.PrintLast
