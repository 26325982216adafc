-- Trimmed by a program of this session's.
import Derived.Test.YtgpfjmkmopjfbaaXWInv
import Derived.Test.YtgpfjmkmopjfbaaXWFootNe
namespace Go.Proofs.YtgpfjmkmopjfbaaW.PrintWords
open Go.RowKit
end Go.Proofs.YtgpfjmkmopjfbaaW.PrintWords
namespace Go.Proofs.YtgpfjmkmopjfbaaW.PrintLast
end Go.Proofs.YtgpfjmkmopjfbaaW.PrintLast
