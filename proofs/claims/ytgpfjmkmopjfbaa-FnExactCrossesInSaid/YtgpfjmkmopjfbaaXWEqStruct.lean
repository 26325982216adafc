-- Trimmed by a program of this session's.
import Derived.Test.YtgpfjmkmopjfbaaXWWords
import Derived.Laws.StructEq
namespace Go.Proofs.YtgpfjmkmopjfbaaW.PrintWords
open Go.RowKit
end Go.Proofs.YtgpfjmkmopjfbaaW.PrintWords
