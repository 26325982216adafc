-- Trimmed by a program of this session's.
import Derived.Test.YtgpfjmkmopjfbaaXWApart
import Derived.Test.YtgpfjmkmopjfbaaXWArr
namespace Go.Proofs.YtgpfjmkmopjfbaaW.PrintWords
open Go.RowKit
namespace Kd
end Kd
end Go.Proofs.YtgpfjmkmopjfbaaW.PrintWords
