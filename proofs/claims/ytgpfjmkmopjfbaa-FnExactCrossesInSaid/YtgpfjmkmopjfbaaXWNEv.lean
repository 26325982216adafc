-- Trimmed by a program of this session's.
import Derived.Test.YtgpfjmkmopjfbaaXWN
namespace Go.Proofs.YtgpfjmkmopjfbaaW.PrintWords
open Go.RowKit
namespace Kd
end Kd
end Go.Proofs.YtgpfjmkmopjfbaaW.PrintWords
