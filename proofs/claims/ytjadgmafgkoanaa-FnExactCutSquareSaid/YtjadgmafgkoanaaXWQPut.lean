-- Trimmed by a program of this session's.
import Derived.Test.YtjadgmafgkoanaaXWWords
import Derived.Test.YtjadgmafgkoanaaXWLast
namespace Go.Proofs.YtjadgmafgkoanaaW.PrintWords
open Go.RowKit
namespace Kd
end Kd
end Go.Proofs.YtjadgmafgkoanaaW.PrintWords
