/- The law on Constants answers true; no condition. -/
import Derived.Test.YtifpaoaipaicbaaPFnExactConstantsx1
namespace Go.Proofs.Ytifpaoaipaicbaa.Pure
open Go.RowKit Go.Proofs.Ytifpaoaipaicbaa.PFnExactConstants Go.Proofs.YtifpaoaipaicbaaW.PrintWords Go.Proofs.YtifpaoaipaicbaaW.PrintLast

theorem FnExactConstants : laws_FnExactConstants.Pure := rfl

end Go.Proofs.Ytifpaoaipaicbaa.Pure
