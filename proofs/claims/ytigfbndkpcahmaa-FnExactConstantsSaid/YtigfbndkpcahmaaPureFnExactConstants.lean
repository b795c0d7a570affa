/- Every constant of the program is the document's: proved by computation. No condition. -/
import Derived.Test.YtigfbndkpcahmaaPFnExactConstantsx1
namespace Go.Proofs.Ytigfbndkpcahmaa.Pure
open Go.RowKit Go.Proofs.Ytigfbndkpcahmaa.PFnExactConstants
theorem FnExactConstants : laws_FnExactConstants.Pure := rfl
end Go.Proofs.Ytigfbndkpcahmaa.Pure
