/- The function FnExactConstants of the program answers true. No conditions. -/
import Derived.Test.YtgdclabfecmmmaaPFnExactConstantsx1
namespace Go.Proofs.Ytgdclabfecmmmaa.Pure
open Go.RowKit Go.Proofs.Ytgdclabfecmmmaa.PFnExactConstants Go.Proofs.YtgdclabfecmmmaaW.PrintWords Go.Proofs.YtgdclabfecmmmaaW.PrintLast

theorem FnExactConstants : laws_FnExactConstants.Pure := by
  rfl

end Go.Proofs.Ytgdclabfecmmmaa.Pure
