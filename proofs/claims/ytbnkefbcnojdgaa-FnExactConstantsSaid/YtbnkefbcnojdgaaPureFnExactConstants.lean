/- Every exported constant of the program has the value given in the specification: the law returns true (no condition). -/
import Derived.Test.YtbnkefbcnojdgaaPFnExactConstantsx1
namespace Go.Proofs.Ytbnkefbcnojdgaa.Pure
open Go.RowKit Go.Proofs.Ytbnkefbcnojdgaa.PFnExactConstants Go.Proofs.YtbnkefbcnojdgaaW.PrintWords Go.Proofs.YtbnkefbcnojdgaaW.PrintLast

theorem FnExactConstants : laws_FnExactConstants.Pure := by
  rfl

end Go.Proofs.Ytbnkefbcnojdgaa.Pure
