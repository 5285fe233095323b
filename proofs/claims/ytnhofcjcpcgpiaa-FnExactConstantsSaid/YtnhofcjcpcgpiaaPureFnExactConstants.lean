/- The law FnExactConstants returns true; it has no arguments and no conditions. -/
import Derived.Test.YtnhofcjcpcgpiaaPFnExactConstantsx1
namespace Go.Proofs.Ytnhofcjcpcgpiaa.Pure
open Go.RowKit Go.Proofs.Ytnhofcjcpcgpiaa.PFnExactConstants Go.Proofs.YtnhofcjcpcgpiaaW.PrintWords Go.Proofs.YtnhofcjcpcgpiaaW.PrintLast

theorem FnExactConstants : laws_FnExactConstants.Pure := rfl

end Go.Proofs.Ytnhofcjcpcgpiaa.Pure
