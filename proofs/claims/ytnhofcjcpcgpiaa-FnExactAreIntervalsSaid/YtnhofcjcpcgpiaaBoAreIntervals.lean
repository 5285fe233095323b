/- What AreIntervals comes to, in the program and in the reference. -/
import Derived.Test.YtnhofcjcpcgpiaaPuIvIs
import Derived.Test.YtnhofcjcpcgpiaaRowLib
import Derived.Test.YtnhofcjcpcgpiaaPx3
import Derived.Test.YtnhofcjcpcgpiaaPx1
namespace Go.Proofs.Ytnhofcjcpcgpiaa.P
open Go.RowKit Go.Proofs.YtnhofcjcpcgpiaaW.PrintWords Go.Proofs.YtnhofcjcpcgpiaaW.PrintLast Go.Proofs.YtnhofcjcpcgpiaaW.PrintMore L
set_option linter.unusedVariables false
set_option linter.unusedSimpArgs false
theorem AreIntervals_both (l : List Iv) (hl : l.length ≤ 1048576) (w0 : ∀ x ∈ l, R.wf x.f0 ∧ R.wf x.f1) :
    ∃ r : Bool, Ev (fun k => spec_AreIntervals.f k l) r ∧ Ev (fun k => impl_AreIntervals.f k l) r := by
  refine ⟨okIv l, ?_, AreIntervals_ev l hl⟩
  unfold spec_AreIntervals.f
  exact Ev.bind (ivGood_ev l hl) (Ev.now _)
end Go.Proofs.Ytnhofcjcpcgpiaa.P
