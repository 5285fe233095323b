/- What IsOrder comes to, in the program and in the reference. -/
import Derived.Test.YthmhgclnlfdinaaDoorPuOrd
import Derived.Test.YthmhgclnlfdinaaDoorRowLib
import Derived.Test.YthmhgclnlfdinaaDoorPx10
import Derived.Test.YthmhgclnlfdinaaDoorPx30
namespace Go.Proofs.YthmhgclnlfdinaaDoor.P
open Go.RowKit Go.Proofs.YthmhgclnlfdinaaDoorW.PrintWords Go.Proofs.YthmhgclnlfdinaaDoorW.PrintLast Go.Proofs.YthmhgclnlfdinaaDoorW.PrintMore L
set_option linter.unusedVariables false
set_option linter.unusedSimpArgs false
theorem IsOrder_both (n : Int) (l : List Int) (wn : R.wf n) (hl : l.length ≤ 1048576) (w0 : ∀ x ∈ l, R.wf x) :
    ∃ r : Bool, Ev (fun k => spec_IsOrder.f k n l) r ∧ Ev (fun k => impl_IsOrder.f k n l) r := by
  refine ⟨isOrd n l, ?_, IsOrder_ev n l hl⟩
  unfold spec_IsOrder.f
  exact Ev.bind (orGood_ev n l hl) (Ev.now _)
end Go.Proofs.YthmhgclnlfdinaaDoor.P
