/- Plain laws of the marks that are laid into relations and looked for again; no conditions beyond the rows' lengths. -/
import Derived.Test.YtjeghlmkipcihaaPuMark
import Derived.Test.YtjeghlmkipcihaaPx8
import Derived.Test.YtjeghlmkipcihaaPx9
namespace Go.Proofs.Ytjeghlmkipcihaa.P
open Go.RowKit Go.Proofs.YtjeghlmkipcihaaW.PrintWords Go.Proofs.YtjeghlmkipcihaaW.PrintLast Go.Proofs.YtjeghlmkipcihaaW.PrintMore L
set_option linter.unusedVariables false
set_option linter.unusedSimpArgs false
theorem markOrder_ev (n : Int) (l : List Int) (a : Int) (ha : 0 ≤ a ∧ a ≤ 4194304) (hl : l.length ≤ 1048576) : Ev (fun k => laws_markOrder.f k n l a) (a + l.length, marks a l.length) := by
  unfold laws_markOrder.f
  exact Ev.bind (markIntS_ev l a ha hl) (Ev.now _)
theorem heldOrder_marks (m : Int) (a : Int) (n : Nat) (ha : 0 ≤ a ∧ a ≤ 4194304) (hn : n ≤ 1048576) : Ev (fun k => laws_heldOrder.f k m (marks a n) a) (a + n) := by
  unfold laws_heldOrder.f
  refine Ev.bind (held_marks a n ha hn) ?_
  exact L.Ev.ifn (by omega) (Ev.now _)
end Go.Proofs.Ytjeghlmkipcihaa.P
