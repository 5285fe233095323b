/- The plain law behind FnExactIsRelation. -/
import Derived.Test.YtnhofcjcpcgpiaaPuOrder
import Derived.Test.YtnhofcjcpcgpiaaPuRel
import Derived.Test.YtnhofcjcpcgpiaaRowLib
import Derived.Test.YtnhofcjcpcgpiaaPx6
namespace Go.Proofs.Ytnhofcjcpcgpiaa.P
open Go.RowKit Go.Proofs.YtnhofcjcpcgpiaaW.PrintWords Go.Proofs.YtnhofcjcpcgpiaaW.PrintLast Go.Proofs.YtnhofcjcpcgpiaaW.PrintMore L
set_option linter.unusedVariables false
set_option linter.unusedSimpArgs false
theorem FnExactIsRelation_pure (n : Int) (l : List Int) (wn : R.wf n) (m0 : l.length ≤ 9223372036854775807) (w0 : ∀ x ∈ l, R.wf x) : ∃ k, laws_FnExactIsRelation.f k n l = some true := by
  refine Ev.rounds (r := true) ?_
  unfold laws_FnExactIsRelation.f
  refine L.Ev.bindc (szOrder_eq n l 1048576 (by omega) m0) ?_
  by_cases hbig : (l.length : Int) ≤ 1048576
  · rw [if_pos hbig]
    have ho := toOrder_ev n l (by omega)
    have hs : Ev (fun k => spec_IsRelation.f k n l) (isRel n l) := by
      unfold spec_IsRelation.f
      exact Ev.bind (orRelation_ev n l (by omega)) (Ev.now _)
    refine L.Ev.ifn (by omega) (Ev.bind ho (Ev.bind hs (Ev.bind ho (Ev.bind (IsRelation_ev n l (by omega)) (L.Ev.ifn (by simp) (Ev.bind ho (Ev.bind (eqOrder_self n l (by omega)) ?_)))))))
    exact L.Ev.ifp rfl (Ev.now true)
  · rw [if_neg hbig]
    exact L.Ev.ifp (by omega) (Ev.now true)
end Go.Proofs.Ytnhofcjcpcgpiaa.P
