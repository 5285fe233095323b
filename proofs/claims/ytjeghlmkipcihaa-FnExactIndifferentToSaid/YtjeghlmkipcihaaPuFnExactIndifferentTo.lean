/- The plain law behind FnExactIndifferentTo, out of what the program's and the reference's function come to. -/
import Derived.Test.YtjeghlmkipcihaaPuOrder
import Derived.Test.YtjeghlmkipcihaaBoIndifferentTo
import Derived.Test.YtjeghlmkipcihaaRowLib
import Derived.Test.YtjeghlmkipcihaaPx21
namespace Go.Proofs.Ytjeghlmkipcihaa.P
open Go.RowKit Go.Proofs.YtjeghlmkipcihaaW.PrintWords Go.Proofs.YtjeghlmkipcihaaW.PrintLast Go.Proofs.YtjeghlmkipcihaaW.PrintMore L
set_option linter.unusedVariables false
set_option linter.unusedSimpArgs false
set_option maxHeartbeats 1000000 in
theorem FnExactIndifferentTo_pure (a0 : Int) (l0 : List Int) (w0a : R.wf a0) (m0 : l0.length ≤ 9223372036854775807) (w0 : ∀ x ∈ l0, R.wf x) (a1 : Int) (w1 : R.wf a1) : ∃ k, laws_FnExactIndifferentTo.f k a0 l0 a1 = some true := by
  refine Ev.rounds (r := true) ?_
  unfold laws_FnExactIndifferentTo.f
  refine L.Ev.bindc (szOrder_eq a0 l0 1048576 (by omega) m0) ?_
  by_cases hb0 : (l0.length : Int) ≤ 1048576
  case neg => rw [if_neg hb0]; exact L.Ev.ifp (by omega) (Ev.now true)
  rw [if_pos hb0]
  refine L.Ev.ifn (by omega) ?_
  have hn0 : l0.length ≤ 1048576 := by omega
  obtain ⟨r0, r1, hs, hi⟩ := IndifferentTo_both a0 l0 w0a hn0 w0 a1 w1
  repeat' (first
    | exact Ev.now true
    | exact Ev.now _
    | with_reducible exact rfl
    | (with_reducible refine Ev.bind hs ?_)
    | (with_reducible refine Ev.bind hi ?_)
    | (with_reducible refine Ev.bind (toOrder_ev _ _ ?hs1) ?_; (case hs1 => first | omega | (dsimp only; omega)))
    | (with_reducible refine Ev.bind (eqOrder_self _ _ ?hs1) ?_; (case hs1 => first | omega | (dsimp only; omega)))
    | (refine L.Ev.ifp ?hc ?_; (case hc => first | rfl | omega | (simp; done)))
    | (refine L.Ev.ifn ?hc ?_; (case hc => first | omega | (simp; done)))
    | (refine L.Ev.succ ?_; simp only [laws_FnExactIndifferentTo.j0])
    | (refine L.Ev.succ ?_; simp only [laws_FnExactIndifferentTo.j1])
    | (refine L.Ev.succ ?_; simp only [laws_FnExactIndifferentTo.j2])
    | (refine L.Ev.succ ?_; simp only [laws_FnExactIndifferentTo.j3])
    | (refine L.Ev.succ ?_; simp only [laws_FnExactIndifferentTo.j4]))
end Go.Proofs.Ytjeghlmkipcihaa.P
