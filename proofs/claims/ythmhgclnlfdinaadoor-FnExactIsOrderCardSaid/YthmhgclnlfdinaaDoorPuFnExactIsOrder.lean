/- The plain law behind FnExactIsOrder, out of what the program's and the reference's function come to. -/
import Derived.Test.YthmhgclnlfdinaaDoorPuOrder
import Derived.Test.YthmhgclnlfdinaaDoorBoIsOrder
import Derived.Test.YthmhgclnlfdinaaDoorRowLib
import Derived.Test.YthmhgclnlfdinaaDoorPx31
namespace Go.Proofs.YthmhgclnlfdinaaDoor.P
open Go.RowKit Go.Proofs.YthmhgclnlfdinaaDoorW.PrintWords Go.Proofs.YthmhgclnlfdinaaDoorW.PrintLast Go.Proofs.YthmhgclnlfdinaaDoorW.PrintMore L
set_option linter.unusedVariables false
set_option linter.unusedSimpArgs false
set_option maxHeartbeats 1000000 in
theorem FnExactIsOrder_pure (a0 : Int) (l0 : List Int) (w0a : R.wf a0) (m0 : l0.length ≤ 9223372036854775807) (w0 : ∀ x ∈ l0, R.wf x) : ∃ k, laws_FnExactIsOrder.f k a0 l0 = some true := by
  refine Ev.rounds (r := true) ?_
  unfold laws_FnExactIsOrder.f
  refine L.Ev.bindc (szOrder_eq a0 l0 1048576 (by omega) m0) ?_
  by_cases hb0 : (l0.length : Int) ≤ 1048576
  case neg => rw [if_neg hb0]; exact L.Ev.ifp (by omega) (Ev.now true)
  rw [if_pos hb0]
  refine L.Ev.ifn (by omega) ?_
  have hn0 : l0.length ≤ 1048576 := by omega
  obtain ⟨r0, hs, hi⟩ := IsOrder_both a0 l0 w0a hn0 w0
  repeat' (first
    | exact Ev.now true
    | exact Ev.now _
    | with_reducible exact rfl
    | (with_reducible refine Ev.bind hs ?_)
    | (with_reducible refine Ev.bind hi ?_)
    | (with_reducible refine Ev.bind (toOrder_ev _ _ ?hs1) ?_; (case hs1 => first | omega | (dsimp only; omega)))
    | (with_reducible refine Ev.bind (eqOrder_self _ _ ?hs1) ?_; (case hs1 => first | omega | (dsimp only; omega)))
    | (refine L.Ev.ifp ?hc ?_; (case hc => first | rfl | omega | (simp; done)))
    | (refine L.Ev.ifn ?hc ?_; (case hc => first | omega | (simp; done)))
    | (refine L.Ev.succ ?_; simp only [laws_FnExactIsOrder.j0])
    | (refine L.Ev.succ ?_; simp only [laws_FnExactIsOrder.j1])
    | (refine L.Ev.succ ?_; simp only [laws_FnExactIsOrder.j2])
    | (refine L.Ev.succ ?_; simp only [laws_FnExactIsOrder.j3])
    | (refine L.Ev.succ ?_; simp only [laws_FnExactIsOrder.j4]))
end Go.Proofs.YthmhgclnlfdinaaDoor.P
