/- The plain law behind FnExactOrderOfPlaces, out of what the program's and the reference's function come to. -/
import Derived.Test.YtnhofcjcpcgpiaaPuOrder
import Derived.Test.YtnhofcjcpcgpiaaPuMark
import Derived.Test.YtnhofcjcpcgpiaaPuMarkO
import Derived.Test.YtnhofcjcpcgpiaaBoOrderOfPlaces
import Derived.Test.YtnhofcjcpcgpiaaRowLib
import Derived.Test.YtnhofcjcpcgpiaaPx28
namespace Go.Proofs.Ytnhofcjcpcgpiaa.P
open Go.RowKit Go.Proofs.YtnhofcjcpcgpiaaW.PrintWords Go.Proofs.YtnhofcjcpcgpiaaW.PrintLast Go.Proofs.YtnhofcjcpcgpiaaW.PrintMore L
set_option linter.unusedVariables false
set_option linter.unusedSimpArgs false
set_option maxHeartbeats 1000000 in
theorem FnExactOrderOfPlaces_pure (a0 : Int) (w0 : R.wf a0) (l1 : List Int) (m1 : l1.length ≤ 9223372036854775807) (w1 : ∀ x ∈ l1, R.wf x) : ∃ k, laws_FnExactOrderOfPlaces.f k a0 l1 = some true := by
  refine Ev.rounds (r := true) ?_
  unfold laws_FnExactOrderOfPlaces.f
  by_cases hb1 : (l1.length : Int) > 1048576
  case pos => exact L.Ev.ifp hb1 (Ev.now true)
  refine L.Ev.ifn hb1 ?_
  have hn1 : l1.length ≤ 1048576 := by omega
  obtain ⟨r0, q0, r1, hs, hi, hl0⟩ := OrderOfPlaces_both a0 w0 l1 hn1 w1
  repeat' (first
    | exact Ev.now true
    | exact Ev.now _
    | with_reducible exact rfl
    | (with_reducible refine Ev.bind hs ?_)
    | (with_reducible refine Ev.bind hi ?_)
    | (with_reducible refine Ev.bind (toIntS_ev _ ?hs1) ?_; (case hs1 => first | omega | (dsimp only; omega)))
    | (with_reducible refine Ev.bind (eqIntS_self _ ?hs1) ?_; (case hs1 => first | omega | (dsimp only; omega)))
    | (with_reducible refine Ev.bind (toOrder_ev _ _ ?hs1) ?_; (case hs1 => first | omega | (dsimp only; omega)))
    | (with_reducible refine Ev.bind (eqOrder_self _ _ ?hs1) ?_; (case hs1 => first | omega | (dsimp only; omega)))
    | (with_reducible refine Ev.bind (markIntS_ev _ _ ?hs1 ?hs2) ?_; (case hs1 => first | omega | (dsimp only; omega)); (case hs2 => first | omega | (dsimp only; omega)))
    | (with_reducible refine Ev.bind (held_marks _ _ ?hs1 ?hs2) ?_; (case hs1 => first | omega | (dsimp only; omega)); (case hs2 => first | omega | (dsimp only; omega)))
    | (with_reducible refine Ev.bind (markOrder_ev _ _ _ ?hs1 ?hs2) ?_; (case hs1 => first | omega | (dsimp only; omega)); (case hs2 => first | omega | (dsimp only; omega)))
    | (with_reducible refine Ev.bind (heldOrder_marks _ _ _ ?hs1 ?hs2) ?_; (case hs1 => first | omega | (dsimp only; omega)); (case hs2 => first | omega | (dsimp only; omega)))
    | (refine L.Ev.ifp ?hc ?_; (case hc => first | rfl | omega | (simp; done)))
    | (refine L.Ev.ifn ?hc ?_; (case hc => first | omega | (simp; done)))
    | (refine L.Ev.succ ?_; simp only [laws_FnExactOrderOfPlaces.j0])
    | (refine L.Ev.succ ?_; simp only [laws_FnExactOrderOfPlaces.j1])
    | (refine L.Ev.succ ?_; simp only [laws_FnExactOrderOfPlaces.j2])
    | (refine L.Ev.succ ?_; simp only [laws_FnExactOrderOfPlaces.j3])
    | (refine L.Ev.succ ?_; simp only [laws_FnExactOrderOfPlaces.j4]))
end Go.Proofs.Ytnhofcjcpcgpiaa.P
