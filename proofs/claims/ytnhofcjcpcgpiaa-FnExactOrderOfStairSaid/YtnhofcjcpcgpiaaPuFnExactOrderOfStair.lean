/- The plain law behind FnExactOrderOfStair, out of what the program's and the reference's function come to. -/
import Derived.Test.YtnhofcjcpcgpiaaPuOrder
import Derived.Test.YtnhofcjcpcgpiaaPuMark
import Derived.Test.YtnhofcjcpcgpiaaPuMarkO
import Derived.Test.YtnhofcjcpcgpiaaBoOrderOfStair
import Derived.Test.YtnhofcjcpcgpiaaRowLib
import Derived.Test.YtnhofcjcpcgpiaaPx31
namespace Go.Proofs.Ytnhofcjcpcgpiaa.P
open Go.RowKit Go.Proofs.YtnhofcjcpcgpiaaW.PrintWords Go.Proofs.YtnhofcjcpcgpiaaW.PrintLast Go.Proofs.YtnhofcjcpcgpiaaW.PrintMore L
set_option linter.unusedVariables false
set_option linter.unusedSimpArgs false
set_option maxHeartbeats 1000000 in
theorem FnExactOrderOfStair_pure (l0 : List Int) (m0 : l0.length ≤ 9223372036854775807) (w0 : ∀ x ∈ l0, R.wf x) : ∃ k, laws_FnExactOrderOfStair.f k l0 = some true := by
  refine Ev.rounds (r := true) ?_
  unfold laws_FnExactOrderOfStair.f
  by_cases hb0 : (l0.length : Int) > 1048576
  case pos => exact L.Ev.ifp hb0 (Ev.now true)
  refine L.Ev.ifn hb0 ?_
  have hn0 : l0.length ≤ 1048576 := by omega
  obtain ⟨r0, q0, r1, hs, hi, hl0⟩ := OrderOfStair_both l0 hn0 w0
  repeat' (first
    | exact Ev.now true
    | exact Ev.now _
    | with_reducible exact rfl
    | (with_reducible refine Ev.bind hs ?_)
    | (with_reducible refine Ev.bind hi ?_)
    | (with_reducible refine Ev.bind (toIntS_ev _ ?hs1) ?_; (case hs1 => first | omega | (dsimp only; omega)))
    | (with_reducible refine Ev.bind (eqIntS_self _ ?hs1) ?_; (case hs1 => first | omega | (dsimp only; omega)))
    | (with_reducible refine Ev.bind (toOrder_ev _ _ ?hs1) ?_; (case hs1 => first | omega | (dsimp only; omega)))
    | (with_reducible refine Ev.bind (eqOrder_self _ _ ?hs1) ?_; (case hs1 => first | omega | (dsimp only; omega)))
    | (with_reducible refine Ev.bind (markIntS_ev _ _ ?hs1 ?hs2) ?_; (case hs1 => first | omega | (dsimp only; omega)); (case hs2 => first | omega | (dsimp only; omega)))
    | (with_reducible refine Ev.bind (held_marks _ _ ?hs1 ?hs2) ?_; (case hs1 => first | omega | (dsimp only; omega)); (case hs2 => first | omega | (dsimp only; omega)))
    | (with_reducible refine Ev.bind (markOrder_ev _ _ _ ?hs1 ?hs2) ?_; (case hs1 => first | omega | (dsimp only; omega)); (case hs2 => first | omega | (dsimp only; omega)))
    | (with_reducible refine Ev.bind (heldOrder_marks _ _ _ ?hs1 ?hs2) ?_; (case hs1 => first | omega | (dsimp only; omega)); (case hs2 => first | omega | (dsimp only; omega)))
    | (refine L.Ev.ifp ?hc ?_; (case hc => first | rfl | omega | (simp; done)))
    | (refine L.Ev.ifn ?hc ?_; (case hc => first | omega | (simp; done)))
    | (refine L.Ev.succ ?_; simp only [laws_FnExactOrderOfStair.j0])
    | (refine L.Ev.succ ?_; simp only [laws_FnExactOrderOfStair.j1])
    | (refine L.Ev.succ ?_; simp only [laws_FnExactOrderOfStair.j2])
    | (refine L.Ev.succ ?_; simp only [laws_FnExactOrderOfStair.j3])
    | (refine L.Ev.succ ?_; simp only [laws_FnExactOrderOfStair.j4]))
end Go.Proofs.Ytnhofcjcpcgpiaa.P
