/- The plain law behind FnExactPartOf, out of what the program's and the reference's function come to. -/
import Derived.Test.YtjeghlmkipcihaaPuOrder
import Derived.Test.YtjeghlmkipcihaaPuMark
import Derived.Test.YtjeghlmkipcihaaPuMarkO
import Derived.Test.YtjeghlmkipcihaaBoPartOf
import Derived.Test.YtjeghlmkipcihaaRowLib
import Derived.Test.YtjeghlmkipcihaaPx37
namespace Go.Proofs.Ytjeghlmkipcihaa.P
open Go.RowKit Go.Proofs.YtjeghlmkipcihaaW.PrintWords Go.Proofs.YtjeghlmkipcihaaW.PrintLast Go.Proofs.YtjeghlmkipcihaaW.PrintMore L
set_option linter.unusedVariables false
set_option linter.unusedSimpArgs false
set_option maxHeartbeats 1000000 in
theorem FnExactPartOf_pure (a0 : Int) (l0 : List Int) (w0a : R.wf a0) (m0 : l0.length ≤ 9223372036854775807) (w0 : ∀ x ∈ l0, R.wf x) (l1 : List Int) (m1 : l1.length ≤ 9223372036854775807) (w1 : ∀ x ∈ l1, R.wf x) : ∃ k, laws_FnExactPartOf.f k a0 l0 l1 = some true := by
  refine Ev.rounds (r := true) ?_
  unfold laws_FnExactPartOf.f
  by_cases hb1 : (l1.length : Int) > 1048576
  case pos => exact L.Ev.ifp hb1 (Ev.now true)
  refine L.Ev.ifn hb1 ?_
  have hn1 : l1.length ≤ 1048576 := by omega
  refine L.Ev.bindc (szOrder_eq a0 l0 1048576 (by omega) m0) ?_
  by_cases hb0 : (l0.length : Int) ≤ 1048576
  case neg => rw [if_neg hb0]; exact L.Ev.ifp (by omega) (Ev.now true)
  rw [if_pos hb0]
  refine L.Ev.ifn (by omega) ?_
  have hn0 : l0.length ≤ 1048576 := by omega
  obtain ⟨r0, q0, r1, hs, hi, hl0⟩ := PartOf_both a0 l0 w0a hn0 w0 l1 hn1 w1
  repeat' (first
    | exact Ev.now true
    | exact Ev.now _
    | with_reducible exact rfl
    | (with_reducible refine Ev.bind hs ?_)
    | (with_reducible refine Ev.bind hi ?_)
    | (with_reducible refine Ev.bind (toIntS_ev _ ?hs1) ?_; (case hs1 => first | omega | (dsimp only; omega)))
    | (with_reducible refine Ev.bind (eqIntS_self _ ?hs1) ?_; (case hs1 => first | omega | (dsimp only; omega)))
    | (with_reducible refine Ev.bind (toOrder_ev _ _ ?hs1) ?_; (case hs1 => first | omega | (dsimp only; omega)))
    | (with_reducible refine Ev.bind (eqOrder_self _ _ ?hs1) ?_; (case hs1 => first | omega | (dsimp only; omega)))
    | (with_reducible refine Ev.bind (markIntS_ev _ _ ?hs1 ?hs2) ?_; (case hs1 => first | omega | (dsimp only; omega)); (case hs2 => first | omega | (dsimp only; omega)))
    | (with_reducible refine Ev.bind (held_marks _ _ ?hs1 ?hs2) ?_; (case hs1 => first | omega | (dsimp only; omega)); (case hs2 => first | omega | (dsimp only; omega)))
    | (with_reducible refine Ev.bind (markOrder_ev _ _ _ ?hs1 ?hs2) ?_; (case hs1 => first | omega | (dsimp only; omega)); (case hs2 => first | omega | (dsimp only; omega)))
    | (with_reducible refine Ev.bind (heldOrder_marks _ _ _ ?hs1 ?hs2) ?_; (case hs1 => first | omega | (dsimp only; omega)); (case hs2 => first | omega | (dsimp only; omega)))
    | (refine L.Ev.ifp ?hc ?_; (case hc => first | rfl | omega | (simp; done)))
    | (refine L.Ev.ifn ?hc ?_; (case hc => first | omega | (simp; done)))
    | (refine L.Ev.succ ?_; simp only [laws_FnExactPartOf.j0])
    | (refine L.Ev.succ ?_; simp only [laws_FnExactPartOf.j1])
    | (refine L.Ev.succ ?_; simp only [laws_FnExactPartOf.j2])
    | (refine L.Ev.succ ?_; simp only [laws_FnExactPartOf.j3])
    | (refine L.Ev.succ ?_; simp only [laws_FnExactPartOf.j4]))
end Go.Proofs.Ytjeghlmkipcihaa.P
