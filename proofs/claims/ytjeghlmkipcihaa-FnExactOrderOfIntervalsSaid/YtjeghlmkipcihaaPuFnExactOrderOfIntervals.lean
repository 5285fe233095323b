/- The plain law behind FnExactOrderOfIntervals, out of what the program's and the reference's function come to. -/
import Derived.Test.YtjeghlmkipcihaaPuOrder
import Derived.Test.YtjeghlmkipcihaaPuMark
import Derived.Test.YtjeghlmkipcihaaPuMarkO
import Derived.Test.YtjeghlmkipcihaaPuIv
import Derived.Test.YtjeghlmkipcihaaPuMarkIv
import Derived.Test.YtjeghlmkipcihaaBoOrderOfIntervals
import Derived.Test.YtjeghlmkipcihaaRowLib
import Derived.Test.YtjeghlmkipcihaaPx32
namespace Go.Proofs.Ytjeghlmkipcihaa.P
open Go.RowKit Go.Proofs.YtjeghlmkipcihaaW.PrintWords Go.Proofs.YtjeghlmkipcihaaW.PrintLast Go.Proofs.YtjeghlmkipcihaaW.PrintMore L
set_option linter.unusedVariables false
set_option linter.unusedSimpArgs false
set_option maxHeartbeats 1000000 in
theorem FnExactOrderOfIntervals_pure (l0 : List S63) (m0 : l0.length ≤ 9223372036854775807) (w0 : ∀ x ∈ l0, R.wf x.f0 ∧ R.wf x.f1) : ∃ k, laws_FnExactOrderOfIntervals.f k l0 = some true := by
  refine Ev.rounds (r := true) ?_
  unfold laws_FnExactOrderOfIntervals.f
  refine L.Ev.bindc (szIntervalS_eq l0 1048576 (by omega) m0) ?_
  by_cases hb0 : (l0.length : Int) ≤ 1048576
  case neg => rw [if_neg hb0]; exact L.Ev.ifp (by omega) (Ev.now true)
  rw [if_pos hb0]
  refine L.Ev.ifn (by omega) ?_
  have hn0 : l0.length ≤ 1048576 := by omega
  obtain ⟨r0, q0, r1, hs, hi, hl0⟩ := OrderOfIntervals_both (toIv l0) (by rw [toIv_length]; exact hn0) (toIv_wf w0)
  repeat' (first
    | exact Ev.now true
    | exact Ev.now _
    | with_reducible exact rfl
    | (with_reducible refine Ev.bind hs ?_)
    | (with_reducible refine Ev.bind hi ?_)
    | (with_reducible refine Ev.bind (toOrder_ev _ _ ?hs1) ?_; (case hs1 => first | omega | (dsimp only; omega)))
    | (with_reducible refine Ev.bind (eqOrder_self _ _ ?hs1) ?_; (case hs1 => first | omega | (dsimp only; omega)))
    | (with_reducible refine Ev.bind (markIntS_ev _ _ ?hs1 ?hs2) ?_; (case hs1 => first | omega | (dsimp only; omega)); (case hs2 => first | omega | (dsimp only; omega)))
    | (with_reducible refine Ev.bind (held_marks _ _ ?hs1 ?hs2) ?_; (case hs1 => first | omega | (dsimp only; omega)); (case hs2 => first | omega | (dsimp only; omega)))
    | (with_reducible refine Ev.bind (markOrder_ev _ _ _ ?hs1 ?hs2) ?_; (case hs1 => first | omega | (dsimp only; omega)); (case hs2 => first | omega | (dsimp only; omega)))
    | (with_reducible refine Ev.bind (heldOrder_marks _ _ _ ?hs1 ?hs2) ?_; (case hs1 => first | omega | (dsimp only; omega)); (case hs2 => first | omega | (dsimp only; omega)))
    | (with_reducible refine Ev.bind (toIntervalS_ev _ ?hs1) ?_; (case hs1 => first | omega | (dsimp only; omega)))
    | (with_reducible refine Ev.bind (eqIntervalS_self _ ?hs1) ?_; (case hs1 => first | omega | (dsimp only; omega) | (simp only [toIv_length]; omega)))
    | (with_reducible refine Ev.bind (markIntervalS_ev _ _ ?hs1 ?hs2) ?_; (case hs1 => first | omega | (dsimp only; omega)); (case hs2 => first | omega | (dsimp only; omega) | (simp only [toIv_length]; omega)))
    | (with_reducible refine Ev.bind (held_marksIv _ _ ?hs1 ?hs2) ?_; (case hs1 => first | omega | (dsimp only; omega)); (case hs2 => first | omega | (dsimp only; omega) | (simp only [toIv_length]; omega)))
    | (refine L.Ev.ifp ?hc ?_; (case hc => first | rfl | omega | (simp; done)))
    | (refine L.Ev.ifn ?hc ?_; (case hc => first | omega | (simp; done)))
    | (refine L.Ev.succ ?_; simp only [laws_FnExactOrderOfIntervals.j0])
    | (refine L.Ev.succ ?_; simp only [laws_FnExactOrderOfIntervals.j1])
    | (refine L.Ev.succ ?_; simp only [laws_FnExactOrderOfIntervals.j2])
    | (refine L.Ev.succ ?_; simp only [laws_FnExactOrderOfIntervals.j3])
    | (refine L.Ev.succ ?_; simp only [laws_FnExactOrderOfIntervals.j4]))
end Go.Proofs.Ytjeghlmkipcihaa.P
