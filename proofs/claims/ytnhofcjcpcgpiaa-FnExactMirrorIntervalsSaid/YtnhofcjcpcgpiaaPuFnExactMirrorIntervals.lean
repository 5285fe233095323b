/- The plain law behind FnExactMirrorIntervals, out of what the program's and the reference's function come to. -/
import Derived.Test.YtnhofcjcpcgpiaaPuIv
import Derived.Test.YtnhofcjcpcgpiaaPuMarkIv
import Derived.Test.YtnhofcjcpcgpiaaBoMirrorIntervals
import Derived.Test.YtnhofcjcpcgpiaaRowLib
import Derived.Test.YtnhofcjcpcgpiaaPx23
namespace Go.Proofs.Ytnhofcjcpcgpiaa.P
open Go.RowKit Go.Proofs.YtnhofcjcpcgpiaaW.PrintWords Go.Proofs.YtnhofcjcpcgpiaaW.PrintLast Go.Proofs.YtnhofcjcpcgpiaaW.PrintMore L
set_option linter.unusedVariables false
set_option linter.unusedSimpArgs false
set_option maxHeartbeats 1000000 in
theorem FnExactMirrorIntervals_pure (l0 : List S70) (m0 : l0.length ≤ 9223372036854775807) (w0 : ∀ x ∈ l0, R.wf x.f0 ∧ R.wf x.f1) : ∃ k, laws_FnExactMirrorIntervals.f k l0 = some true := by
  refine Ev.rounds (r := true) ?_
  unfold laws_FnExactMirrorIntervals.f
  refine L.Ev.bindc (szIntervalS_eq l0 1048576 (by omega) m0) ?_
  by_cases hb0 : (l0.length : Int) ≤ 1048576
  case neg => rw [if_neg hb0]; exact L.Ev.ifp (by omega) (Ev.now true)
  rw [if_pos hb0]
  refine L.Ev.ifn (by omega) ?_
  have hn0 : l0.length ≤ 1048576 := by omega
  obtain ⟨r0, r1, hs, hi, hl0⟩ := MirrorIntervals_both (toIv l0) (by rw [toIv_length]; exact hn0) (toIv_wf w0)
  repeat' (first
    | exact Ev.now true
    | exact Ev.now _
    | with_reducible exact rfl
    | (with_reducible refine Ev.bind hs ?_)
    | (with_reducible refine Ev.bind hi ?_)
    | (with_reducible refine Ev.bind (toIntervalS_ev _ ?hs1) ?_; (case hs1 => omega))
    | (with_reducible refine Ev.bind (eqIntervalS_self _ ?hs1) ?_; (case hs1 => first | omega | (simp only [toIv_length]; omega)))
    | (with_reducible refine Ev.bind (markIntervalS_ev _ _ ?hs1 ?hs2) ?_; (case hs1 => omega); (case hs2 => first | omega | (simp only [toIv_length]; omega)))
    | (with_reducible refine Ev.bind (held_marksIv _ _ ?hs1 ?hs2) ?_; (case hs1 => omega); (case hs2 => first | omega | (simp only [toIv_length]; omega)))
    | (refine L.Ev.ifp ?hc ?_; (case hc => first | rfl | omega | (simp; done)))
    | (refine L.Ev.ifn ?hc ?_; (case hc => first | omega | (simp; done)))
    | (refine L.Ev.succ ?_; simp only [laws_FnExactMirrorIntervals.j0])
    | (refine L.Ev.succ ?_; simp only [laws_FnExactMirrorIntervals.j1])
    | (refine L.Ev.succ ?_; simp only [laws_FnExactMirrorIntervals.j2])
    | (refine L.Ev.succ ?_; simp only [laws_FnExactMirrorIntervals.j3])
    | (refine L.Ev.succ ?_; simp only [laws_FnExactMirrorIntervals.j4]))
end Go.Proofs.Ytnhofcjcpcgpiaa.P
