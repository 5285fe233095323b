/- The plain law behind FnExactMirrorOf, out of what the program's and the reference's function come to. -/
import Derived.Test.YtjeghlmkipcihaaPuOrder
import Derived.Test.YtjeghlmkipcihaaPuMark
import Derived.Test.YtjeghlmkipcihaaPuMarkO
import Derived.Test.YtjeghlmkipcihaaBoMirrorOf
import Derived.Test.YtjeghlmkipcihaaRowLib
import Derived.Test.YtjeghlmkipcihaaPx25
namespace Go.Proofs.Ytjeghlmkipcihaa.P
open Go.RowKit Go.Proofs.YtjeghlmkipcihaaW.PrintWords Go.Proofs.YtjeghlmkipcihaaW.PrintLast Go.Proofs.YtjeghlmkipcihaaW.PrintMore L
set_option linter.unusedVariables false
set_option linter.unusedSimpArgs false
set_option maxHeartbeats 1000000 in
theorem FnExactMirrorOf_pure (a0 : Int) (l0 : List Int) (w0a : R.wf a0) (m0 : l0.length ≤ 9223372036854775807) (w0 : ∀ x ∈ l0, R.wf x) : ∃ k, laws_FnExactMirrorOf.f k a0 l0 = some true := by
  refine Ev.rounds (r := true) ?_
  unfold laws_FnExactMirrorOf.f
  refine L.Ev.bindc (szOrder_eq a0 l0 1048576 (by omega) m0) ?_
  by_cases hb0 : (l0.length : Int) ≤ 1048576
  case neg => rw [if_neg hb0]; exact L.Ev.ifp (by omega) (Ev.now true)
  rw [if_pos hb0]
  refine L.Ev.ifn (by omega) ?_
  have hn0 : l0.length ≤ 1048576 := by omega
  obtain ⟨r0, q0, r1, hs, hi, hl0⟩ := MirrorOf_both a0 l0 w0a hn0 w0
  repeat' (first
    | exact Ev.now true
    | exact Ev.now _
    | with_reducible exact rfl
    | (with_reducible refine Ev.bind hs ?_)
    | (with_reducible refine Ev.bind hi ?_)
    | (with_reducible refine Ev.bind (toOrder_ev _ _ ?hs1) ?_; (case hs1 => first | omega | (dsimp only; omega)))
    | (with_reducible refine Ev.bind (eqOrder_self _ _ ?hs1) ?_; (case hs1 => first | omega | (dsimp only; omega)))
    | (with_reducible refine Ev.bind (markIntS_ev _ _ ?hs1 ?hs2) ?_; (case hs1 => first | omega | (dsimp only; omega)); (case hs2 => first | omega | (dsimp only; omega)))
    | (with_reducible refine Ev.bind (held_marks _ _ ?hs1 ?hs2) ?_; (case hs1 => first | omega | (dsimp only; omega)); (case hs2 => first | omega | (dsimp only; omega)))
    | (with_reducible refine Ev.bind (markOrder_ev _ _ _ ?hs1 ?hs2) ?_; (case hs1 => first | omega | (dsimp only; omega)); (case hs2 => first | omega | (dsimp only; omega)))
    | (with_reducible refine Ev.bind (heldOrder_marks _ _ _ ?hs1 ?hs2) ?_; (case hs1 => first | omega | (dsimp only; omega)); (case hs2 => first | omega | (dsimp only; omega)))
    | (refine L.Ev.ifp ?hc ?_; (case hc => first | rfl | omega | (simp; done)))
    | (refine L.Ev.ifn ?hc ?_; (case hc => first | omega | (simp; done)))
    | (refine L.Ev.succ ?_; simp only [laws_FnExactMirrorOf.j0])
    | (refine L.Ev.succ ?_; simp only [laws_FnExactMirrorOf.j1])
    | (refine L.Ev.succ ?_; simp only [laws_FnExactMirrorOf.j2])
    | (refine L.Ev.succ ?_; simp only [laws_FnExactMirrorOf.j3])
    | (refine L.Ev.succ ?_; simp only [laws_FnExactMirrorOf.j4]))
end Go.Proofs.Ytjeghlmkipcihaa.P
