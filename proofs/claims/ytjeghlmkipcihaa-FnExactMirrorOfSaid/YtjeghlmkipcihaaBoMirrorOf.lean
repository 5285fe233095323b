/- What MirrorOf comes to, in the program and in the reference. -/
import Derived.Test.YtjeghlmkipcihaaPuMirror
import Derived.Test.YtjeghlmkipcihaaRowLib
import Derived.Test.YtjeghlmkipcihaaPx24
namespace Go.Proofs.Ytjeghlmkipcihaa.P
open Go.RowKit Go.Proofs.YtjeghlmkipcihaaW.PrintWords Go.Proofs.YtjeghlmkipcihaaW.PrintLast Go.Proofs.YtjeghlmkipcihaaW.PrintMore L
set_option linter.unusedVariables false
set_option linter.unusedSimpArgs false
theorem MirrorOf_both (n : Int) (l : List Int) (wn : R.wf n) (hl : l.length ≤ 1048576) (w0 : ∀ x ∈ l, R.wf x) :
    ∃ (r : Int) (q : List Int) (b : Bool), Ev (fun k => spec_MirrorOf.f k n l) (r, q, b) ∧ Ev (fun k => impl_MirrorOf.f k n l) (r, q, b) ∧ q.length ≤ 1048576 := by
  cases h : isRel n l with
  | false =>
    refine ⟨0, [], false, ?_, ?_, by simp⟩
    · unfold spec_MirrorOf.f
      refine Ev.bind (orRelation_ev n l (by omega)) (L.Ev.ifn (by simp [h]) (Ev.now _))
    · unfold impl_MirrorOf.f
      refine Ev.bind (IsRelation_ev n l (by omega)) (L.Ev.ifn (by simp [h]) (Ev.now _))
  | true =>
    obtain ⟨m, rfl, hm, hlm⟩ := isRel_nat h
    refine ⟨m, L.relL m fun i j => L.bitAt l j i, true, ?_, ?_, by rw [L.relL_length]; omega⟩
    · unfold spec_MirrorOf.f
      exact Ev.bind (orRelation_ev _ l (by omega)) (L.Ev.ifp h (Ev.bind (orMirror_ev h) (Ev.now _)))
    · unfold impl_MirrorOf.f
      exact Ev.bind (IsRelation_ev _ l (by omega)) (L.Ev.ifp h (L.Ev.bindc (mirror_eq h) (Ev.now _)))
end Go.Proofs.Ytjeghlmkipcihaa.P
