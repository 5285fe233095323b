/- What CloseRelation comes to, in the program and in the reference. -/
import Derived.Test.YtjeghlmkipcihaaPuClose
import Derived.Test.YtjeghlmkipcihaaRowLib
import Derived.Test.YtjeghlmkipcihaaPx8
import Derived.Test.YtjeghlmkipcihaaPx4
namespace Go.Proofs.Ytjeghlmkipcihaa.P
open Go.RowKit Go.Proofs.YtjeghlmkipcihaaW.PrintWords Go.Proofs.YtjeghlmkipcihaaW.PrintLast Go.Proofs.YtjeghlmkipcihaaW.PrintMore L
set_option linter.unusedVariables false
set_option linter.unusedSimpArgs false
theorem CloseRelation_both (n : Int) (l : List Int) (wn : R.wf n) (hl : l.length ≤ 1048576) (w0 : ∀ x ∈ l, R.wf x) :
    ∃ (r : Int) (q : List Int) (b : Bool), Ev (fun k => spec_CloseRelation.f k n l) (r, q, b) ∧ Ev (fun k => impl_CloseRelation.f k n l) (r, q, b) ∧ q.length ≤ 1048576 := by
  cases h : isRel n l with
  | false =>
    refine ⟨0, [], false, ?_, ?_, by simp⟩
    · unfold spec_CloseRelation.f
      refine Ev.bind (orRelation_ev n l (by omega)) (L.Ev.ifn (by simp [h]) (Ev.now _))
    · unfold impl_CloseRelation.f
      refine Ev.bind (IsRelation_ev n l (by omega)) (L.Ev.ifn (by simp [h]) (Ev.now _))
  | true =>
    obtain ⟨m, rfl, hm, hlm⟩ := isRel_nat h
    refine ⟨m, closeL l m, true, ?_, ?_, by unfold closeL; rw [L.relL_length]; omega⟩
    · unfold spec_CloseRelation.f
      refine Ev.bind (orRelation_ev _ l (by omega)) (L.Ev.ifp h (L.Ev.bindc (l1Own_eq l hl) ?_))
      rw [hlm]; exact specClose_ev h
    · unfold impl_CloseRelation.f
      exact Ev.bind (IsRelation_ev _ l (by omega)) (L.Ev.ifp h (Ev.bind (Order_closed_ev h) (Ev.now _)))
end Go.Proofs.Ytjeghlmkipcihaa.P
