/- What IndifferentTo comes to, in the program and in the reference. -/
import Derived.Test.YtjeghlmkipcihaaPuIndiff
import Derived.Test.YtjeghlmkipcihaaRowLib
import Derived.Test.YtjeghlmkipcihaaPx20
import Derived.Test.YtjeghlmkipcihaaPx16
namespace Go.Proofs.Ytjeghlmkipcihaa.P
open Go.RowKit Go.Proofs.YtjeghlmkipcihaaW.PrintWords Go.Proofs.YtjeghlmkipcihaaW.PrintLast Go.Proofs.YtjeghlmkipcihaaW.PrintMore L
set_option linter.unusedVariables false
set_option linter.unusedSimpArgs false
theorem IndifferentTo_both (n : Int) (l : List Int) (wn : R.wf n) (hl : l.length ≤ 1048576) (w0 : ∀ x ∈ l, R.wf x) (i : Int) (wi : R.wf i) :
    ∃ (r : Int) (b : Bool), Ev (fun k => spec_IndifferentTo.f k n l i) (r, b) ∧ Ev (fun k => impl_IndifferentTo.f k n l i) (r, b) := by
  cases h : isRel n l with
  | false =>
    refine ⟨0, false, ?_, ?_⟩
    · unfold spec_IndifferentTo.f
      refine Ev.bind (orElement_ev n l i (by omega)) (L.Ev.ifn (by simp [h]) (Ev.now _))
    · unfold impl_IndifferentTo.f
      refine Ev.bind (IsRelation_ev n l (by omega)) (L.Ev.ifn (by simp [h]) (Ev.now _))
  | true =>
    obtain ⟨m, rfl, hm, hlm⟩ := isRel_nat h
    by_cases hi : 0 ≤ i ∧ i ≤ (m : Int) - 1
    · obtain ⟨i, rfl⟩ := Int.eq_ofNat_of_zero_le hi.1
      refine ⟨((freeN l m i : Nat) : Int), true, ?_, ?_⟩
      · unfold spec_IndifferentTo.f
        exact Ev.bind (orElement_ev _ l _ (by omega)) (L.Ev.ifp (by simp [h]; omega) (Ev.bind (orFree_ev h (by omega)) (Ev.now _)))
      · unfold impl_IndifferentTo.f
        refine Ev.bind (IsRelation_ev _ l (by omega)) (L.Ev.ifp h (Ev.bind (has_ev _ l _ (by unfold R0; omega) (by simp)) (L.Ev.ifp ?_ (Ev.bind (indifferent_ev h) (L.Ev.ifp (by omega) (L.Ev.ifp ?_ ?_))))))
        · rw [allIn_iff]; intro x hx; simp at hx; omega
        · rw [freeL_length]; omega
        · rw [rd_freeL l (by omega)]; exact Ev.now _
    · refine ⟨0, false, ?_, ?_⟩
      · unfold spec_IndifferentTo.f
        refine Ev.bind (orElement_ev _ l _ (by omega)) (L.Ev.ifn ?_ (Ev.now _))
        simp [h]; omega
      · unfold impl_IndifferentTo.f
        refine Ev.bind (IsRelation_ev _ l (by omega)) (L.Ev.ifp h (Ev.bind (has_ev _ l _ (by unfold R0; omega) (by simp)) (L.Ev.ifn ?_ (Ev.now _))))
        rw [allIn_iff]; intro hx; exact hi (hx i (by simp))
end Go.Proofs.Ytjeghlmkipcihaa.P
