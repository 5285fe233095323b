/- What IsBetter comes to, in the program and in the reference. -/
import Derived.Test.YtnhofcjcpcgpiaaPuRel2
import Derived.Test.YtnhofcjcpcgpiaaRowLib
import Derived.Test.YtnhofcjcpcgpiaaPx15
namespace Go.Proofs.Ytnhofcjcpcgpiaa.P
open Go.RowKit Go.Proofs.YtnhofcjcpcgpiaaW.PrintWords Go.Proofs.YtnhofcjcpcgpiaaW.PrintLast Go.Proofs.YtnhofcjcpcgpiaaW.PrintMore L
set_option linter.unusedVariables false
set_option linter.unusedSimpArgs false
theorem IsBetter_both (n : Int) (l : List Int) (wn : R.wf n) (hl : l.length ≤ 1048576) (w0 : ∀ x ∈ l, R.wf x) (i : Int) (wi : R.wf i) (j : Int) (wj : R.wf j) :
    ∃ r b : Bool, Ev (fun k => spec_IsBetter.f k n l i j) (r, b) ∧ Ev (fun k => impl_IsBetter.f k n l i j) (r, b) := by
  cases h : isRel n l with
  | false =>
    refine ⟨false, false, ?_, ?_⟩
    · unfold spec_IsBetter.f
      refine Ev.bind (orElement_ev n l i (by omega)) (L.Ev.ifn (by simp [h]) (Ev.now _))
    · unfold impl_IsBetter.f
      refine Ev.bind (IsRelation_ev n l (by omega)) (L.Ev.ifn (by simp [h]) (Ev.now _))
  | true =>
    obtain ⟨m, rfl, hm, hlm⟩ := isRel_nat h
    by_cases hij : (0 ≤ i ∧ i ≤ (m : Int) - 1) ∧ (0 ≤ j ∧ j ≤ (m : Int) - 1)
    · obtain ⟨hi, hj⟩ := hij
      obtain ⟨i, rfl⟩ := Int.eq_ofNat_of_zero_le hi.1
      obtain ⟨j, rfl⟩ := Int.eq_ofNat_of_zero_le hj.1
      refine ⟨L.bitAt l i j, true, ?_, ?_⟩
      · unfold spec_IsBetter.f
        refine Ev.bind (orElement_ev _ l _ (by omega)) (L.Ev.ifp (by simp [h]; omega) (Ev.bind (orElement_ev _ l _ (by omega)) (L.Ev.ifp (by simp [h]; omega) (L.Ev.ifp (by omega) (L.Ev.ifp (by omega) (L.Ev.bindc (orHas_eq (isRel_ok h) i j (by omega)) (Ev.now _)))))))
      · unfold impl_IsBetter.f
        refine Ev.bind (IsRelation_ev _ l (by omega)) (L.Ev.ifp h (Ev.bind (has_ev _ l _ (by unfold R0; omega) (by simp)) (L.Ev.ifp ?_ (L.Ev.bindc (impl_Order_better.tells (isRel_ok h) i j (by omega) (by omega)) (Ev.now _)))))
        rw [allIn_iff]; intro x hx; simp at hx; omega
    · refine ⟨false, false, ?_, ?_⟩
      · unfold spec_IsBetter.f
        refine Ev.bind (orElement_ev _ l _ (by omega)) ?_
        by_cases hi : 0 ≤ i ∧ i ≤ (m : Int) - 1
        · refine L.Ev.ifp (by simp [h]; omega) (Ev.bind (orElement_ev _ l _ (by omega)) (L.Ev.ifn ?_ (Ev.now _)))
          simp [h]; omega
        · refine L.Ev.ifn ?_ (Ev.now _)
          simp [h]; omega
      · unfold impl_IsBetter.f
        refine Ev.bind (IsRelation_ev _ l (by omega)) (L.Ev.ifp h (Ev.bind (has_ev _ l _ (by unfold R0; omega) (by simp)) (L.Ev.ifn ?_ (Ev.now _))))
        rw [allIn_iff]; intro hx; exact hij ⟨hx i (by simp), hx j (by simp)⟩
end Go.Proofs.Ytnhofcjcpcgpiaa.P
