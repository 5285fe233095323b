/- What BelowOf comes to, in the program and in the reference. -/
import Derived.Test.YtnhofcjcpcgpiaaPuBelow
import Derived.Test.YtnhofcjcpcgpiaaRowLib
import Derived.Test.YtnhofcjcpcgpiaaPx12
import Derived.Test.YtnhofcjcpcgpiaaPx9
namespace Go.Proofs.Ytnhofcjcpcgpiaa.P
open Go.RowKit Go.Proofs.YtnhofcjcpcgpiaaW.PrintWords Go.Proofs.YtnhofcjcpcgpiaaW.PrintLast Go.Proofs.YtnhofcjcpcgpiaaW.PrintMore L
set_option linter.unusedVariables false
set_option linter.unusedSimpArgs false
theorem BelowOf_both (n : Int) (l : List Int) (wn : R.wf n) (hl : l.length ≤ 1048576) (w0 : ∀ x ∈ l, R.wf x) (i : Int) (wi : R.wf i) :
    ∃ (r : Int) (b : Bool), Ev (fun k => spec_BelowOf.f k n l i) (r, b) ∧ Ev (fun k => impl_BelowOf.f k n l i) (r, b) := by
  cases h : isRel n l with
  | false =>
    refine ⟨0, false, ?_, ?_⟩
    · unfold spec_BelowOf.f
      refine Ev.bind (orElement_ev n l i (by omega)) (L.Ev.ifn (by simp [h]) (Ev.now _))
    · unfold impl_BelowOf.f
      refine Ev.bind (IsRelation_ev n l (by omega)) (L.Ev.ifn (by simp [h]) (Ev.now _))
  | true =>
    obtain ⟨m, rfl, hm, hlm⟩ := isRel_nat h
    by_cases hi : 0 ≤ i ∧ i ≤ (m : Int) - 1
    · obtain ⟨i, rfl⟩ := Int.eq_ofNat_of_zero_le hi.1
      refine ⟨((belowN l m i : Nat) : Int), true, ?_, ?_⟩
      · unfold spec_BelowOf.f
        exact Ev.bind (orElement_ev _ l _ (by omega)) (L.Ev.ifp (by simp [h]; omega) (Ev.bind (orBelow_ev h i (by omega)) (Ev.now _)))
      · unfold impl_BelowOf.f
        refine Ev.bind (IsRelation_ev _ l (by omega)) (L.Ev.ifp h (Ev.bind (has_ev _ l _ (by unfold R0; omega) (by simp)) (L.Ev.ifp ?_ (L.Ev.bindc (mirror_eq h) (L.Ev.ifp (by omega) (L.Ev.ifp ?_ ?_))))))
        · rw [allIn_iff]; intro x hx; simp at hx; omega
        · simp only [L.relL_length]; omega
        · simp only [rd_mirror l (show i < m by omega)]; exact Ev.now _
    · refine ⟨0, false, ?_, ?_⟩
      · unfold spec_BelowOf.f
        refine Ev.bind (orElement_ev _ l _ (by omega)) (L.Ev.ifn ?_ (Ev.now _))
        simp [h]; omega
      · unfold impl_BelowOf.f
        refine Ev.bind (IsRelation_ev _ l (by omega)) (L.Ev.ifp h (Ev.bind (has_ev _ l _ (by unfold R0; omega) (by simp)) (L.Ev.ifn ?_ (Ev.now _))))
        rw [allIn_iff]; intro hx; exact hi (hx i (by simp))
end Go.Proofs.Ytnhofcjcpcgpiaa.P
