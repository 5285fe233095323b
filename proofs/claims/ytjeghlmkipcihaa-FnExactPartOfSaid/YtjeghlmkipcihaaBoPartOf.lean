/- What PartOf comes to, in the program and in the reference. -/
import Derived.Test.YtjeghlmkipcihaaPuPart
import Derived.Test.YtjeghlmkipcihaaPuElem
import Derived.Test.YtjeghlmkipcihaaRowLib
import Derived.Test.YtjeghlmkipcihaaPx36
import Derived.Test.YtjeghlmkipcihaaPx35
import Derived.Test.YtjeghlmkipcihaaPx33
namespace Go.Proofs.Ytjeghlmkipcihaa.P
open Go.RowKit Go.Proofs.YtjeghlmkipcihaaW.PrintWords Go.Proofs.YtjeghlmkipcihaaW.PrintLast Go.Proofs.YtjeghlmkipcihaaW.PrintMore L
set_option linter.unusedVariables false
set_option linter.unusedSimpArgs false
def incAt (l : List Int) (i : Nat) : Bool := decide (0 < i → rd l ((i - 1 : Nat) : Int) < rd l (i : Int))
def isInc (l : List Int) : Bool := (List.range l.length).all (incAt l)
theorem all_drop (f : Nat → Bool) (n i : Nat) (hi : i < n) : ((List.range n).drop i).all f = (f i && ((List.range n).drop (i + 1)).all f) := by
  rw [List.drop_eq_getElem_cons (by simpa using hi), List.all_cons]; simp
theorem all_end (f : Nat → Bool) (n : Nat) : ((List.range n).drop n).all f = true := by rw [List.drop_eq_nil_of_le (by simp)]; rfl
theorem isInc_lt {l : List Int} (h : isInc l = true) : ∀ j i, i < j → j < l.length → rd l (i : Int) < rd l (j : Int) := by
  unfold isInc at h
  simp only [List.all_eq_true, List.mem_range, incAt, decide_eq_true_eq] at h
  intro j
  induction j with
  | zero => intro i hi; omega
  | succ j ih =>
    intro i hi hj
    have e := h (j + 1) hj (by omega)
    rw [Nat.add_sub_cancel] at e
    by_cases hij : i = j
    · rw [hij]; exact e
    · have := ih i (by omega) (by omega); omega
/-- an increasing list of numbers from 0 to below m has at most m of them. -/
theorem isInc_len {l : List Int} {m : Nat} (h : isInc l = true) (hin : ∀ x ∈ l, 0 ≤ x ∧ x ≤ (m : Int) - 1) : l.length ≤ m := by
  have key : ∀ i : Nat, i < l.length → (i : Int) ≤ rd l (i : Int) := by
    intro i
    induction i with
    | zero => intro hi; have := hin l[0] (List.getElem_mem hi); rw [L.rd_get hi]; exact this.1
    | succ i ih => intro hi; have := ih (by omega); have := isInc_lt h (i + 1) i (by omega) hi; omega
  by_cases h0 : l.length = 0
  · omega
  · have hl : l.length - 1 < l.length := by omega
    have e := key (l.length - 1) hl
    have := hin _ (List.getElem_mem hl)
    rw [L.rd_get hl] at e
    omega
theorem isIncreasing_ev (l : List Int) (hl : l.length ≤ 1048576) : Ev (fun k => impl_isIncreasing.f k l) (isInc l) := by
  by_cases h0 : l.length = 0
  · obtain rfl : l = [] := List.eq_nil_of_length_eq_zero h0
    refine L.Ev.succ ?_
    simp only [impl_isIncreasing.f, impl_isIncreasing.l0]
    exact L.Ev.ifn (by simp) (Ev.now _)
  · have key : ∀ i, i ≤ l.length → 1 ≤ i → Ev (fun k => impl_isIncreasing.l0 k l (i : Int)) (((List.range l.length).drop i).all (incAt l)) := by
      refine L.down ?_ fun i hi ih => ?_
      · intro _
        refine L.Ev.succ ?_
        simp only [impl_isIncreasing.l0]
        rw [all_end]
        exact L.Ev.ifn (by omega) (Ev.now _)
      · intro hi1
        refine L.Ev.succ ?_
        simp only [impl_isIncreasing.l0]
        have e1 : wrap64 ((i : Int) - 1) = ((i - 1 : Nat) : Int) := by rw [L.w64 (by omega) (by omega)]; omega
        rw [all_drop _ _ i hi, e1]
        refine L.Ev.ifp (by omega) (L.Ev.ifp (by omega) (L.Ev.ifp (by omega) (L.Ev.ifp (by omega) ?_)))
        by_cases h : rd l ((i - 1 : Nat) : Int) ≥ rd l (i : Int)
        · refine L.Ev.ifp h ?_
          have e : incAt l i = false := by unfold incAt; rw [decide_eq_false_iff_not]; intro hh; have := hh (by omega); omega
          rw [e]; exact Ev.now _
        · refine L.Ev.ifn h ?_
          have e : incAt l i = true := by unfold incAt; rw [decide_eq_true_eq]; intro _; omega
          rw [e, Bool.true_and]
          exact Ev.congr (fun k => by rw [L.w64n (by omega)]) (ih (by omega))
    have e := key 1 (by omega) (by omega)
    have e2 : isInc l = ((List.range l.length).drop 1).all (incAt l) := by
      unfold isInc
      have := all_drop (incAt l) l.length 0 (by omega)
      rw [List.drop_zero] at this
      rw [this]
      have e3 : incAt l 0 = true := by unfold incAt; simp
      rw [e3, Bool.true_and]
    rw [e2]; exact e
theorem l1Rising_ev (l : List Int) (a b : Int) (hl : l.length ≤ 1048576) : Ev (fun k => spec_l1Rising.f k l a b) (allIn l a b && isInc l) := by
  have key : ∀ i, i ≤ l.length → Ev (fun k => spec_l1Rising.l0 k l a b l (l.length : Int) (i : Int)) (allIn (l.drop i) a b && ((List.range l.length).drop i).all (incAt l)) := by
    refine L.down ?_ fun i hi ih => ?_
    · refine L.Ev.succ ?_
      simp only [spec_l1Rising.l0]
      rw [all_end, List.drop_eq_nil_of_le (Nat.le_refl _)]
      exact L.Ev.ifn (by omega) (Ev.now _)
    · refine L.Ev.succ ?_
      simp only [spec_l1Rising.l0]
      rw [all_drop _ _ i hi, allIn_step l a b i hi, ← L.rd_get hi, L.w64n (n := i) (by omega)]
      refine L.Ev.ifp (by omega) (L.Ev.ifp (by omega) (L.Ev.ifp (by omega) (L.Ev.bindc (l1In_eq _ _ _) ?_)))
      by_cases h : a ≤ rd l (i : Int) ∧ rd l (i : Int) ≤ b
      · refine L.Ev.ifp (by simpa using h) ?_
        rw [decide_eq_true h, Bool.true_and]
        by_cases h0 : 0 < i
        · have e1 : wrap64 ((i : Int) - 1) = ((i - 1 : Nat) : Int) := by rw [L.w64 (by omega) (by omega)]; omega
          rw [e1]
          refine L.Ev.ifp (by omega) (L.Ev.ifp (by omega) (L.Ev.ifp (by omega) ?_))
          by_cases h1 : rd l ((i - 1 : Nat) : Int) ≥ rd l (i : Int)
          · refine L.Ev.ifp h1 ?_
            have e : incAt l i = false := by unfold incAt; rw [decide_eq_false_iff_not]; intro hh; have := hh h0; omega
            rw [e, Bool.false_and, Bool.and_false]; exact Ev.now _
          · refine L.Ev.ifn h1 ?_
            have e : incAt l i = true := by unfold incAt; rw [decide_eq_true_eq]; intro _; omega
            rw [e, Bool.true_and]; exact ih
        · refine L.Ev.ifn (by omega) ?_
          have e : incAt l i = true := by unfold incAt; rw [decide_eq_true_eq]; intro hh; exact absurd hh h0
          rw [e, Bool.true_and]; exact ih
      · refine L.Ev.ifn (by simpa using h) ?_
        rw [decide_eq_false h, Bool.false_and, Bool.false_and]; exact Ev.now _
  exact key 0 (by omega)
theorem PartOf_both (n : Int) (l : List Int) (wn : R.wf n) (hl : l.length ≤ 1048576) (w0 : ∀ x ∈ l, R.wf x) (e : List Int) (he : e.length ≤ 1048576) (w1 : ∀ x ∈ e, R.wf x) :
    ∃ (r : Int) (q : List Int) (b : Bool), Ev (fun k => spec_PartOf.f k n l e) (r, q, b) ∧ Ev (fun k => impl_PartOf.f k n l e) (r, q, b) ∧ q.length ≤ 1048576 := by
  cases h : isRel n l with
  | false =>
    refine ⟨0, [], false, ?_, ?_, by simp⟩
    · unfold spec_PartOf.f
      refine Ev.bind (orRelation_ev n l (by omega)) (L.Ev.ifn (by simp [h]) (Ev.now _))
    · unfold impl_PartOf.f
      refine Ev.bind (IsRelation_ev n l (by omega)) (L.Ev.ifn (by simp [h]) (Ev.now _))
  | true =>
    obtain ⟨m, rfl, hm, hlm⟩ := isRel_nat h
    cases ha : allIn e 0 ((m : Int) - 1) with
    | false =>
      refine ⟨0, [], false, ?_, ?_, by simp⟩
      · unfold spec_PartOf.f
        refine Ev.bind (orRelation_ev _ l (by omega)) (L.Ev.ifp h ?_)
        rw [L.w64 (by omega) (by omega)]
        exact Ev.bind (l1Rising_ev e _ _ he) (L.Ev.ifn (by simp [ha]) (Ev.now _))
      · unfold impl_PartOf.f
        refine Ev.bind (IsRelation_ev _ l (by omega)) (L.Ev.ifp h (Ev.bind (has_ev _ l _ (by unfold R0; omega) (by omega)) (L.Ev.ifn (by simp [ha]) (Ev.now _))))
    | true =>
      cases hi : isInc e with
      | false =>
        refine ⟨0, [], false, ?_, ?_, by simp⟩
        · unfold spec_PartOf.f
          refine Ev.bind (orRelation_ev _ l (by omega)) (L.Ev.ifp h ?_)
          rw [L.w64 (by omega) (by omega)]
          exact Ev.bind (l1Rising_ev e _ _ he) (L.Ev.ifn (by simp [ha, hi]) (Ev.now _))
        · unfold impl_PartOf.f
          refine Ev.bind (IsRelation_ev _ l (by omega)) (L.Ev.ifp h (Ev.bind (has_ev _ l _ (by unfold R0; omega) (by omega)) (L.Ev.ifp (by simp [ha]) (Ev.bind (isIncreasing_ev e he) (L.Ev.ifn (by simp [hi]) (Ev.now _))))))
      | true =>
        have hin := (allIn_iff e 0 ((m : Int) - 1)).1 ha
        have hen := isInc_len hi hin
        refine ⟨e.length, L.relL e.length (partIs l e), true, ?_, ?_, by rw [L.relL_length]; omega⟩
        · unfold spec_PartOf.f
          refine Ev.bind (orRelation_ev _ l (by omega)) (L.Ev.ifp h ?_)
          rw [L.w64 (by omega) (by omega)]
          exact Ev.bind (l1Rising_ev e _ _ he) (L.Ev.ifp (by simp [ha, hi]) (Ev.bind (orPart_ev h e (by omega) hin) (Ev.now _)))
        · unfold impl_PartOf.f
          refine Ev.bind (IsRelation_ev _ l (by omega)) (L.Ev.ifp h (Ev.bind (has_ev _ l _ (by unfold R0; omega) (by omega)) (L.Ev.ifp (by simp [ha]) (Ev.bind (isIncreasing_ev e he) (L.Ev.ifp (by simp [hi]) (L.Ev.bindc (a := ((e.length : Int), L.relL e.length (partIs l e))) ?_ (Ev.now _)))))))
          unfold impl_Order_part.f
          rw [if_pos ⟨isRel_ok h, by omega, fun x hx => by have := hin x hx; omega⟩]; rfl
end Go.Proofs.Ytjeghlmkipcihaa.P
