/- Plain laws: which rows are intervals, for the program and the reference alike. -/
import Derived.Test.YtjeghlmkipcihaaPuIv
import Derived.Test.YtjeghlmkipcihaaPuRel
import Derived.Test.YtjeghlmkipcihaaPx30
import Derived.Test.YtjeghlmkipcihaaPx28
namespace Go.Proofs.Ytjeghlmkipcihaa.P
open Go.RowKit Go.Proofs.YtjeghlmkipcihaaW.PrintWords Go.Proofs.YtjeghlmkipcihaaW.PrintLast Go.Proofs.YtjeghlmkipcihaaW.PrintMore L
set_option linter.unusedVariables false
set_option linter.unusedSimpArgs false
def okIv1 (x : Iv) : Bool := decide (-1000 ≤ x.f0 ∧ x.f0 ≤ x.f1 ∧ x.f1 ≤ 1000)
def okIv (l : List Iv) : Bool := l.all okIv1 && decide (l.length ≤ 10)
theorem okIv_iff (l : List Iv) : okIv l = true ↔ (∀ x ∈ l, -1000 ≤ x.f0 ∧ x.f0 ≤ x.f1 ∧ x.f1 ≤ 1000) ∧ l.length ≤ 10 := by
  simp [okIv, okIv1]
theorem okIv_step (l : List Iv) (i : Nat) (hi : i < l.length) : (l.drop i).all okIv1 = (okIv1 l[i] && (l.drop (i + 1)).all okIv1) := by
  rw [List.drop_eq_getElem_cons hi, List.all_cons]
theorem AreIntervals_ev (l : List Iv) (hl : l.length ≤ 1048576) : Ev (fun k => impl_AreIntervals.f k l) (okIv l) := by
  have key : ∀ i, i ≤ l.length → Ev (fun k => impl_AreIntervals.l0 k l l (l.length : Int) (i : Int)) ((l.drop i).all okIv1 && decide (l.length ≤ 10)) := by
    refine L.down ?_ fun i hi ih => ?_
    · refine L.Ev.succ ?_
      simp only [impl_AreIntervals.l0]
      refine L.Ev.ifn (by omega) ?_
      rw [List.drop_eq_nil_of_le (Nat.le_refl _)]
      have e : decide ((l.length : Int) ≤ 10) = decide (l.length ≤ 10) := by simp only [decide_eq_decide]; omega
      rw [e]; exact Ev.now _
    · refine L.Ev.succ ?_
      simp only [impl_AreIntervals.l0]
      rw [okIv_step l i hi, rdIv_get hi]
      refine L.Ev.ifp (by omega) (L.Ev.ifp (by omega) (L.Ev.ifp (by omega) (L.Ev.bindc (within_eq _ _ _) ?_)))
      by_cases h : -1000 ≤ (l[i]).f0 ∧ (l[i]).f0 ≤ 1000
      · refine L.Ev.ifp (by simpa using h) (L.Ev.bindc (within_eq _ _ _) ?_)
        by_cases h2 : (l[i]).f0 ≤ (l[i]).f1 ∧ (l[i]).f1 ≤ 1000
        · refine L.Ev.ifp (by simpa using h2) ?_
          have e : okIv1 l[i] = true := by unfold okIv1; simp; omega
          rw [e, Bool.true_and]
          exact Ev.congr (fun k => by rw [L.w64n (by omega)]) ih
        · refine L.Ev.ifn (by simpa using h2) ?_
          have e : okIv1 l[i] = false := by unfold okIv1; simp; omega
          rw [e]; exact Ev.now _
      · refine L.Ev.ifn (by simpa using h) ?_
        have e : okIv1 l[i] = false := by unfold okIv1; simp; omega
        rw [e]; exact Ev.now _
  exact key 0 (by omega)
theorem ivGood_ev (l : List Iv) (hl : l.length ≤ 1048576) : Ev (fun k => spec_ivGood.f k l) (okIv l) := by
  have key : ∀ i, i ≤ l.length → Ev (fun k => spec_ivGood.l0 k l l (l.length : Int) (i : Int)) ((l.drop i).all okIv1 && decide (l.length ≤ 10)) := by
    refine L.down ?_ fun i hi ih => ?_
    · refine L.Ev.succ ?_
      simp only [spec_ivGood.l0]
      refine L.Ev.ifn (by omega) ?_
      rw [List.drop_eq_nil_of_le (Nat.le_refl _)]
      have e : decide ((l.length : Int) ≤ 10) = decide (l.length ≤ 10) := by simp only [decide_eq_decide]; omega
      rw [e]; exact Ev.now _
    · refine L.Ev.succ ?_
      simp only [spec_ivGood.l0]
      rw [okIv_step l i hi, rdIv_get hi]
      refine L.Ev.ifp (by omega) (L.Ev.ifp (by omega) (L.Ev.ifp (by omega) (L.Ev.bindc (l1In_eq _ _ _) ?_)))
      by_cases h : -1000 ≤ (l[i]).f0 ∧ (l[i]).f0 ≤ (l[i]).f1
      · refine L.Ev.ifp (by simpa using h) ?_
        by_cases h2 : (l[i]).f1 ≤ 1000
        · refine L.Ev.ifn (by omega) ?_
          have e : okIv1 l[i] = true := by unfold okIv1; simp; omega
          rw [e, Bool.true_and]
          exact Ev.congr (fun k => by rw [L.w64n (by omega)]) ih
        · refine L.Ev.ifp (by omega) ?_
          have e : okIv1 l[i] = false := by unfold okIv1; simp; omega
          rw [e]; exact Ev.now _
      · refine L.Ev.ifn (by simpa using h) ?_
        have e : okIv1 l[i] = false := by unfold okIv1; simp; omega
        rw [e]; exact Ev.now _
  exact key 0 (by omega)
end Go.Proofs.Ytjeghlmkipcihaa.P
