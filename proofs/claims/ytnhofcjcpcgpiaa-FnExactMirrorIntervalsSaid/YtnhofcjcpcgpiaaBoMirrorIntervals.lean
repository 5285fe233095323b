/- What MirrorIntervals comes to, in the program and in the reference. -/
import Derived.Test.YtnhofcjcpcgpiaaPuIvIs
import Derived.Test.YtnhofcjcpcgpiaaRowLib
import Derived.Test.YtnhofcjcpcgpiaaPx21
namespace Go.Proofs.Ytnhofcjcpcgpiaa.P
open Go.RowKit Go.Proofs.YtnhofcjcpcgpiaaW.PrintWords Go.Proofs.YtnhofcjcpcgpiaaW.PrintLast Go.Proofs.YtnhofcjcpcgpiaaW.PrintMore L
set_option linter.unusedVariables false
set_option linter.unusedSimpArgs false
def turnIv (x : Iv) : Iv := ⟨-x.f1, -x.f0⟩
theorem MirrorIntervals_both (l : List Iv) (hl : l.length ≤ 1048576) (w0 : ∀ x ∈ l, R.wf x.f0 ∧ R.wf x.f1) :
    ∃ (r : List Iv) (b : Bool), Ev (fun k => spec_MirrorIntervals.f k l) (r, b) ∧ Ev (fun k => impl_MirrorIntervals.f k l) (r, b) ∧ r.length ≤ 1048576 := by
  cases h : okIv l with
  | false =>
    refine ⟨[], false, ?_, ?_, by simp⟩
    · unfold spec_MirrorIntervals.f
      exact Ev.bind (ivGood_ev l hl) (L.Ev.ifn (by simp [h]) (Ev.now _))
    · unfold impl_MirrorIntervals.f
      exact Ev.bind (AreIntervals_ev l hl) (L.Ev.ifn (by simp [h]) (Ev.now _))
  | true =>
    obtain ⟨h1, h2⟩ := (okIv_iff l).1 h
    have step : ∀ i, (hi : i < l.length) → (l.take i).map turnIv ++ [(⟨wrap64 (-(rd_T68 l (i : Int)).f1), wrap64 (-(rd_T68 l (i : Int)).f0)⟩ : Iv)] = (l.take (i + 1)).map turnIv := by
      intro i hi
      have hx := h1 l[i] (List.getElem_mem hi)
      rw [rdIv_get hi, L.w64 (by omega) (by omega), L.w64 (by omega) (by omega), List.take_add_one, List.getElem?_eq_getElem hi, List.map_append]
      rfl
    refine ⟨l.map turnIv, true, ?_, ?_, by simpa using hl⟩
    · have key : ∀ i, i ≤ l.length → Ev (fun k => spec_MirrorIntervals.l0 k ((l.take i).map turnIv) l (l.length : Int) (i : Int)) (l.map turnIv, true) := by
        refine L.down ?_ fun i hi ih => ?_
        · refine L.Ev.succ ?_
          simp only [spec_MirrorIntervals.l0]
          rw [List.take_of_length_le (Nat.le_refl _)]
          exact L.Ev.ifn (by omega) (Ev.now _)
        · refine L.Ev.succ ?_
          simp only [spec_MirrorIntervals.l0]
          rw [step i hi]
          refine L.Ev.ifp (by omega) (L.Ev.ifp (by omega) (L.Ev.ifp (by omega) (L.Ev.ifp (by simp only [List.length_map, List.length_take]; omega) ?_)))
          exact Ev.congr (fun k => by rw [L.w64n (by omega)]) ih
      unfold spec_MirrorIntervals.f
      exact Ev.bind (ivGood_ev l hl) (L.Ev.ifp (by simp [h]) (key 0 (by omega)))
    · have key : ∀ i, i ≤ l.length → Ev (fun k => impl_MirrorIntervals.l0 k ((l.take i).map turnIv) l (l.length : Int) (i : Int)) (l.map turnIv, true) := by
        refine L.down ?_ fun i hi ih => ?_
        · refine L.Ev.succ ?_
          simp only [impl_MirrorIntervals.l0]
          rw [List.take_of_length_le (Nat.le_refl _)]
          exact L.Ev.ifn (by omega) (Ev.now _)
        · refine L.Ev.succ ?_
          simp only [impl_MirrorIntervals.l0]
          rw [step i hi]
          refine L.Ev.ifp (by omega) (L.Ev.ifp (by omega) (L.Ev.ifp (by omega) (L.Ev.ifp (by simp only [List.length_map, List.length_take]; omega) ?_)))
          exact Ev.congr (fun k => by rw [L.w64n (by omega)]) ih
      unfold impl_MirrorIntervals.f
      exact Ev.bind (AreIntervals_ev l hl) (L.Ev.ifp (by simp [h]) (key 0 (by omega)))
end Go.Proofs.Ytnhofcjcpcgpiaa.P
