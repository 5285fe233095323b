/- What OrderOfIntervals comes to, in the program and in the reference. -/
import Derived.Test.YtjeghlmkipcihaaPuIvOrder
import Derived.Test.YtjeghlmkipcihaaRowLib
import Derived.Test.YtjeghlmkipcihaaPx31
import Derived.Test.YtjeghlmkipcihaaPx30
namespace Go.Proofs.Ytjeghlmkipcihaa.P
open Go.RowKit Go.Proofs.YtjeghlmkipcihaaW.PrintWords Go.Proofs.YtjeghlmkipcihaaW.PrintLast Go.Proofs.YtjeghlmkipcihaaW.PrintMore L
set_option linter.unusedVariables false
set_option linter.unusedSimpArgs false
theorem OrderOfIntervals_both (l : List Iv) (hl : l.length ≤ 1048576) (w0 : ∀ x ∈ l, R.wf x.f0 ∧ R.wf x.f1) :
    ∃ (n : Int) (q : List Int) (b : Bool), Ev (fun k => spec_OrderOfIntervals.f k l) (n, q, b) ∧ Ev (fun k => impl_OrderOfIntervals.f k l) (n, q, b) ∧ q.length ≤ 1048576 := by
  cases h : okIv l with
  | false =>
    refine ⟨0, [], false, ?_, ?_, by simp⟩
    · unfold spec_OrderOfIntervals.f
      exact Ev.bind (ivGood_ev l hl) (L.Ev.ifn (by simp [h]) (Ev.now _))
    · unfold impl_OrderOfIntervals.f
      exact Ev.bind (AreIntervals_ev l hl) (L.Ev.ifn (by simp [h]) (Ev.now _))
  | true =>
    obtain ⟨h1, h2⟩ := (okIv_iff l).1 h
    refine ⟨l.length, L.relL l.length (ivIs l), true, ?_, ?_, by rw [L.relL_length]; omega⟩
    · unfold spec_OrderOfIntervals.f
      exact Ev.bind (ivGood_ev l hl) (L.Ev.ifp (by simp [h]) (Ev.bind (ivOrder_ev l (by omega)) (Ev.now _)))
    · unfold impl_OrderOfIntervals.f
      exact Ev.bind (AreIntervals_ev l hl) (L.Ev.ifp (by simp [h]) (L.Ev.bindc (orderOf_eq l (by omega)) (Ev.now _)))
end Go.Proofs.Ytjeghlmkipcihaa.P
