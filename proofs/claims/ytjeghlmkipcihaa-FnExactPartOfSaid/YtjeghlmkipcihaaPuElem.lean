/- Plain laws: numbers that are elements of relations, for the program and the reference alike. -/
import Derived.Test.YtjeghlmkipcihaaPuRel2
import Derived.Test.YtjeghlmkipcihaaPx14
import Derived.Test.YtjeghlmkipcihaaPx16
namespace Go.Proofs.Ytjeghlmkipcihaa.P
open Go.RowKit Go.Proofs.YtjeghlmkipcihaaW.PrintWords Go.Proofs.YtjeghlmkipcihaaW.PrintLast Go.Proofs.YtjeghlmkipcihaaW.PrintMore L
set_option linter.unusedVariables false
set_option linter.unusedSimpArgs false
theorem has_ev (n : Int) (l e : List Int) (hn : R0 n) (hl : e.length ≤ 9223372036854775806) : Ev (fun k => impl_Order_has.f k n l e) (allIn e 0 (n - 1)) := by
  unfold impl_Order_has.f
  refine Ev.congr (fun k => ?_) (Ev.bind (allWithin_ev e 0 (n - 1) hl) (f := fun _ t => some t) (Ev.now _))
  rw [L.w64 (by unfold R0 at hn; omega) (by unfold R0 at hn; omega)]
theorem orElement_ev (n : Int) (l : List Int) (i : Int) (hl : l.length ≤ 9223372036854775806) : Ev (fun k => spec_orElement.f k n l i) (isRel n l && decide (0 ≤ i ∧ i ≤ n - 1)) := by
  unfold spec_orElement.f
  refine Ev.bind (orRelation_ev n l hl) ?_
  cases h : isRel n l with
  | false => exact L.Ev.ifn (by simp) (Ev.now _)
  | true =>
    obtain ⟨m, rfl, hm, _⟩ := isRel_nat h
    refine L.Ev.ifp rfl (L.Ev.bindc (l1In_eq _ _ _) ?_)
    rw [L.w64 (by omega) (by omega)]
    exact Ev.now _
end Go.Proofs.Ytjeghlmkipcihaa.P
