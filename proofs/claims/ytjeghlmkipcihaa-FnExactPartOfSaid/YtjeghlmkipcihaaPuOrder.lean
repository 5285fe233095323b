/- Plain laws of the copies and comparisons of relations; no conditions beyond the rows' lengths. -/
import Derived.Test.YtjeghlmkipcihaaPuInts
import Derived.Test.YtjeghlmkipcihaaPx1
import Derived.Test.YtjeghlmkipcihaaPx2
namespace Go.Proofs.Ytjeghlmkipcihaa.P
open Go.RowKit Go.Proofs.YtjeghlmkipcihaaW.PrintWords Go.Proofs.YtjeghlmkipcihaaW.PrintLast Go.Proofs.YtjeghlmkipcihaaW.PrintMore L
set_option linter.unusedVariables false
set_option linter.unusedSimpArgs false
theorem szIntS_eq (l : List Int) (a : Int) (ha : 0 ≤ a ∧ a ≤ 1048576) (hl : l.length ≤ 9223372036854775807) : laws_szIntS.f l a = some (if (l.length : Int) ≤ a then a - l.length else -1) := by
  unfold laws_szIntS.f
  rw [L.w64 (by omega) (by omega)]
  by_cases h : (l.length : Int) ≤ a
  · rw [if_neg (by omega), if_pos h]
  · rw [if_pos (by omega), if_neg h]
theorem szOrder_eq (n : Int) (l : List Int) (a : Int) (ha : 0 ≤ a ∧ a ≤ 1048576) (hl : l.length ≤ 9223372036854775807) : laws_szOrder.f n l a = some (if (l.length : Int) ≤ a then a - l.length else -1) := by
  unfold laws_szOrder.f
  rw [szIntS_eq l a ha hl]
  simp only [Option.bind_some]
  by_cases h : (l.length : Int) ≤ a
  · rw [if_pos h, if_neg (by omega)]
  · rw [if_neg h, if_pos (by omega)]
theorem toOrder_ev (n : Int) (l : List Int) (hl : l.length ≤ 35184372088832) : Ev (fun k => laws_toOrder.f k n l) (n, l) := by
  unfold laws_toOrder.f
  exact Ev.bind (toIntS_ev l hl) (Ev.now _)
theorem eqOrder_ev (n : Int) (l : List Int) (m : Int) (o : List Int) (hl : l.length ≤ 9223372036854775806) : Ev (fun k => laws_eqOrder.f k n l m o) (decide (n = m ∧ l = o)) := by
  unfold laws_eqOrder.f
  by_cases h : n = m
  · refine L.Ev.ifp h ?_
    refine Ev.bind (eqIntS_ev l o hl) ?_
    by_cases h2 : l = o
    · simp only [h, h2, and_self, decide_true, if_true]; exact Ev.now _
    · simp only [h2, and_false, decide_false]; exact L.Ev.ifn (by simp) (Ev.now _)
  · refine L.Ev.ifn h ?_
    simp only [h, false_and, decide_false]
    exact Ev.now _
theorem eqOrder_self (n : Int) (l : List Int) (hl : l.length ≤ 9223372036854775806) : Ev (fun k => laws_eqOrder.f k n l n l) true := by
  have h := eqOrder_ev n l n l hl
  simpa using h
end Go.Proofs.Ytjeghlmkipcihaa.P
