/- Arguments that came in, opened to what the walks take: whole numbers, rows of them, orders, intervals and rows of intervals; for every reading, without conditions. -/
import Derived.Test.YtoilbeffheijeaaDoorWo0
import Derived.Lib.SmallJoins
import Derived.Deep.Slices
import Derived.Deep.Fields
import Derived.ChangeSame
import Derived.ProofKit
import Derived.OpenShut
namespace Go.Proofs.YtoilbeffheijeaaDoor.R
open Go.Deep
open Go.RowKit Go.Proofs.YtoilbeffheijeaaDoorW.PrintWords Go.Proofs.YtoilbeffheijeaaDoorW.PrintLast Go.Proofs.YtoilbeffheijeaaDoorW.PrintMore Go.ChangeShapes Go.WideShapes Go.ChangeAt Go.Joins
set_option linter.unusedVariables false
set_option linter.unusedSimpArgs false
section
variable {H : Type} {enc : TypeId × Value → H} {P : Program} {w : World}
/-- a whole number that is wf. -/
abbrev wf (x : Int) : Prop := -9223372036854775808 ≤ x ∧ x ≤ 9223372036854775807
theorem wf_of {x : Int} (h : (Lit.int .i64 x).wf = true) : wf x := by
  have := Go.Joins.in64_of_wf h
  unfold In64 at this
  exact ⟨by omega, by omega⟩
theorem open_ints_ {t e : TypeId} {fuel : Nat} {cs : List Value} {y : DataW H × List MemPlace} (ht : P.underlying t = some (.slice e)) (he : P.underlying e = some (.int .i64)) (hc : P.cellsOf e = 1)
    (h : DataW.trod enc P w 0 (fun _ => true) true fuel t cs = some y) :
    ∃ (A : Option Addr) (cap : Nat) (l : List Int), cs = [.slice A l.length cap] ∧ Kd.C (Kd.int .i64) w A l.length l ∧ l.length ≤ cap ∧ l.length ≤ 9223372036854775807 ∧ ∀ x ∈ l, wf x := by
  rcases open_ints ht he hc h with ⟨rfl, _⟩ | ⟨x, l, c, zs, rfl, _, hl, hm, hz, _, hcell, hwz⟩
  · exact ⟨none, 0, [], rfl, Kd.C_nil _ _, by simp, by simp, by simp⟩
  · obtain ⟨ls, e1, hr, hm2, hw2, hc2⟩ := ReadsInt.ofRowC (k := .i64) (w := w) (a := some x) (len := l) (cap := c) (zs := zs) (.inr ⟨x, rfl, hl, hm, by simpa using hz, hcell, hwz⟩)
    subst e1
    unfold maxLen at hm2
    exact ⟨some x, c, ls, rfl, Kd.C_of_reads (d := (0 : Int)) (h1 := fun _ => rfl) hr, hc2, hm2, fun x hx => wf_of (hw2 x hx)⟩
theorem open_order_arg {t e : TypeId} {f0 f1 : Field} {v : Value} {d : DataW H} {ps : List MemPlace} (hs : P.underlying t = some (.struct #[f0, f1])) (hone : oneCellFields P #[f0, f1] = true) (hC : P.cellsOf t = 2)
    (h0 : P.underlying f0.type = some (.int .i64)) (h1 : P.underlying f1.type = some (.slice e)) (he : P.underlying e = some (.int .i64)) (hc : P.cellsOf e = 1)
    {base : Nat} (hv : Value.okWide P w .any base t v) (h : DataW.Trod enc P w 0 (fun _ => true) true t v d ps) :
    ∃ (n : Int) (A : Option Addr) (cap : Nat) (l : List Int), v = .agg #[.int .i64 n, .slice A l.length cap] ∧ wf n ∧ Kd.C (Kd.int .i64) w A l.length l ∧ l.length ≤ cap ∧ l.length ≤ 9223372036854775807 ∧ ∀ x ∈ l, wf x := by
  obtain ⟨v0, v1, y0, y1, m, rfl, _, _, t0, t1⟩ := open_agg2 hs hone hC hv h
  obtain ⟨n, e0, _, hw⟩ := DataW.trod_int h0 t0
  obtain ⟨A, cap, l, e1, hr⟩ := open_ints_ h1 he hc t1
  obtain rfl : v0 = .int .i64 n := by simpa using e0
  obtain rfl : v1 = .slice A l.length cap := by simpa using e1
  exact ⟨n, A, cap, l, rfl, wf_of hw, hr⟩
theorem open_pair_arg {t : TypeId} {f0 f1 : Field} {v : Value} {d : DataW H} {ps : List MemPlace} (hs : P.underlying t = some (.struct #[f0, f1])) (hone : oneCellFields P #[f0, f1] = true) (hC : P.cellsOf t = 2)
    (h0 : P.underlying f0.type = some (.int .i64)) (h1 : P.underlying f1.type = some (.int .i64))
    {base : Nat} (hv : Value.okWide P w .any base t v) (h : DataW.Trod enc P w 0 (fun _ => true) true t v d ps) :
    ∃ a b : Int, v = .agg #[.int .i64 a, .int .i64 b] ∧ wf a ∧ wf b := by
  obtain ⟨v0, v1, y0, y1, m, rfl, _, _, t0, t1⟩ := open_agg2 hs hone hC hv h
  obtain ⟨a, e0, _, hw⟩ := DataW.trod_int h0 t0
  obtain ⟨b, e1, _, hw1⟩ := DataW.trod_int h1 t1
  obtain rfl : v0 = .int .i64 a := by simpa using e0
  obtain rfl : v1 = .int .i64 b := by simpa using e1
  exact ⟨a, b, rfl, wf_of hw, wf_of hw1⟩
/-- a row of pairs of whole numbers. -/
def pairK : Kd (Int × Int) := Kd.pair (Kd.int .i64) (Kd.int .i64)
end
end Go.Proofs.YtoilbeffheijeaaDoor.R
