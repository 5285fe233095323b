/- Arguments that came in, opened to what the walks take: whole numbers, rows of them, orders, intervals and rows of intervals; for every reading, without conditions. -/
import Derived.Test.YthfkdgecclnffaaDoorWo0
import Derived.Lib.SmallJoins
import Derived.Deep.Slices
import Derived.Deep.Fields
import Derived.ChangeSame
import Derived.ProofKit
import Derived.OpenShut
namespace Go.Proofs.YthfkdgecclnffaaDoor.R
open Go.Deep
open Go.RowKit Go.Proofs.YthfkdgecclnffaaDoorW.PrintWords Go.Proofs.YthfkdgecclnffaaDoorW.PrintLast Go.Proofs.YthfkdgecclnffaaDoorW.PrintMore Go.ChangeShapes Go.WideShapes Go.ChangeAt Go.Joins
set_option linter.unusedVariables false
set_option linter.unusedSimpArgs false
section
variable {H : Type} {enc : TypeId × Value → H} {P : Program} {w : World}
/-- a whole number that is wf. -/
abbrev wf (x : Int) : Prop := -9223372036854775808 ≤ x ∧ x ≤ 9223372036854775807
theorem wf_of {x : Int} (h : (Lit.int .i64 x).wf = true) : wf x := by
  have := Go.Joins.in64_of_wf h
  unfold In64 at this
  exact ⟨by omega, by omega⟩
theorem open_ints_ {t e : TypeId} {fuel : Nat} {cs : List Value} {y : DataW H × List MemPlace} (ht : P.underlying t = some (.slice e)) (he : P.underlying e = some (.int .i64)) (hc : P.cellsOf e = 1)
    (h : DataW.trod enc P w 0 (fun _ => true) true fuel t cs = some y) :
    ∃ (A : Option Addr) (cap : Nat) (l : List Int), cs = [.slice A l.length cap] ∧ Kd.C (Kd.int .i64) w A l.length l ∧ l.length ≤ cap ∧ l.length ≤ 9223372036854775807 ∧ ∀ x ∈ l, wf x := by
  rcases open_ints ht he hc h with ⟨rfl, _⟩ | ⟨x, l, c, zs, rfl, _, hl, hm, hz, _, hcell, hwz⟩
  · exact ⟨none, 0, [], rfl, Kd.C_nil _ _, by simp, by simp, by simp⟩
  · obtain ⟨ls, e1, hr, hm2, hw2, hc2⟩ := ReadsInt.ofRowC (k := .i64) (w := w) (a := some x) (len := l) (cap := c) (zs := zs) (.inr ⟨x, rfl, hl, hm, by simpa using hz, hcell, hwz⟩)
    subst e1
    unfold maxLen at hm2
    exact ⟨some x, c, ls, rfl, Kd.C_of_reads (d := (0 : Int)) (h1 := fun _ => rfl) hr, hc2, hm2, fun x hx => wf_of (hw2 x hx)⟩
theorem open_ints_arg {t e : TypeId} {v : Value} {d : DataW H} {ps : List MemPlace} (ht : P.underlying t = some (.slice e)) (he : P.underlying e = some (.int .i64)) (hc : P.cellsOf e = 1)
    {base : Nat} (hv : Value.okWide P w .any base t v) (h : DataW.Trod enc P w 0 (fun _ => true) true t v d ps) :
    ∃ (A : Option Addr) (cap : Nat) (l : List Int), v = .slice A l.length cap ∧ Kd.C (Kd.int .i64) w A l.length l ∧ l.length ≤ cap ∧ l.length ≤ 9223372036854775807 ∧ ∀ x ∈ l, wf x := by
  obtain ⟨a, len, cap, rfl⟩ := okWide_slice ht hv
  obtain ⟨fuel, hf⟩ := h
  obtain ⟨A, c, l, e1, h1⟩ := open_ints_ ht he hc hf
  simp only [Value.cells] at e1
  obtain ⟨rfl⟩ : Value.slice a len cap = Value.slice A l.length c := by simpa using e1
  exact ⟨_, _, l, rfl, h1⟩
theorem open_int_arg {t : TypeId} {v : Value} {d : DataW H} {ps : List MemPlace} (ht : P.underlying t = some (.int .i64)) {base : Nat} (hv : Value.okWide P w .any base t v) (h : DataW.Trod enc P w 0 (fun _ => true) true t v d ps) :
    ∃ n : Int, v = .int .i64 n ∧ wf n := by
  obtain ⟨n, rfl, _, _, hw⟩ := open_int ht hv h
  exact ⟨n, rfl, wf_of hw⟩
theorem open_order_arg {t e : TypeId} {f0 f1 : Field} {v : Value} {d : DataW H} {ps : List MemPlace} (hs : P.underlying t = some (.struct #[f0, f1])) (hone : oneCellFields P #[f0, f1] = true) (hC : P.cellsOf t = 2)
    (h0 : P.underlying f0.type = some (.int .i64)) (h1 : P.underlying f1.type = some (.slice e)) (he : P.underlying e = some (.int .i64)) (hc : P.cellsOf e = 1)
    {base : Nat} (hv : Value.okWide P w .any base t v) (h : DataW.Trod enc P w 0 (fun _ => true) true t v d ps) :
    ∃ (n : Int) (A : Option Addr) (cap : Nat) (l : List Int), v = .agg #[.int .i64 n, .slice A l.length cap] ∧ wf n ∧ Kd.C (Kd.int .i64) w A l.length l ∧ l.length ≤ cap ∧ l.length ≤ 9223372036854775807 ∧ ∀ x ∈ l, wf x := by
  obtain ⟨v0, v1, y0, y1, m, rfl, _, _, t0, t1⟩ := open_agg2 hs hone hC hv h
  obtain ⟨n, e0, _, hw⟩ := DataW.trod_int h0 t0
  obtain ⟨A, cap, l, e1, hr⟩ := open_ints_ h1 he hc t1
  obtain rfl : v0 = .int .i64 n := by simpa using e0
  obtain rfl : v1 = .slice A l.length cap := by simpa using e1
  exact ⟨n, A, cap, l, rfl, wf_of hw, hr⟩
theorem open_pair_arg {t : TypeId} {f0 f1 : Field} {v : Value} {d : DataW H} {ps : List MemPlace} (hs : P.underlying t = some (.struct #[f0, f1])) (hone : oneCellFields P #[f0, f1] = true) (hC : P.cellsOf t = 2)
    (h0 : P.underlying f0.type = some (.int .i64)) (h1 : P.underlying f1.type = some (.int .i64))
    {base : Nat} (hv : Value.okWide P w .any base t v) (h : DataW.Trod enc P w 0 (fun _ => true) true t v d ps) :
    ∃ a b : Int, v = .agg #[.int .i64 a, .int .i64 b] ∧ wf a ∧ wf b := by
  obtain ⟨v0, v1, y0, y1, m, rfl, _, _, t0, t1⟩ := open_agg2 hs hone hC hv h
  obtain ⟨a, e0, _, hw⟩ := DataW.trod_int h0 t0
  obtain ⟨b, e1, _, hw1⟩ := DataW.trod_int h1 t1
  obtain rfl : v0 = .int .i64 a := by simpa using e0
  obtain rfl : v1 = .int .i64 b := by simpa using e1
  exact ⟨a, b, rfl, wf_of hw, wf_of hw1⟩
/-- a row of pairs of whole numbers. -/
def pairK : Kd (Int × Int) := Kd.pair (Kd.int .i64) (Kd.int .i64)
theorem open_pairs_arg {t e : TypeId} {f0 f1 : Field} {v : Value} {d : DataW H} {ps : List MemPlace} (ht : P.underlying t = some (.slice e)) (hs : P.underlying e = some (.struct #[f0, f1])) (hone : oneCellFields P #[f0, f1] = true) (hC : P.cellsOf e = 2)
    (h0 : P.underlying f0.type = some (.int .i64)) (h1 : P.underlying f1.type = some (.int .i64))
    {base : Nat} (hv : Value.okWide P w .any base t v) (h : DataW.Trod enc P w 0 (fun _ => true) true t v d ps) :
    ∃ (A : Option Addr) (cap : Nat) (l : List (Int × Int)), v = .slice A l.length cap ∧ Kd.C pairK w A l.length l ∧ l.length ≤ cap ∧ l.length ≤ 9223372036854775807 ∧ ∀ x ∈ l, wf x.1 ∧ wf x.2 := by
  obtain ⟨a, len, cap, rfl⟩ := okWide_slice ht hv
  obtain ⟨fuel, hf⟩ := h
  rcases Go.Deep.open_slice ht hf with ⟨e1, _⟩ | ⟨x, ln, c, m, n, D, Pl, e1, _, hl, hm, hmm, _, hi⟩
  · simp [Value.cells] at e1
    obtain ⟨rfl, rfl, rfl⟩ := e1
    exact ⟨none, 0, [], rfl, ⟨rfl, by simp, fun h => absurd h (by simp)⟩, by simp, by simp, by simp⟩
  · simp [Value.cells] at e1
    obtain ⟨rfl, rfl, rfl⟩ := e1
    simp only [if_true] at hmm
    subst hmm
    rw [hC] at hi
    have each : ∀ i, ∃ q : Int × Int, i < len → w.cell? (x.add (i * 2)) = some (.int .i64 q.1) ∧ w.cell? (x.add (i * 2 + 1)) = some (.int .i64 q.2) ∧ wf q.1 ∧ wf q.2 := by
      intro i
      by_cases hlt : i < len
      · obtain ⟨cs', hc, ht'⟩ := hi i (by omega)
        obtain ⟨_, hcl, hat⟩ := World.cells?_some hc
        obtain ⟨c0, c1, rfl⟩ : ∃ c0 c1, cs' = [c0, c1] := by
          match cs', hcl with
          | [c0, c1], _ => exact ⟨c0, c1, rfl⟩
        obtain ⟨y0, y1, n', hx, _, t0, t1⟩ := trod_struct2 hs ht'
        obtain ⟨o0, k0⟩ := hone_of hone 0 f0 rfl
        obtain ⟨o1, k1⟩ := hone_of hone 1 f1 rfl
        rw [o0, k0] at t0
        rw [o1, k1] at t1
        obtain ⟨p, e0, _, hw0⟩ := DataW.trod_int h0 t0
        obtain ⟨q, e1, _, hw1⟩ := DataW.trod_int h1 t1
        have a0 := hat 0 (by omega)
        have a1 := hat 1 (by omega)
        rw [Go.Deep.add_add] at a0 a1
        obtain rfl : c0 = .int .i64 p := by simpa using e0
        obtain rfl : c1 = .int .i64 q := by simpa using e1
        exact ⟨(p, q), fun _ => ⟨by simpa using a0, by simpa using a1, wf_of hw0, wf_of hw1⟩⟩
      · exact ⟨(0, 0), fun h => absurd h hlt⟩
    unfold maxLen at hm
    let q := fun i => Classical.choose (each i)
    have hq : ∀ i, i < len → w.cell? (x.add (i * 2)) = some (.int .i64 (q i).1) ∧ w.cell? (x.add (i * 2 + 1)) = some (.int .i64 (q i).2) ∧ wf (q i).1 ∧ wf (q i).2 := fun i => Classical.choose_spec (each i)
    have hlen : ((List.range len).map q).length = len := by simp
    refine ⟨some x, m, (List.range len).map q, by rw [hlen], ?_, by rw [hlen]; exact hl, by rw [hlen]; omega, ?_⟩
    · refine ⟨rfl, by rw [hlen]; omega, fun _ => ⟨x, rfl, fun j p hp => ?_⟩⟩
      have hj : j < len := by have := (List.getElem?_eq_some_iff.1 hp).1; simpa using this
      obtain rfl : q j = p := by simpa [hj] using hp
      obtain ⟨c0, c1, _, _⟩ := hq j hj
      refine ⟨[.int .i64 (q j).1, .int .i64 (q j).2], rfl, ⟨[.int .i64 (q j).1], [.int .i64 (q j).2], rfl, rfl, rfl⟩, fun i u hu => ?_⟩
      match i, hu with
      | 0, hu => simp at hu; subst hu; exact c0
      | 1, hu => simp at hu; subst hu; exact c1
    · intro y hy
      obtain ⟨j, hj, rfl⟩ := List.mem_map.1 hy
      obtain ⟨_, _, w0, w1⟩ := hq j (List.mem_range.1 hj)
      exact ⟨w0, w1⟩
theorem C_iso {α β : Type} {d : Kd α} {f : β → α} {g : α → β} (hfg : ∀ x, f (g x) = x) {A : Option Addr} {n : Nat} {l : List α} (h : Kd.C d w A n l) : Kd.C (Kd.iso d f) w A n (l.map g) := by
  refine ⟨by rw [List.length_map]; exact h.1, h.2.1, fun hn => ?_⟩
  obtain ⟨ad, e, hc⟩ := h.2.2 hn
  refine ⟨ad, e, fun j p hp => ?_⟩
  rw [List.getElem?_map] at hp
  cases hl : l[j]? with
  | none => rw [hl] at hp; simp at hp
  | some y =>
    rw [hl] at hp
    simp only [Option.map_some, Option.some.injEq] at hp
    subst hp
    obtain ⟨c, c1, c2, c3⟩ := hc j y hl
    refine ⟨c, c1, ?_, c3⟩
    show d.K w (f (g y)) c
    rw [hfg]; exact c2
end
end Go.Proofs.YthfkdgecclnffaaDoor.R
