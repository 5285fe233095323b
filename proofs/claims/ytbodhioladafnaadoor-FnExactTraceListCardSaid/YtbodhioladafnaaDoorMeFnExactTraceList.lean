/- The plain laws behind FnExactTraceList, in one text (merged by wip/merge.py). -/
import Derived.Test.YtbodhioladafnaaDoorLib
import Derived.Test.YtbodhioladafnaaDoorPx1
import Derived.Test.YtbodhioladafnaaDoorPx2
import Derived.Test.YtbodhioladafnaaDoorPx14
import Derived.Test.YtbodhioladafnaaDoorPx7
import Derived.Test.YtbodhioladafnaaDoorPx3
import Derived.Test.YtbodhioladafnaaDoorPx43
import Derived.Test.YtbodhioladafnaaDoorPx5
import Derived.Lib.SlicesCompact
import Derived.Test.YtbodhioladafnaaDoorPx40
import Derived.Test.YtbodhioladafnaaDoorPx50
import Derived.Test.YtbodhioladafnaaDoorPx48
import Derived.Test.YtbodhioladafnaaDoorPx49
import Derived.Test.YtbodhioladafnaaDoorPx46
import Derived.Test.YtbodhioladafnaaDoorPx47
import Derived.Test.YtbodhioladafnaaDoorPx8
import Derived.Test.YtbodhioladafnaaDoorPx9
import Derived.Test.YtbodhioladafnaaDoorPx4
import Derived.Test.YtbodhioladafnaaDoorPx42
import Derived.Test.YtbodhioladafnaaDoorPx6
import Derived.Test.YtbodhioladafnaaDoorPx44
import Derived.Test.YtbodhioladafnaaDoorPx45
import Derived.Test.YtbodhioladafnaaDoorPx36
import Derived.Test.YtbodhioladafnaaDoorPx37
import Derived.Test.YtbodhioladafnaaDoorPx38
import Derived.Test.YtbodhioladafnaaDoorRowLib
import Derived.Test.YtbodhioladafnaaDoorPx41
import Derived.Test.YtbodhioladafnaaDoorPx51
/-! ### PuInts -/
/- Plain laws of the copies and comparisons of rows of whole numbers; no conditions beyond the rows' lengths. -/
namespace Go.Proofs.YtbodhioladafnaaDoor.P
open Go.RowKit Go.Proofs.YtbodhioladafnaaDoorW.PrintWords Go.Proofs.YtbodhioladafnaaDoorW.PrintLast Go.Proofs.YtbodhioladafnaaDoorW.PrintMore L
set_option linter.unusedVariables false
set_option linter.unusedSimpArgs false
theorem toIntS_ev (l : List Int) (hl : l.length ≤ 35184372088832) : Ev (fun k => laws_toIntS.f k l) l := by
  have key : ∀ i, i ≤ l.length → Ev (fun k => laws_toIntS.l0 k l (l.take i ++ List.replicate (l.length - i) 0) (i : Int)) l := by
    refine L.down ?_ fun i hi ih => ?_
    · refine L.Ev.succ ?_
      simp only [laws_toIntS.l0]
      refine L.Ev.ifn (by omega) ?_
      rw [Nat.sub_self, List.take_of_length_le (Nat.le_refl _)]
      simp only [List.replicate_zero, List.append_nil]
      exact Ev.now l
    · refine L.Ev.succ ?_
      simp only [laws_toIntS.l0]
      refine L.Ev.ifp (by omega) (L.Ev.ifp (by omega) (L.Ev.ifp ?_ ?_))
      · simp only [List.length_append, List.length_take, List.length_replicate]; omega
      · have e : (l.take i ++ List.replicate (l.length - i) 0).set i (rd l (i : Int)) = l.take (i + 1) ++ List.replicate (l.length - (i + 1)) 0 := by
          rw [L.rd_get hi]
          refine List.ext_getElem? fun j => ?_
          rw [List.getElem?_set]
          by_cases hj : i = j
          · subst hj
            rw [if_pos rfl, if_pos (by simp only [List.length_append, List.length_take, List.length_replicate]; omega), List.getElem?_append_left (by simp only [List.length_take]; omega), List.getElem?_take, if_pos (by omega), List.getElem?_eq_getElem hi]
          · rw [if_neg hj]
            by_cases h1 : j < i
            · rw [List.getElem?_append_left (by simp only [List.length_take]; omega), List.getElem?_append_left (by simp only [List.length_take]; omega), List.getElem?_take, List.getElem?_take, if_pos h1, if_pos (by omega)]
            · rw [List.getElem?_append_right (by simp only [List.length_take]; omega), List.getElem?_append_right (by simp only [List.length_take]; omega)]
              simp only [List.length_take, List.getElem?_replicate]
              by_cases h2 : j < l.length
              · rw [if_pos (by omega), if_pos (by omega)]
              · rw [if_neg (by omega), if_neg (by omega)]
        refine Ev.congr (fun k => ?_) ih
        rw [L.w64n (by omega), Int.toNat_natCast, e]
  refine Ev.congr (fun k => ?_) (key 0 (by omega))
  unfold laws_toIntS.f
  rw [if_pos (by omega), if_pos (by omega)]
  simp
theorem eqIntS_ev (l m : List Int) (hl : l.length ≤ 9223372036854775806) : Ev (fun k => laws_eqIntS.f k l m) (decide (l = m)) := by
  by_cases hlen : l.length = m.length
  · have key : ∀ i, i ≤ l.length → Ev (fun k => laws_eqIntS.l0 k l m (i : Int)) (decide (l.drop i = m.drop i)) := by
      refine L.down ?_ fun i hi ih => ?_
      · refine L.Ev.succ ?_
        simp only [laws_eqIntS.l0]
        refine L.Ev.ifn (by omega) ?_
        rw [List.drop_eq_nil_of_le (Nat.le_refl _), List.drop_eq_nil_of_le (by omega)]
        exact Ev.now _
      · refine L.Ev.succ ?_
        simp only [laws_eqIntS.l0]
        refine L.Ev.ifp (by omega) (L.Ev.ifp (by omega) (L.Ev.ifp (by omega) ?_))
        rw [L.rd_get hi, L.rd_get (l := m) (by omega), List.drop_eq_getElem_cons hi, List.drop_eq_getElem_cons (l := m) (by omega)]
        by_cases e : l[i] = m[i]'(by omega)
        · refine L.Ev.ifp e ?_
          refine Ev.congr (fun k => by rw [L.w64n (by omega)]) ?_
          have e2 : (l[i] :: List.drop (i + 1) l = m[i]'(by omega) :: List.drop (i + 1) m) = (List.drop (i + 1) l = List.drop (i + 1) m) := propext ⟨fun h => (List.cons.inj h).2, fun h => by rw [e, h]⟩
          simp only [e2]
          exact ih
        · refine L.Ev.ifn e ?_
          simp only [List.cons.injEq, e, false_and, decide_false]
          exact Ev.now _
    have h := key 0 (by omega)
    refine Ev.congr (fun k => ?_) h
    unfold laws_eqIntS.f
    rw [if_pos (by omega)]; rfl
  · have e : l ≠ m := fun h => hlen (by rw [h])
    refine Ev.congr (fun k => ?_) (f := fun _ => some false) (by simp only [e, decide_false]; exact Ev.now _)
    unfold laws_eqIntS.f
    rw [if_neg (by omega)]
theorem eqIntS_self (l : List Int) (hl : l.length ≤ 9223372036854775806) : Ev (fun k => laws_eqIntS.f k l l) true := by
  have h := eqIntS_ev l l hl
  simpa using h
end Go.Proofs.YtbodhioladafnaaDoor.P

/-! ### PuOrder -/
/- Plain laws of the copies and comparisons of relations; no conditions beyond the rows' lengths. -/
namespace Go.Proofs.YtbodhioladafnaaDoor.P
open Go.RowKit Go.Proofs.YtbodhioladafnaaDoorW.PrintWords Go.Proofs.YtbodhioladafnaaDoorW.PrintLast Go.Proofs.YtbodhioladafnaaDoorW.PrintMore L
set_option linter.unusedVariables false
set_option linter.unusedSimpArgs false
theorem szIntS_eq (l : List Int) (a : Int) (ha : 0 ≤ a ∧ a ≤ 1048576) (hl : l.length ≤ 9223372036854775807) : laws_szIntS.f l a = some (if (l.length : Int) ≤ a then a - l.length else -1) := by
  unfold laws_szIntS.f
  rw [L.w64 (by omega) (by omega)]
  by_cases h : (l.length : Int) ≤ a
  · rw [if_neg (by omega), if_pos h]
  · rw [if_pos (by omega), if_neg h]
theorem szOrder_eq (n : Int) (l : List Int) (a : Int) (ha : 0 ≤ a ∧ a ≤ 1048576) (hl : l.length ≤ 9223372036854775807) : laws_szOrder.f n l a = some (if (l.length : Int) ≤ a then a - l.length else -1) := by
  unfold laws_szOrder.f
  rw [szIntS_eq l a ha hl]
  simp only [Option.bind_some]
  by_cases h : (l.length : Int) ≤ a
  · rw [if_pos h, if_neg (by omega)]
  · rw [if_neg h, if_pos (by omega)]
theorem toOrder_ev (n : Int) (l : List Int) (hl : l.length ≤ 35184372088832) : Ev (fun k => laws_toOrder.f k n l) (n, l) := by
  unfold laws_toOrder.f
  exact Ev.bind (toIntS_ev l hl) (Ev.now _)
theorem eqOrder_ev (n : Int) (l : List Int) (m : Int) (o : List Int) (hl : l.length ≤ 9223372036854775806) : Ev (fun k => laws_eqOrder.f k n l m o) (decide (n = m ∧ l = o)) := by
  unfold laws_eqOrder.f
  by_cases h : n = m
  · refine L.Ev.ifp h ?_
    refine Ev.bind (eqIntS_ev l o hl) ?_
    by_cases h2 : l = o
    · simp only [h, h2, and_self, decide_true, if_true]; exact Ev.now _
    · simp only [h2, and_false, decide_false]; exact L.Ev.ifn (by simp) (Ev.now _)
  · refine L.Ev.ifn h ?_
    simp only [h, false_and, decide_false]
    exact Ev.now _
theorem eqOrder_self (n : Int) (l : List Int) (hl : l.length ≤ 9223372036854775806) : Ev (fun k => laws_eqOrder.f k n l n l) true := by
  have h := eqOrder_ev n l n l hl
  simpa using h
end Go.Proofs.YtbodhioladafnaaDoor.P

/-! ### PuMark -/
/- Plain laws of the marks that are laid into rows of whole numbers and looked for again; no conditions beyond the rows' lengths. -/
namespace Go.Proofs.YtbodhioladafnaaDoor.P
open Go.RowKit Go.Proofs.YtbodhioladafnaaDoorW.PrintWords Go.Proofs.YtbodhioladafnaaDoorW.PrintLast Go.Proofs.YtbodhioladafnaaDoorW.PrintMore L
set_option linter.unusedVariables false
set_option linter.unusedSimpArgs false
/-- a, a + 1, .. -/
def marks (a : Int) (n : Nat) : List Int := (List.range n).map fun (i : Nat) => a + (i : Int)
theorem marks_length (a : Int) (n : Nat) : (marks a n).length = n := by simp [marks]
theorem markIntS_ev (l : List Int) (a : Int) (ha : 0 ≤ a ∧ a ≤ 4194304) (hl : l.length ≤ 1048576) : Ev (fun k => laws_markIntS.f k l a) (a + l.length, marks a l.length) := by
  have key : ∀ i, i ≤ l.length → Ev (fun k => laws_markIntS.l0 k (marks a i ++ l.drop i) (a + i) (i : Int)) (a + l.length, marks a l.length) := by
    refine L.down ?_ fun i hi ih => ?_
    · refine L.Ev.succ ?_
      simp only [laws_markIntS.l0]
      rw [List.drop_eq_nil_of_le (Nat.le_refl _), List.append_nil]
      refine L.Ev.ifn (by rw [marks_length]; omega) ?_
      exact Ev.now _
    · refine L.Ev.succ ?_
      simp only [laws_markIntS.l0]
      refine L.Ev.ifp (by rw [List.length_append, marks_length, List.length_drop]; omega) (L.Ev.ifp (by omega) ?_)
      have e : (marks a i ++ l.drop i).set i (a + i) = marks a (i + 1) ++ l.drop (i + 1) := by
        refine List.ext_getElem? fun j => ?_
        rw [List.getElem?_set]
        by_cases hj : i = j
        · subst hj
          rw [if_pos rfl, if_pos (by rw [List.length_append, marks_length, List.length_drop]; omega), List.getElem?_append_left (by rw [marks_length]; omega)]
          simp [marks]
        · rw [if_neg hj]
          by_cases h1 : j < i
          · rw [List.getElem?_append_left (by rw [marks_length]; omega), List.getElem?_append_left (by rw [marks_length]; omega)]
            simp [marks, h1, show j < i + 1 by omega]
          · rw [List.getElem?_append_right (by rw [marks_length]; omega), List.getElem?_append_right (by rw [marks_length]; omega), marks_length, marks_length, List.getElem?_drop, List.getElem?_drop]
            congr 1; omega
      refine Ev.congr (fun k => ?_) ih
      rw [L.w64n (n := i) (by omega), L.w64 (x := a + i + 1) (by omega) (by omega), Int.toNat_natCast, e]
      congr 1; omega
  refine Ev.congr (fun k => ?_) (key 0 (by omega))
  unfold laws_markIntS.f
  simp [marks]
theorem heldIntS_ev (l : List Int) (a : Int) (ha : 0 ≤ a ∧ a ≤ 4194304) (hl : l.length ≤ 1048576) : Ev (fun k => laws_heldIntS.f k l a) (if l = marks a l.length then a + l.length else -1) := by
  by_cases hm : l = marks a l.length
  · rw [if_pos hm]
    have key : ∀ i, i ≤ l.length → Ev (fun k => laws_heldIntS.l0 k l (a + i) (i : Int)) (a + l.length) := by
      refine L.down ?_ fun i hi ih => ?_
      · refine L.Ev.succ ?_
        simp only [laws_heldIntS.l0]
        refine L.Ev.ifn (by omega) ?_
        exact Ev.now _
      · refine L.Ev.succ ?_
        simp only [laws_heldIntS.l0]
        refine L.Ev.ifp (by omega) (L.Ev.ifp (by omega) (L.Ev.ifp ?_ ?_))
        · rw [L.rd_nat]
          have e : l.getD i 0 = (marks a l.length).getD i 0 := by rw [← hm]
          rw [e, List.getD_eq_getElem?_getD]
          simp [marks, hi]
        · refine Ev.congr (fun k => ?_) ih
          rw [L.w64n (n := i) (by omega), L.w64 (x := a + i + 1) (by omega) (by omega)]
          congr 1; omega
    exact Ev.congr (fun k => by unfold laws_heldIntS.f; simp) (key 0 (by omega))
  · rw [if_neg hm]
    have key : ∀ i, i ≤ l.length → (∀ j, j < i → l.getD j 0 = a + j) → Ev (fun k => laws_heldIntS.l0 k l (a + i) (i : Int)) (-1) := by
      refine L.down ?_ fun i hi ih => ?_
      · intro h
        refine absurd ?_ hm
        refine List.ext_getElem? fun j => ?_
        by_cases hj : j < l.length
        · have := h j hj
          rw [List.getD_eq_getElem?_getD, List.getElem?_eq_getElem hj] at this
          rw [List.getElem?_eq_getElem hj]
          simp only [Option.getD_some] at this
          simp [marks, hj, this]
        · rw [List.getElem?_eq_none (by omega), List.getElem?_eq_none (by rw [marks_length]; omega)]
      · intro h
        refine L.Ev.succ ?_
        simp only [laws_heldIntS.l0]
        refine L.Ev.ifp (by omega) (L.Ev.ifp (by omega) ?_)
        by_cases e : rd l (i : Int) = a + i
        · refine L.Ev.ifp e ?_
          refine Ev.congr (fun k => ?_) (ih fun j hj => ?_)
          · rw [L.w64n (n := i) (by omega), L.w64 (x := a + i + 1) (by omega) (by omega)]
            congr 1; omega
          · by_cases hji : j = i
            · rw [hji, ← L.rd_nat]; exact e
            · exact h j (by omega)
        · exact L.Ev.ifn e (Ev.now _)
    exact Ev.congr (fun k => by unfold laws_heldIntS.f; simp) (key 0 (by omega) (by omega))
theorem held_marks (a : Int) (n : Nat) (ha : 0 ≤ a ∧ a ≤ 4194304) (hn : n ≤ 1048576) : Ev (fun k => laws_heldIntS.f k (marks a n) a) (a + n) := by
  have h := heldIntS_ev (marks a n) a ha (by rw [marks_length]; omega)
  rw [marks_length, if_pos rfl] at h
  exact h
end Go.Proofs.YtbodhioladafnaaDoor.P

/-! ### PuMarkO -/
/- Plain laws of the marks that are laid into relations and looked for again; no conditions beyond the rows' lengths. -/
namespace Go.Proofs.YtbodhioladafnaaDoor.P
open Go.RowKit Go.Proofs.YtbodhioladafnaaDoorW.PrintWords Go.Proofs.YtbodhioladafnaaDoorW.PrintLast Go.Proofs.YtbodhioladafnaaDoorW.PrintMore L
set_option linter.unusedVariables false
set_option linter.unusedSimpArgs false
theorem markOrder_ev (n : Int) (l : List Int) (a : Int) (ha : 0 ≤ a ∧ a ≤ 4194304) (hl : l.length ≤ 1048576) : Ev (fun k => laws_markOrder.f k n l a) (a + l.length, marks a l.length) := by
  unfold laws_markOrder.f
  exact Ev.bind (markIntS_ev l a ha hl) (Ev.now _)
end Go.Proofs.YtbodhioladafnaaDoor.P

/-! ### PuRel0 -/
/- Plain laws: which lists are relations. -/
namespace Go.Proofs.YtbodhioladafnaaDoor.P
open Go.RowKit Go.Proofs.YtbodhioladafnaaDoorW.PrintWords Go.Proofs.YtbodhioladafnaaDoorW.PrintLast Go.Proofs.YtbodhioladafnaaDoorW.PrintMore L
set_option linter.unusedVariables false
set_option linter.unusedSimpArgs false
/-- the numbers of a relation. -/
def isRel (n : Int) (l : List Int) : Bool := decide (0 ≤ n ∧ n ≤ 10 ∧ (l.length : Int) = n ∧ ∀ x ∈ l, 0 ≤ x ∧ x < 2 ^ n.toNat)
theorem isRel_iff (n : Int) (l : List Int) : isRel n l = true ↔ 0 ≤ n ∧ n ≤ 10 ∧ (l.length : Int) = n ∧ ∀ x ∈ l, 0 ≤ x ∧ x < 2 ^ n.toNat := by simp [isRel]
theorem isRel_big {n : Nat} {l : List Int} (h : isRel n l = true) : ∀ x ∈ l, 0 ≤ x ∧ x < 1024 := by
  obtain ⟨h0, h1, h2, h3⟩ := (isRel_iff _ _).1 h
  intro x hx
  obtain ⟨a, b⟩ := h3 x hx
  have : (2 : Int) ^ (n : Int).toNat ≤ 2 ^ 10 := by
    have := Nat.pow_le_pow_right (n := 2) (by decide) (show (n : Int).toNat ≤ 10 by omega)
    exact_mod_cast this
  omega
theorem isRel_ok {n : Int} {l : List Int} (h : isRel n l = true) : L.okRel n l := by
  obtain ⟨h0, h1, h2, h3⟩ := (isRel_iff _ _).1 h
  obtain ⟨m, rfl⟩ := Int.eq_ofNat_of_zero_le h0
  refine ⟨h0, by omega, h2, fun x hx => ?_⟩
  have := isRel_big h x hx
  omega
end Go.Proofs.YtbodhioladafnaaDoor.P

/-! ### PuRel20 -/
/- Plain laws: single elements of relations: above, below, in bounds; for the program and the reference alike. -/
namespace Go.Proofs.YtbodhioladafnaaDoor.P
open Go.RowKit Go.Proofs.YtbodhioladafnaaDoorW.PrintWords Go.Proofs.YtbodhioladafnaaDoorW.PrintLast Go.Proofs.YtbodhioladafnaaDoorW.PrintMore L
set_option linter.unusedVariables false
set_option linter.unusedSimpArgs false
theorem isRel_nat {n : Int} {l : List Int} (h : isRel n l = true) : ∃ m : Nat, n = m ∧ m ≤ 10 ∧ l.length = m := by
  obtain ⟨h0, h1, h2, h3⟩ := (isRel_iff _ _).1 h
  obtain ⟨m, rfl⟩ := Int.eq_ofNat_of_zero_le h0
  exact ⟨m, rfl, by omega, by omega⟩
theorem orHas_eq {n : Int} {l : List Int} (h : L.okRel n l) (i j : Nat) (hj : j ≤ 64) : spec_orHas.f (rd l (i : Int)) (j : Int) = some (L.bitAt l i j) := by
  unfold spec_orHas.f
  rw [if_pos (by omega), h.bitm i j hj]
def R0 (n : Int) : Prop := -9223372036854775807 ≤ n ∧ n ≤ 9223372036854775807
theorem rel_len {m : Nat} {l : List Int} (h : isRel (m : Int) l = true) : l.length = m ∧ m ≤ 10 := by
  obtain ⟨m', hm', hm, hlm⟩ := isRel_nat h
  omega
end Go.Proofs.YtbodhioladafnaaDoor.P

/-! ### PuBelow -/
/- Plain laws: the set below an element. -/
namespace Go.Proofs.YtbodhioladafnaaDoor.P
open Go.RowKit Go.Proofs.YtbodhioladafnaaDoorW.PrintWords Go.Proofs.YtbodhioladafnaaDoorW.PrintLast Go.Proofs.YtbodhioladafnaaDoorW.PrintMore L
set_option linter.unusedVariables false
set_option linter.unusedSimpArgs false
/-- the set of all elements below one, as a natural number. -/
def belowN (l : List Int) (m i : Nat) : Nat := L.relRow (fun j => L.bitAt l j i) m
theorem belowN_lt (l : List Int) (m i : Nat) : belowN l m i < 2 ^ m := L.relRow_lt _ _
theorem belowN_bit (l : List Int) (m i j : Nat) : (belowN l m i).testBit j = (decide (j < m) && L.bitAt l j i) := L.relRow_testBit _ _ _
theorem orBelow_ev {m : Nat} {l : List Int} (h : isRel (m : Int) l = true) (i : Nat) (hi : i ≤ 64) : Ev (fun k => spec_orBelow.f k (m : Int) l (i : Int)) ((belowN l m i : Nat) : Int) := by
  obtain ⟨m', hm', hm, hlm⟩ := isRel_nat h
  obtain rfl : m = m' := by omega
  have ok := isRel_ok h
  have key : ∀ j, j ≤ m → Ev (fun k => spec_orBelow.l0 k (i : Int) ((L.relRow (fun j => L.bitAt l j i) j : Nat) : Int) l (l.length : Int) (j : Int)) ((belowN l m i : Nat) : Int) := by
    refine L.down ?_ fun j hj ih => ?_
    · refine L.Ev.succ ?_
      simp only [spec_orBelow.l0]
      exact L.Ev.ifn (by omega) (Ev.now _)
    · refine L.Ev.succ ?_
      simp only [spec_orBelow.l0]
      have hlt : L.relRow (fun j => L.bitAt l j i) j < 2 ^ 62 := Nat.lt_of_lt_of_le (L.relRow_lt _ j) (Nat.pow_le_pow_right (by decide) (by omega))
      have hp : (2 : Nat) ^ j < 2 ^ 62 := Nat.pow_lt_pow_right (by decide) (by omega)
      refine L.Ev.ifp (by omega) (L.Ev.ifp (by omega) (L.Ev.ifp (by omega) (L.Ev.bindc (orHas_eq ok j i hi) ?_)))
      rw [L.shl_one (by omega), L.or_nat hlt hp, L.w64n (by omega)]
      have e : L.relRow (fun j => L.bitAt l j i) (j + 1) = if L.bitAt l j i then L.relRow (fun j => L.bitAt l j i) j ||| 2 ^ j else L.relRow (fun j => L.bitAt l j i) j := rfl
      rw [e] at ih
      cases hb : L.bitAt l j i with
      | true => rw [hb] at ih; exact L.Ev.ifp rfl ih
      | false => rw [hb] at ih; exact L.Ev.ifn (by simp) ih
  exact key 0 (by omega)
theorem mirror_eq {m : Nat} {l : List Int} (h : isRel (m : Int) l = true) : impl_Order_mirror.f (m : Int) l = some ((m : Int), L.relL m fun i j => L.bitAt l j i) := by
  unfold impl_Order_mirror.f
  rw [if_pos (isRel_ok h)]; rfl
theorem rd_mirror (l : List Int) {m i : Nat} (hi : i < m) : rd (L.relL m fun i j => L.bitAt l j i) (i : Int) = ((belowN l m i : Nat) : Int) := by
  unfold L.relL
  rw [L.rd_cast, L.relN_get _ _ hi]; rfl
end Go.Proofs.YtbodhioladafnaaDoor.P

/-! ### PuRows -/
/- Plain lemmas: rows of bits that are built element by element; relations that are built row by row or mark by mark. -/
namespace Go.Proofs.YtbodhioladafnaaDoor.L
open Go.RowKit Go.Proofs.YtbodhioladafnaaDoorW.PrintWords Go.Proofs.YtbodhioladafnaaDoorW.PrintLast Go.Proofs.YtbodhioladafnaaDoorW.PrintMore
set_option linter.unusedVariables false
set_option linter.unusedSimpArgs false
theorem two_lt {j : Nat} (hj : j ≤ 60) : (2 : Nat) ^ j < 2 ^ 62 := Nat.pow_lt_pow_right (by decide) (by omega)
theorem relRow_lt62 (f : Nat → Bool) {j : Nat} (hj : j ≤ 60) : relRow f j < 2 ^ 62 := Nat.lt_trans (relRow_lt f j) (two_lt hj)
theorem row_yes {f : Nat → Bool} {j : Nat} (h : f j = true) (hj : j ≤ 60) : Go.bits .or .i64 ((relRow f j : Nat) : Int) (shl .i64 1 (j : Int)) = ((relRow f (j + 1) : Nat) : Int) := by
  rw [shl_one (by omega), or_nat (relRow_lt62 f hj) (two_lt hj)]
  show _ = ((if f j = true then _ else _ : Nat) : Int)
  rw [if_pos h]
theorem row_no {f : Nat → Bool} {j : Nat} (h : f j = false) : ((relRow f j : Nat) : Int) = ((relRow f (j + 1) : Nat) : Int) := by
  show _ = ((if f j = true then _ else _ : Nat) : Int)
  rw [if_neg (by rw [h]; simp)]
/-- the first i rows of a relation. -/
def relPre (n : Nat) (is : Nat → Nat → Bool) (i : Nat) : List Int := cast ((List.range i).map fun i => relRow (is i) n)
theorem relPre_zero (n : Nat) (is : Nat → Nat → Bool) : relPre n is 0 = [] := rfl
theorem relPre_length (n : Nat) (is : Nat → Nat → Bool) (i : Nat) : (relPre n is i).length = i := by simp [relPre, cast_length]
theorem relPre_full (n : Nat) (is : Nat → Nat → Bool) : relPre n is n = relL n is := rfl
theorem relPre_succ (n : Nat) (is : Nat → Nat → Bool) (i : Nat) : relPre n is i ++ [((relRow (is i) n : Nat) : Int)] = relPre n is (i + 1) := by
  simp [relPre, cast, List.range_succ]
theorem rd_relL (n : Nat) (is : Nat → Nat → Bool) {i : Nat} (h : i < n) : rd (relL n is) (i : Int) = ((relRow (is i) n : Nat) : Int) := by
  unfold relL; rw [rd_cast, relN_get n is h]
theorem relRow_congr {f g : Nat → Bool} {n : Nat} (h : ∀ j, j < n → f j = g j) : relRow f n = relRow g n := by
  refine Nat.eq_of_testBit_eq fun j => ?_
  rw [relRow_testBit, relRow_testBit]
  by_cases hj : j < n
  · rw [h j hj]
  · simp [hj]
theorem relRow_zero {n : Nat} : relRow (fun _ => false) n = 0 := by
  refine Nat.eq_of_testBit_eq fun j => ?_
  rw [relRow_testBit]; simp
theorem relL_none (n : Nat) : relL n (fun _ _ => false) = List.replicate n 0 := by
  refine List.ext_getElem (by simp [relL_length]) fun i h1 h2 => ?_
  have h3 : i < n := by rw [relL_length] at h1; exact h1
  have e := rd_relL n (fun _ _ => false) h3
  rw [rd_get h1, relRow_zero] at e
  rw [e]; simp
theorem relL_set {n : Nat} {is : Nat → Nat → Bool} {i : Nat} (hi : i < n) (f : Nat → Bool) : (relL n is).set i ((relRow f n : Nat) : Int) = relL n (fun a b => if a = i then f b else is a b) := by
  refine List.ext_getElem (by simp [relL_length]) fun j h1 h2 => ?_
  have h3 : j < n := by rw [relL_length] at h2; exact h2
  rw [List.getElem_set, ← rd_get h2, rd_relL n _ h3]
  by_cases e : i = j
  · subst e
    simp
  · rw [if_neg e, ← rd_get (by rw [relL_length]; exact h3), rd_relL n _ h3]
    exact congrArg (fun (x : Nat) => (x : Int)) (relRow_congr fun b _ => by show is j b = if j = i then f b else is j b; rw [if_neg (by omega)])
/-- a mark more. -/
theorem relL_mark {n : Nat} (hn : n ≤ 60) {is : Nat → Nat → Bool} {i j : Nat} (hi : i < n) (hj : j < n) : (relL n is).set i (Go.bits .or .i64 (rd (relL n is) (i : Int)) (shl .i64 1 (j : Int))) = relL n (fun a b => is a b || (decide (a = i) && decide (b = j))) := by
  rw [rd_relL n is hi, shl_one (by omega), or_nat (relRow_lt62 _ hn) (two_lt (by omega))]
  have e : relRow (is i) n ||| 2 ^ j = relRow (fun b => is i b || decide (b = j)) n := by
    refine Nat.eq_of_testBit_eq fun k => ?_
    rw [Nat.testBit_or, relRow_testBit, relRow_testBit, Nat.testBit_two_pow]
    by_cases hk : k < n
    · by_cases hkj : j = k
      · subst hkj; simp [hk]
      · simp [hk, hkj, show ¬ k = j from fun h => hkj h.symm]
    · simp [hk, show ¬ j = k by omega]
  rw [e, relL_set hi]
  refine relL_congr fun a b ha hb => ?_
  by_cases h : a = i
  · subst h; simp
  · simp [h]
/-- a row more in a row. -/
theorem relL_or {n : Nat} (hn : n ≤ 60) {is : Nat → Nat → Bool} {i k : Nat} (hi : i < n) (hk : k < n) : (relL n is).set i (Go.bits .or .i64 (rd (relL n is) (i : Int)) (rd (relL n is) (k : Int))) = relL n (fun a b => is a b || (decide (a = i) && is k b)) := by
  rw [rd_relL n is hi, rd_relL n is hk, or_nat (relRow_lt62 _ hn) (relRow_lt62 _ hn)]
  have e : relRow (is i) n ||| relRow (is k) n = relRow (fun b => is i b || is k b) n := by
    refine Nat.eq_of_testBit_eq fun j => ?_
    rw [Nat.testBit_or, relRow_testBit, relRow_testBit, relRow_testBit]
    cases decide (j < n) <;> simp
  rw [e, relL_set hi]
  refine relL_congr fun a b ha hb => ?_
  by_cases h : a = i
  · subst h; simp
  · simp [h]
/-- a relation that came in is the relation of its bits. -/
theorem okRel_eq {n : Nat} {l : List Int} (hl : l.length = n) (hn : n ≤ 60) (hb : ∀ x ∈ l, 0 ≤ x ∧ x < 2 ^ n) : l = relL n (bitAt l) := by
  refine List.ext_getElem (by rw [relL_length]; exact hl) fun i h1 h2 => ?_
  have h3 : i < n := by omega
  rw [← rd_get h2, rd_relL n _ h3]
  obtain ⟨a, b⟩ := hb l[i] (List.getElem_mem h1)
  obtain ⟨x, hx⟩ := Int.eq_ofNat_of_zero_le a
  rw [hx]
  have hlt : x < 2 ^ n := by rw [hx] at b; exact_mod_cast b
  congr 1
  refine Nat.eq_of_testBit_eq fun j => ?_
  rw [relRow_testBit]
  have e : bitAt l i j = x.testBit j := by
    unfold bitAt
    rw [List.getD_eq_getElem?_getD, List.getElem?_eq_getElem h1, Option.getD_some, hx, Int.toNat_natCast]
  rw [e]
  by_cases hj : j < n
  · simp [hj]
  · simp only [hj, decide_false, Bool.false_and]
    exact Nat.testBit_lt_two_pow (Nat.lt_of_lt_of_le hlt (Nat.pow_le_pow_right (by decide) (by omega)))
theorem rd_okRel {n : Nat} {l : List Int} (hl : l.length = n) (hn : n ≤ 60) (hb : ∀ x ∈ l, 0 ≤ x ∧ x < 2 ^ n) {i : Nat} (hi : i < n) : rd l (i : Int) = ((relRow (bitAt l i) n : Nat) : Int) := by
  have h := okRel_eq hl hn hb
  have e : rd l (i : Int) = rd (relL n (bitAt l)) (i : Int) := by rw [← h]
  rw [e, rd_relL n _ hi]
end Go.Proofs.YtbodhioladafnaaDoor.L

/-! ### PuSets -/
/- Plain laws: sets of elements as numbers. -/
namespace Go.Proofs.YtbodhioladafnaaDoor.P
open Go.RowKit Go.Proofs.YtbodhioladafnaaDoorW.PrintWords Go.Proofs.YtbodhioladafnaaDoorW.PrintLast Go.Proofs.YtbodhioladafnaaDoorW.PrintMore L
set_option linter.unusedVariables false
set_option linter.unusedSimpArgs false
def allN (m : Nat) : Nat := 2 ^ m - 1
theorem allN_bit (m i : Nat) : (allN m).testBit i = decide (i < m) := by unfold allN; exact Nat.testBit_two_pow_sub_one ..
theorem allN_lt (m : Nat) : allN m < 2 ^ m := by unfold allN; have := Nat.two_pow_pos m; omega
theorem shl_all {m : Nat} (hm : m ≤ 60) : wrap64 ((shl .i64 1 (m : Int)) - 1) = ((allN m : Nat) : Int) := by
  rw [L.shl_one (by omega)]
  have h := L.two_lt hm
  have h0 := Nat.two_pow_pos m
  unfold allN
  rw [L.w64 (by omega) (by omega)]; omega
theorem relRow_lt10 (f : Nat → Bool) {m : Nat} (hm : m ≤ 10) : L.relRow f m < 1024 :=
  Nat.lt_of_lt_of_le (L.relRow_lt f m) (Nat.pow_le_pow_right (n := 2) (by decide) hm)
theorem two_lt10 {i : Nat} (hm : i < 10) : (2 : Nat) ^ i < 1024 := Nat.pow_lt_pow_right (by decide) hm
theorem allN_lt10 {m : Nat} (hm : m ≤ 10) : allN m < 1024 := Nat.lt_of_lt_of_le (allN_lt m) (Nat.pow_le_pow_right (n := 2) (by decide) hm)
/-- the set of the elements of a list. -/
def setN (l : List Int) : Nat := L.relRow (fun j => decide ((j : Int) ∈ l)) 10
theorem setN_lt (l : List Int) : setN l < 1024 := relRow_lt10 _ (by omega)
theorem setN_bit (l : List Int) (j : Nat) : (setN l).testBit j = (decide (j < 10) && decide ((j : Int) ∈ l)) := L.relRow_testBit _ _ _
theorem setN_nil : setN [] = 0 := by decide +kernel
theorem setN_step (l : List Int) (i x : Nat) (hi : i < l.length) (hx : l[i] = (x : Int)) (h10 : x < 10) : setN (l.take i) ||| 2 ^ x = setN (l.take (i + 1)) := by
  refine Nat.eq_of_testBit_eq fun j => ?_
  rw [Nat.testBit_or, setN_bit, setN_bit, Nat.testBit_two_pow]
  have e : l.take (i + 1) = l.take i ++ [l[i]] := by rw [List.take_add_one, List.getElem?_eq_getElem hi]; rfl
  have e2 : ((j : Int) ∈ l.take (i + 1)) = ((j : Int) ∈ l.take i ∨ x = j) := by
    rw [e, List.mem_append, List.mem_singleton, hx]
    exact propext ⟨fun h => h.imp id fun h => by omega, fun h => h.imp id fun h => by omega⟩
  simp only [e2]
  by_cases hj : j < 10
  · by_cases h1 : (j : Int) ∈ l.take i <;> by_cases h2 : x = j <;> simp [hj, h1, h2]
  · by_cases h2 : x = j
    · omega
    · simp [hj, h2]
theorem int_beq (a b : Nat) : ((a : Int) == (b : Int)) = (a == b) := by
  rw [Bool.eq_iff_iff]; simp only [beq_iff_eq]; omega
end Go.Proofs.YtbodhioladafnaaDoor.P

/-! ### PuMem -/
/- Plain laws: the elements of a set, in the reference; sets of numbers below ten. -/
namespace Go.Proofs.YtbodhioladafnaaDoor.P
open Go.RowKit Go.Proofs.YtbodhioladafnaaDoorW.PrintWords Go.Proofs.YtbodhioladafnaaDoorW.PrintLast Go.Proofs.YtbodhioladafnaaDoorW.PrintMore L
set_option linter.unusedVariables false
set_option linter.unusedSimpArgs false
/-- the elements of a set, in order. -/
def membersN (x : Nat) : List Nat := (List.range 10).filter fun i => x.testBit i
theorem membersN_zero : membersN 0 = [] := by decide +kernel
theorem membersN_length (x : Nat) : (membersN x).length ≤ 10 := by
  have := List.length_filter_le (fun i => x.testBit i) (List.range 10)
  rw [List.length_range] at this; exact this
theorem mem_membersN {x i : Nat} : i ∈ membersN x ↔ i < 10 ∧ x.testBit i = true := by simp [membersN]
theorem mem_members_lt {x m i : Nat} (hx : x < 2 ^ m) (h : i ∈ membersN x) : i < m := by
  have h2 := (mem_membersN.1 h).2
  by_cases hi : i < m
  · exact hi
  · rw [Nat.testBit_lt_two_pow (Nat.lt_of_lt_of_le hx (Nat.pow_le_pow_right (by decide) (by omega)))] at h2
    cases h2
theorem orHas_nat {x j : Nat} (hj : j ≤ 64) : spec_orHas.f (x : Int) (j : Int) = some (x.testBit j) := by
  unfold spec_orHas.f
  rw [if_pos (by omega), L.bit_mod hj]
theorem orList_ev (x : Nat) (hx : x < 1024) : Ev (fun k => spec_orList.f k (x : Int)) (L.cast (membersN x)) := by
  have key : ∀ i, i ≤ 10 → Ev (fun k => spec_orList.l0 k (x : Int) (L.cast ((List.range i).filter fun i => x.testBit i)) (i : Int)) (L.cast (membersN x)) := by
    refine L.down ?_ fun i hi ih => ?_
    · refine L.Ev.succ ?_
      simp only [spec_orList.l0]
      refine L.Ev.ifp (by omega) (L.Ev.ifn ?_ (Ev.now _))
      rw [L.shr_nat (by omega), Nat.shiftRight_eq_div_pow, Nat.div_eq_of_lt (by simpa using hx)]; simp
    · refine L.Ev.succ ?_
      simp only [spec_orList.l0]
      refine L.Ev.ifp (by omega) ?_
      rw [L.shr_nat (by omega)]
      by_cases h : x >>> i = 0
      · refine L.Ev.ifn (by rw [h]; simp) ?_
        have hlt : x < 2 ^ i := by
          rw [Nat.shiftRight_eq_div_pow] at h
          exact (Nat.div_eq_zero_iff_lt (Nat.two_pow_pos i)).1 h
        have e : membersN x = (List.range i).filter fun i => x.testBit i := by
          unfold membersN
          rw [show 10 = i + (10 - i) by omega, List.range_add, List.filter_append]
          have e2 : ((List.range (10 - i)).map (i + ·)).filter (fun i => x.testBit i) = [] := by
            rw [List.filter_eq_nil_iff]
            intro a ha
            obtain ⟨b, _, rfl⟩ := List.mem_map.1 ha
            rw [Nat.testBit_lt_two_pow (Nat.lt_of_lt_of_le hlt (Nat.pow_le_pow_right (by decide) (by omega)))]; simp
          rw [e2, List.append_nil]
        rw [e]; exact Ev.now _
      · refine L.Ev.ifp (by have := Nat.pos_of_ne_zero h; exact_mod_cast this) (L.Ev.bindc (orHas_nat (by omega)) ?_)
        have e : (List.range (i + 1)).filter (fun i => x.testBit i) = (List.range i).filter (fun i => x.testBit i) ++ if x.testBit i then [i] else [] := by
          rw [List.range_succ, List.filter_append]
          cases hb : x.testBit i <;> simp [hb]
        rw [e] at ih
        have hlen : ((List.range i).filter fun i => x.testBit i).length ≤ 10 := by
          have := List.length_filter_le (fun i => x.testBit i) (List.range i)
          rw [List.length_range] at this; omega
        cases hb : x.testBit i with
        | true =>
          refine L.Ev.ifp rfl (L.Ev.ifp (by rw [L.cast_length]; omega) ?_)
          rw [hb, if_pos rfl, L.cast_append] at ih
          exact Ev.congr (fun k => by rw [L.w64n (by omega)]; rfl) ih
        | false =>
          refine L.Ev.ifn (by simp) ?_
          rw [hb, if_neg (by simp), List.append_nil] at ih
          exact Ev.congr (fun k => by rw [L.w64n (by omega)]) ih
  exact key 0 (by omega)
end Go.Proofs.YtbodhioladafnaaDoor.P

/-! ### PuSorted -/
/- Plain laws: sorting by insertion; two sorted lists with the same members, told as often, are one; in plain lists. -/
namespace Go.Proofs.YtbodhioladafnaaDoor.Srt
set_option linter.unusedVariables false
set_option linter.unusedSimpArgs false
/-- put in ahead of the first one that does not stand before. -/
def ins (f : Nat → Nat → Bool) (i : Nat) : List Nat → List Nat
  | [] => [i]
  | x :: xs => if f x i = true then x :: ins f i xs else i :: x :: xs
def insAll (f : Nat → Nat → Bool) (is : List Nat) (acc : List Nat) : List Nat := is.foldl (fun acc i => ins f i acc) acc
theorem ins_perm (f : Nat → Nat → Bool) (i : Nat) : ∀ l : List Nat, (ins f i l).Perm (i :: l)
  | [] => List.Perm.refl _
  | x :: xs => by
    unfold ins
    split
    · exact ((ins_perm f i xs).cons x).trans (List.Perm.swap i x xs)
    · exact List.Perm.refl _
theorem insAll_perm (f : Nat → Nat → Bool) : ∀ (is acc : List Nat), (insAll f is acc).Perm (is ++ acc)
  | [], acc => List.Perm.refl _
  | i :: is, acc => by
    unfold insAll
    rw [List.foldl_cons]
    have h := insAll_perm f is (ins f i acc)
    unfold insAll at h
    refine h.trans ?_
    refine (List.Perm.append_left is (ins_perm f i acc)).trans ?_
    exact List.perm_middle
theorem ins_length (f : Nat → Nat → Bool) (i : Nat) (l : List Nat) : (ins f i l).length = l.length + 1 := by rw [(ins_perm f i l).length_eq]; rfl
theorem mem_ins {f : Nat → Nat → Bool} {i x : Nat} {l : List Nat} : x ∈ ins f i l ↔ x = i ∨ x ∈ l := by rw [(ins_perm f i l).mem_iff, List.mem_cons]
theorem ins_sorted {f : Nat → Nat → Bool} {a : Nat → Nat} (hy : ∀ x i, f x i = true → a x ≤ a i) (hn : ∀ x i, ¬ f x i = true → a i ≤ a x) (i : Nat) :
    ∀ l : List Nat, l.Pairwise (fun x y => a x ≤ a y) → (ins f i l).Pairwise (fun x y => a x ≤ a y)
  | [], _ => List.pairwise_singleton ..
  | x :: xs, h => by
    obtain ⟨h1, h2⟩ := List.pairwise_cons.1 h
    unfold ins
    split
    · rename_i hc
      refine List.pairwise_cons.2 ⟨fun y hyy => ?_, ins_sorted hy hn i xs h2⟩
      rcases mem_ins.1 hyy with e | e
      · rw [e]; exact hy x i hc
      · exact h1 y e
    · rename_i hc
      refine List.pairwise_cons.2 ⟨fun y hyy => ?_, h⟩
      rcases List.mem_cons.1 hyy with e | e
      · rw [e]; exact hn x i hc
      · exact Nat.le_trans (hn x i hc) (h1 y e)
theorem insAll_sorted {f : Nat → Nat → Bool} {a : Nat → Nat} (hy : ∀ x i, f x i = true → a x ≤ a i) (hn : ∀ x i, ¬ f x i = true → a i ≤ a x) :
    ∀ (is acc : List Nat), acc.Pairwise (fun x y => a x ≤ a y) → (insAll f is acc).Pairwise (fun x y => a x ≤ a y)
  | [], acc, h => h
  | i :: is, acc, h => insAll_sorted hy hn is _ (ins_sorted hy hn i acc h)
theorem sorted_perm_eq : ∀ (a b : List Int), a.Pairwise (· ≤ ·) → b.Pairwise (· ≤ ·) → a.Perm b → a = b
  | [], b, _, _, h => (List.nil_perm.1 h).symm
  | x :: a, [], _, _, h => absurd h.length_eq (by simp)
  | x :: a, y :: b, ha, hb, h => by
    obtain ⟨ha1, ha2⟩ := List.pairwise_cons.1 ha
    obtain ⟨hb1, hb2⟩ := List.pairwise_cons.1 hb
    have e : x = y := by
      have h1 : x ≤ y := by
        rcases List.mem_cons.1 (h.mem_iff.2 (List.mem_cons_self ..) : y ∈ x :: a) with e | e
        · omega
        · exact ha1 y e
      have h2 : y ≤ x := by
        rcases List.mem_cons.1 (h.mem_iff.1 (List.mem_cons_self ..) : x ∈ y :: b) with e | e
        · omega
        · exact hb1 x e
      omega
    subst e
    rw [sorted_perm_eq a b ha2 hb2 (List.Perm.cons_inv h)]
/-- the place at which it is put in. -/
def insAt (f : Nat → Nat → Bool) (i : Nat) : List Nat → Nat
  | [] => 0
  | x :: xs => if f x i = true then insAt f i xs + 1 else 0
theorem ins_at (f : Nat → Nat → Bool) (i : Nat) : ∀ l : List Nat, ins f i l = l.take (insAt f i l) ++ i :: l.drop (insAt f i l)
  | [] => rfl
  | x :: xs => by
    unfold ins insAt
    split
    · rw [ins_at f i xs]; rfl
    · rfl
theorem insAt_le (f : Nat → Nat → Bool) (i : Nat) : ∀ l : List Nat, insAt f i l ≤ l.length
  | [] => Nat.le_refl _
  | x :: xs => by
    unfold insAt
    split
    · have := insAt_le f i xs; rw [List.length_cons]; omega
    · omega
theorem insAt_yes (f : Nat → Nat → Bool) (i : Nat) : ∀ (l : List Nat) (k : Nat) (hk : k < l.length), k < insAt f i l → f l[k] i = true
  | x :: xs, 0, hk, h => by
    unfold insAt at h
    split at h
    · assumption
    · omega
  | x :: xs, k + 1, hk, h => by
    unfold insAt at h
    split at h
    · exact insAt_yes f i xs k (by simpa using hk) (by omega)
    · omega
theorem insAt_no (f : Nat → Nat → Bool) (i : Nat) : ∀ (l : List Nat) (hk : insAt f i l < l.length), f (l[insAt f i l]'hk) i = false
  | x :: xs, hk => by
    by_cases hc : f x i = true
    · have e : insAt f i (x :: xs) = insAt f i xs + 1 := by rw [insAt, if_pos hc]
      have hk2 : insAt f i xs < xs.length := by rw [e] at hk; simpa using hk
      have := insAt_no f i xs hk2
      simpa [e] using this
    · have e : insAt f i (x :: xs) = 0 := by rw [insAt, if_neg hc]
      simpa [e] using hc
end Go.Proofs.YtbodhioladafnaaDoor.Srt

/-! ### PuTrace -/
/- Plain laws: the elements in the order of the trace list, in the reference; how many are in a set. -/
namespace Go.Proofs.YtbodhioladafnaaDoor.P
open Go.RowKit Go.Proofs.YtbodhioladafnaaDoorW.PrintWords Go.Proofs.YtbodhioladafnaaDoorW.PrintLast Go.Proofs.YtbodhioladafnaaDoorW.PrintMore L
set_option linter.unusedVariables false
set_option linter.unusedSimpArgs false
theorem isRel_relL {m : Nat} (hm : m ≤ 10) (is : Nat → Nat → Bool) : isRel (m : Int) (L.relL m is) = true := by
  refine (isRel_iff _ _).2 ⟨by omega, by omega, by rw [L.relL_length], fun x hx => ?_⟩
  rw [Int.toNat_natCast]
  obtain ⟨i, hi, e⟩ := List.mem_iff_getElem.1 hx
  rw [L.relL_length] at hi
  have e2 := L.rd_relL m is hi
  rw [L.rd_get (by rw [L.relL_length]; exact hi), e] at e2
  have := L.relRow_lt (is i) m
  rw [e2]
  refine ⟨by omega, ?_⟩
  have e3 : (2 : Int) ^ m = ((2 ^ m : Nat) : Int) := by norm_cast
  rw [e3]; omega
theorem rd_rel {m : Nat} {l : List Int} (h : isRel (m : Int) l = true) {i : Nat} (hi : i < m) : rd l (i : Int) = ((L.relRow (L.bitAt l i) m : Nat) : Int) := by
  have h2 := ((isRel_iff _ _).1 h)
  exact L.rd_okRel (by have := h2.2.2.1; omega) (by have := h2.2.1; omega) (by have := h2.2.2.2; rwa [Int.toNat_natCast] at this) hi
def bcN (l : List Int) (m i : Nat) : Nat := (membersN (belowN l m i)).length
def acN (l : List Int) (m i : Nat) : Nat := (membersN (L.relRow (L.bitAt l i) m)).length
def befB (l : List Int) (m x i : Nat) : Bool := if bcN l m x = bcN l m i then (if acN l m x = acN l m i then decide (x < i) else decide (acN l m i < acN l m x)) else decide (bcN l m x < bcN l m i)
theorem befB_yes (l : List Int) (m x i : Nat) (h : befB l m x i = true) : bcN l m x ≤ bcN l m i := by
  unfold befB at h
  split at h
  · omega
  · have := of_decide_eq_true h; omega
theorem befB_no (l : List Int) (m x i : Nat) (h : ¬ befB l m x i = true) : bcN l m i ≤ bcN l m x := by
  unfold befB at h
  split at h
  · omega
  · have : ¬ bcN l m x < bcN l m i := fun hh => h (decide_eq_true hh)
    omega
theorem seMany_ev (x : Nat) (hx : x < 1024) : Ev (fun k => spec_seMany.f k (x : Int)) (((membersN x).length : Nat) : Int) := by
  unfold spec_seMany.f
  refine Ev.bind (orList_ev x hx) ?_
  rw [L.cast_length]; exact Ev.now _
theorem rel_two {m : Nat} {l : List Int} (h : isRel (m : Int) l = true) : l.length = m ∧ m ≤ 10 := by
  have h2 := ((isRel_iff _ _).1 h); omega
theorem seBefore_ev {m : Nat} {l : List Int} (h : isRel (m : Int) l = true) {x i : Nat} (hx : x < m) (hi : i < m) : Ev (fun k => spec_seBefore.f k (m : Int) l (x : Int) (i : Int)) (befB l m x i) := by
  obtain ⟨h1, h2⟩ := rel_two h
  unfold spec_seBefore.f befB
  have b1 : belowN l m x < 1024 := relRow_lt10 _ h2
  have b2 : belowN l m i < 1024 := relRow_lt10 _ h2
  have b3 : L.relRow (L.bitAt l x) m < 1024 := relRow_lt10 _ h2
  have b4 : L.relRow (L.bitAt l i) m < 1024 := relRow_lt10 _ h2
  rw [rd_rel h hx, rd_rel h hi]
  refine Ev.bind (orBelow_ev h x (by omega)) (Ev.bind (seMany_ev _ b1) (Ev.bind (orBelow_ev h i (by omega)) (Ev.bind (seMany_ev _ b2) (L.Ev.ifp (by omega) (L.Ev.ifp (by omega) (Ev.bind (seMany_ev _ b3) (L.Ev.ifp (by omega) (L.Ev.ifp (by omega) (Ev.bind (seMany_ev _ b4) ?_)))))))))
  show Ev (fun _ => if ((bcN l m x : Nat) : Int) = ((bcN l m i : Nat) : Int) then (if ((acN l m x : Nat) : Int) = ((acN l m i : Nat) : Int) then some (decide ((x : Int) < (i : Int))) else some (decide (((acN l m x : Nat) : Int) > ((acN l m i : Nat) : Int)))) else some (decide (((bcN l m x : Nat) : Int) < ((bcN l m i : Nat) : Int)))) _
  by_cases e1 : bcN l m x = bcN l m i
  · refine L.Ev.ifp (by omega) ?_
    rw [if_pos e1]
    by_cases e2 : acN l m x = acN l m i
    · refine L.Ev.ifp (by omega) ?_
      rw [if_pos e2, show decide ((x : Int) < (i : Int)) = decide (x < i) from decide_eq_decide.2 (by omega)]
      exact Ev.now _
    · refine L.Ev.ifn (by omega) ?_
      rw [if_neg e2, show decide (((acN l m x : Nat) : Int) > ((acN l m i : Nat) : Int)) = decide (acN l m i < acN l m x) from decide_eq_decide.2 (by omega)]
      exact Ev.now _
  · refine L.Ev.ifn (by omega) ?_
    rw [if_neg e1, show decide (((bcN l m x : Nat) : Int) < ((bcN l m i : Nat) : Int)) = decide (bcN l m x < bcN l m i) from decide_eq_decide.2 (by omega)]
    exact Ev.now _
theorem own_ev (l : List Int) (hl : l.length ≤ 1048576) : spec_l1Own.f l = some l := by
  unfold spec_l1Own.f
  simp only [Option.bind_some, List.nil_append, List.length_nil, Nat.zero_add]
  rw [if_pos (by omega)]
theorem seTrace_ev {m : Nat} {l : List Int} (h : isRel (m : Int) l = true) : Ev (fun k => spec_seTrace.f k (m : Int) l) (L.cast (Srt.insAll (befB l m) (List.range m) [])) := by
  obtain ⟨h1, h2⟩ := rel_two h
  have key : ∀ i, i ≤ m → ∀ acc : List Nat, acc.length = i → (∀ x ∈ acc, x < m) → Ev (fun k => spec_seTrace.l0 k (L.cast acc) (i : Int) (m : Int) l) (L.cast (Srt.insAll (befB l m) ((List.range m).drop i) acc)) := by
    refine L.down ?_ fun i hi ih => ?_
    · intro acc ha hm
      refine L.Ev.succ ?_
      simp only [spec_seTrace.l0]
      rw [List.drop_eq_nil_of_le (by simp)]
      exact L.Ev.ifn (by omega) (Ev.now _)
    · intro acc ha hm
      have e0 : (List.range m).drop i = i :: (List.range m).drop (i + 1) := by rw [List.drop_eq_getElem_cons (by simpa using hi), List.getElem_range]
      rw [e0]
      have next := ih (Srt.ins (befB l m) i acc) (by rw [Srt.ins_length]; omega) (fun x hx => by
        rcases Srt.mem_ins.1 hx with e | e
        · omega
        · exact hm x e)
      have hle := Srt.insAt_le (befB l m) i acc
      have fin : ∀ at_ : Nat, at_ = Srt.insAt (befB l m) i acc → (L.cast acc).take at_ ++ [(i : Int)] ++ (L.cast acc).drop at_ = L.cast (Srt.ins (befB l m) i acc) := by
        rintro _ rfl
        rw [Srt.ins_at]
        simp [L.cast, List.map_take, List.map_drop]
      have inner : ∀ k, k ≤ Srt.insAt (befB l m) i acc → Ev (fun f => spec_seTrace.l1 f (L.cast acc) (i : Int) (k : Int) (m : Int) l) (L.cast (Srt.insAll (befB l m) ((List.range m).drop (i + 1)) (Srt.ins (befB l m) i acc))) := by
        refine L.down ?_ fun k hk ihk => ?_
        · generalize hat : Srt.insAt (befB l m) i acc = at_ at hle
          have hf := fin at_ hat.symm
          have ht : ((L.cast acc).take at_).length ≤ 1048576 := by rw [List.length_take, L.cast_length]; omega
          refine L.Ev.succ ?_
          simp only [spec_seTrace.l1]
          rw [Int.toNat_natCast, L.w64n (n := i) (by omega)]
          have tail : Ev (fun f => (spec_l1Own.f ((L.cast acc).take at_)).bind fun t => if t.length < 17592186044416 then ((some (t ++ [(i : Int)] : List Int)).bind fun y => ((some ((L.cast acc).drop at_ : List Int)).bind fun z => (if y.length + z.length < 17592186044416 then (spec_seTrace.l0 f (y ++ z) ((i + 1 : Nat) : Int) (m : Int) l) else (none)))) else (none)) (L.cast (Srt.insAll (befB l m) ((List.range m).drop (i + 1)) (Srt.ins (befB l m) i acc))) := by
            refine L.Ev.bindc (own_ev _ ht) (L.Ev.ifp (by omega) (L.Ev.bindc rfl (L.Ev.bindc rfl (L.Ev.ifp (by simp only [List.length_append, List.length_take, List.length_drop, L.cast_length, List.length_cons, List.length_nil]; omega) ?_))))
            rw [hf]
            exact next
          by_cases hlt : at_ < acc.length
          · have hx := hm acc[at_] (List.getElem_mem hlt)
            have hno := Srt.insAt_no (befB l m) i acc (by rw [hat]; exact hlt)
            simp only [hat] at hno
            have e1 : rd (L.cast acc) (at_ : Int) = ((acc[at_] : Nat) : Int) := by rw [L.rd_cast, List.getD_eq_getElem?_getD, List.getElem?_eq_getElem hlt]; rfl
            rw [e1]
            refine L.Ev.ifp (by rw [L.cast_length]; omega) (L.Ev.ifp (by omega) (Ev.bind (seBefore_ev h hx hi) (L.Ev.ifn (by rw [hno]; simp) (L.Ev.ifp (by rw [L.cast_length]; omega) tail))))
          · exact L.Ev.ifn (by rw [L.cast_length]; omega) (L.Ev.ifp (by omega) (L.Ev.ifp (by rw [L.cast_length]; omega) tail))
        · have hlt : k < acc.length := by omega
          have hx := hm acc[k] (List.getElem_mem hlt)
          have hyes := Srt.insAt_yes (befB l m) i acc k hlt hk
          have e1 : rd (L.cast acc) (k : Int) = ((acc[k] : Nat) : Int) := by rw [L.rd_cast, List.getD_eq_getElem?_getD, List.getElem?_eq_getElem hlt]; rfl
          refine L.Ev.succ ?_
          simp only [spec_seTrace.l1]
          rw [e1, L.w64n (n := k) (by omega)]
          exact L.Ev.ifp (by rw [L.cast_length]; omega) (L.Ev.ifp (by omega) (Ev.bind (seBefore_ev h hx hi) (L.Ev.ifp hyes ihk)))
      refine L.Ev.succ ?_
      simp only [spec_seTrace.l0]
      exact L.Ev.ifp (by omega) (inner 0 (by omega))
  unfold spec_seTrace.f
  have := key 0 (by omega) [] rfl (by simp)
  rw [List.drop_zero] at this
  exact this
end Go.Proofs.YtbodhioladafnaaDoor.P

/-! ### PuTraceI -/
/- Plain laws: sorting in place by insertion comes to the reference's insertion. -/
namespace Go.Proofs.YtbodhioladafnaaDoor.P
open Go.RowKit Go.Proofs.YtbodhioladafnaaDoorW.PrintWords Go.Proofs.YtbodhioladafnaaDoorW.PrintLast Go.Proofs.YtbodhioladafnaaDoorW.PrintMore L
set_option linter.unusedVariables false
set_option linter.unusedSimpArgs false
/-! ### plain lists -/
theorem ins_pw {f : Nat → Nat → Bool} (tr : ∀ x y z, f x y = true → f y z = true → f x z = true) (i : Nat) :
    ∀ l : List Nat, (∀ x ∈ l, ¬ f x i = true → f i x = true) → l.Pairwise (fun x y => f x y = true) → (Srt.ins f i l).Pairwise (fun x y => f x y = true)
  | [], _, _ => List.pairwise_singleton ..
  | x :: xs, ht, h => by
    obtain ⟨h1, h2⟩ := List.pairwise_cons.1 h
    unfold Srt.ins
    split
    · rename_i hc
      refine List.pairwise_cons.2 ⟨fun y hyy => ?_, ins_pw tr i xs (fun y hy => ht y (List.mem_cons_of_mem _ hy)) h2⟩
      rcases Srt.mem_ins.1 hyy with e | e
      · rw [e]; exact hc
      · exact h1 y e
    · rename_i hc
      have hix := ht x List.mem_cons_self hc
      refine List.pairwise_cons.2 ⟨fun y hyy => ?_, h⟩
      rcases List.mem_cons.1 hyy with e | e
      · rw [e]; exact hix
      · exact tr i x y hix (h1 y e)
def insR (f : Nat → Nat → Bool) (i : Nat) : List Nat := Srt.insAll f (List.range i) []
theorem insR_succ (f : Nat → Nat → Bool) (i : Nat) : insR f (i + 1) = Srt.ins f i (insR f i) := by
  unfold insR Srt.insAll; rw [List.range_succ, List.foldl_append]; rfl
theorem insR_length (f : Nat → Nat → Bool) (i : Nat) : (insR f i).length = i := by
  unfold insR; rw [(Srt.insAll_perm f (List.range i) []).length_eq]; simp
theorem insR_lt {f : Nat → Nat → Bool} {i x : Nat} (h : x ∈ insR f i) : x < i := by
  unfold insR at h; rw [(Srt.insAll_perm f (List.range i) []).mem_iff] at h; simpa using h
theorem insR_pw {f : Nat → Nat → Bool} (tr : ∀ x y z, f x y = true → f y z = true → f x z = true) (tot : ∀ x i, x < i → ¬ f x i = true → f i x = true) : ∀ i, (insR f i).Pairwise (fun x y => f x y = true)
  | 0 => List.Pairwise.nil
  | i + 1 => by
    rw [insR_succ]
    exact ins_pw tr i _ (fun x hx => tot x i (insR_lt hx)) (insR_pw tr tot i)
/-- behind the place the new one stands ahead of all. -/
theorem insAt_after {f : Nat → Nat → Bool} (tr : ∀ x y z, f x y = true → f y z = true → f x z = true) (i : Nat) (l : List Nat) (hp : l.Pairwise (fun x y => f x y = true)) (k : Nat) (hk : k < l.length) (h : Srt.insAt f i l ≤ k) : f l[k] i = false := by
  have hlt : Srt.insAt f i l < l.length := by omega
  have h0 := Srt.insAt_no f i l hlt
  by_cases e : Srt.insAt f i l = k
  · simp only [e] at h0; exact h0
  · have h1 := List.pairwise_iff_getElem.1 hp _ _ hlt hk (by omega)
    cases hc : f l[k] i with
    | false => rfl
    | true => rw [tr _ _ _ h1 hc] at h0; cases h0
theorem set_mid (s i : Nat) (R : List Nat) : ∀ T : List Nat, ((T ++ s :: i :: R).set (T.length + 1) s).set T.length i = T ++ i :: s :: R
  | [] => rfl
  | t :: T => by simp [set_mid s i R T]
theorem getD_mid (s : Nat) (R : List Nat) : ∀ T : List Nat, (T ++ s :: R).getD T.length 0 = s
  | [] => rfl
  | t :: T => by simp [getD_mid s R T]
theorem getD_mid1 (s i : Nat) (R : List Nat) (T : List Nat) : (T ++ s :: i :: R).getD (T.length + 1) 0 = i := by
  have := getD_mid i R (T ++ [s])
  rw [List.append_assoc, List.length_append] at this
  exact this
theorem cast_set (N : List Nat) (j v : Nat) : (L.cast N).set j (v : Int) = L.cast (N.set j v) := by unfold L.cast; rw [List.map_set]
/-- the row, when the new one stands at j. -/
def rowJ (S : List Nat) (i : Nat) (R : List Nat) (j : Nat) : List Nat := S.take j ++ i :: (S.drop j ++ R)
theorem rowJ_length (S : List Nat) (i : Nat) (R : List Nat) (j : Nat) : (rowJ S i R j).length = S.length + 1 + R.length := by
  unfold rowJ; simp only [List.length_append, List.length_take, List.length_cons, List.length_drop]; omega
theorem rowJ_parts (S : List Nat) (i : Nat) (R : List Nat) (j : Nat) (h : j < S.length) : ∃ T, T.length = j ∧ rowJ S i R (j + 1) = T ++ S[j] :: i :: (S.drop (j + 1) ++ R) ∧ rowJ S i R j = T ++ i :: S[j] :: (S.drop (j + 1) ++ R) := by
  refine ⟨S.take j, by rw [List.length_take]; omega, ?_, ?_⟩
  · unfold rowJ
    have e : S.take (j + 1) = S.take j ++ [S[j]] := by rw [List.take_add_one, List.getElem?_eq_getElem h]; rfl
    rw [e, List.append_assoc]; rfl
  · unfold rowJ
    rw [List.drop_eq_getElem_cons h]; rfl
theorem rowJ_get (S : List Nat) (i : Nat) (R : List Nat) (j : Nat) (h : j < S.length) : (rowJ S i R (j + 1)).getD (j + 1) 0 = i ∧ (rowJ S i R (j + 1)).getD j 0 = S[j] := by
  obtain ⟨T, hT, p1, p2⟩ := rowJ_parts S i R j h
  have q1 := getD_mid1 S[j] i (S.drop (j + 1) ++ R) T
  have q0 := getD_mid S[j] (i :: (S.drop (j + 1) ++ R)) T
  rw [hT] at q1 q0
  rw [p1]
  exact ⟨q1, q0⟩
section
variable {F_ : Int → Int → Int → Option Int} {f : Nat → Nat → Bool} {m : Nat} (hm : m ≤ 1000) (hF : ∀ i x : Nat, x < i → i < m → ∃ c : Int, F_ (i : Int) (x : Int) 0 = some c ∧ (c < 0 ↔ f x i = false))
  (tr : ∀ x y z, f x y = true → f y z = true → f x z = true) (tot : ∀ x i, x < i → ¬ f x i = true → f i x = true)
include hm hF tr tot
/-- one insertion. -/
theorem insert_ev (i : Nat) (hi : i < m) (R : List Nat) (hR : R.length + i + 1 = m) (Q : List Int) (hq : Ev (fun k => slices_insertionSortCmpFunc_int.l0 F_ k (L.cast (Srt.ins f i (insR f i) ++ R)) 0 (m : Int) 0 ((i + 1 : Nat) : Int)) Q) :
    Ev (fun k => slices_insertionSortCmpFunc_int.l1 F_ k (L.cast (rowJ (insR f i) i R i)) 0 (m : Int) 0 (i : Int) (i : Int)) Q := by
  have hl := insR_length f i
  have hpw := insR_pw tr tot i
  have hle := Srt.insAt_le f i (insR f i)
  have e0 : Srt.ins f i (insR f i) ++ R = rowJ (insR f i) i R (Srt.insAt f i (insR f i)) := by
    rw [Srt.ins_at]; unfold rowJ; simp
  rw [e0] at hq
  have key : ∀ d, Srt.insAt f i (insR f i) + d ≤ i → Ev (fun k => slices_insertionSortCmpFunc_int.l1 F_ k (L.cast (rowJ (insR f i) i R (Srt.insAt f i (insR f i) + d))) 0 (m : Int) 0 (i : Int) ((Srt.insAt f i (insR f i) + d : Nat) : Int)) Q := by
    intro d
    induction d with
    | zero =>
      intro _
      rw [Nat.add_zero]
      generalize hP : Srt.insAt f i (insR f i) = P at hle hq
      refine L.Ev.succ ?_
      simp only [slices_insertionSortCmpFunc_int.l1]
      cases P with
      | zero =>
        refine L.Ev.ifn (by omega) ?_
        exact Ev.congr (fun k => by rw [L.w64n (by omega)]) hq
      | succ p =>
        have hp : p < (insR f i).length := by omega
        obtain ⟨T, hT, p1, p2⟩ := rowJ_parts (insR f i) i R p hp
        have hlen : (L.cast (rowJ (insR f i) i R (p + 1))).length = m := by rw [L.cast_length, rowJ_length]; omega
        have w1 : wrap64 (((p + 1 : Nat) : Int) - 1) = (p : Int) := by rw [L.w64 (by omega) (by omega)]; omega
        have r1 : rd (L.cast (rowJ (insR f i) i R (p + 1))) ((p + 1 : Nat) : Int) = (i : Int) := by rw [L.rd_cast, (rowJ_get (insR f i) i R p hp).1]
        have r0 : rd (L.cast (rowJ (insR f i) i R (p + 1))) (p : Int) = (((insR f i)[p] : Nat) : Int) := by rw [L.rd_cast, (rowJ_get (insR f i) i R p hp).2]
        have hx : (insR f i)[p] < i := insR_lt (List.getElem_mem hp)
        obtain ⟨c, hc1, hc2⟩ := hF i (insR f i)[p] hx hi
        have hy := Srt.insAt_yes f i (insR f i) p hp (by omega)
        rw [w1, r1, r0]
        refine L.Ev.ifp (by omega) (L.Ev.ifp (by omega) (L.Ev.ifp (by omega) (L.Ev.ifp (by omega) (L.Ev.ifp (by omega) (L.Ev.bindc hc1 (L.Ev.ifn (by rw [hc2, hy]; simp) ?_))))))
        exact Ev.congr (fun k => by rw [L.w64n (by omega)]) hq
    | succ d ih =>
      intro hd
      have ih := ih (by omega)
      generalize hP : Srt.insAt f i (insR f i) = P at *
      have hp : P + d < (insR f i).length := by omega
      obtain ⟨T, hT, p1, p2⟩ := rowJ_parts (insR f i) i R (P + d) hp
      rw [show P + (d + 1) = P + d + 1 by omega]
      have hlen : (L.cast (rowJ (insR f i) i R (P + d + 1))).length = m := by rw [L.cast_length, rowJ_length]; omega
      have w1 : wrap64 (((P + d + 1 : Nat) : Int) - 1) = ((P + d : Nat) : Int) := by rw [L.w64 (by omega) (by omega)]; omega
      have r1 : rd (L.cast (rowJ (insR f i) i R (P + d + 1))) ((P + d + 1 : Nat) : Int) = (i : Int) := by rw [L.rd_cast, (rowJ_get (insR f i) i R (P + d) hp).1]
      have r0 : rd (L.cast (rowJ (insR f i) i R (P + d + 1))) ((P + d : Nat) : Int) = (((insR f i)[P + d] : Nat) : Int) := by rw [L.rd_cast, (rowJ_get (insR f i) i R (P + d) hp).2]
      have hx : (insR f i)[P + d] < i := insR_lt (List.getElem_mem hp)
      obtain ⟨c, hc1, hc2⟩ := hF i (insR f i)[P + d] hx hi
      have hy := insAt_after tr i (insR f i) hpw (P + d) hp (by omega)
      refine L.Ev.succ ?_
      simp only [slices_insertionSortCmpFunc_int.l1]
      rw [w1, r1, r0]
      refine L.Ev.ifp (by omega) (L.Ev.ifp (by omega) (L.Ev.ifp (by omega) (L.Ev.ifp (by omega) (L.Ev.ifp (by omega) (L.Ev.bindc hc1 (L.Ev.ifp (by rw [hc2, hy]) ?_))))))
      have e1 : ((L.cast (rowJ (insR f i) i R (P + d + 1))).set ((P + d + 1 : Nat) : Int).toNat (((insR f i)[P + d] : Nat) : Int)).set ((P + d : Nat) : Int).toNat (i : Int) = L.cast (rowJ (insR f i) i R (P + d)) := by
        rw [Int.toNat_natCast, Int.toNat_natCast, cast_set, cast_set, p1, p2]
        have := set_mid (insR f i)[P + d] i ((insR f i).drop (P + d + 1) ++ R) T
        rw [hT] at this
        rw [this]
      rw [e1]
      exact ih
  have := key (i - Srt.insAt f i (insR f i)) (by omega)
  rw [show Srt.insAt f i (insR f i) + (i - Srt.insAt f i (insR f i)) = i by omega] at this
  exact this
theorem insertion_ev : Ev (fun k => slices_insertionSortCmpFunc_int.f F_ k (L.cast (List.range m)) 0 (m : Int) 0) (L.cast (insR f m)) := by
  have row : ∀ i, i < m → rowJ (insR f i) i ((List.range m).drop (i + 1)) i = insR f i ++ (List.range m).drop i := by
    intro i hi
    unfold rowJ
    have hl := insR_length f i
    have e : (List.range m).drop i = i :: (List.range m).drop (i + 1) := by rw [List.drop_eq_getElem_cons (by simpa using hi), List.getElem_range]
    rw [e, List.take_of_length_le (by omega), List.drop_eq_nil_of_le (by omega), List.nil_append]
  have key : ∀ i, i ≤ m → 1 ≤ i → Ev (fun k => slices_insertionSortCmpFunc_int.l0 F_ k (L.cast (insR f i ++ (List.range m).drop i)) 0 (m : Int) 0 (i : Int)) (L.cast (insR f m)) := by
    refine L.down ?_ fun i hi ih => ?_
    · intro _
      refine L.Ev.succ ?_
      simp only [slices_insertionSortCmpFunc_int.l0]
      rw [List.drop_eq_nil_of_le (by simp), List.append_nil]
      exact L.Ev.ifn (by omega) (Ev.now _)
    · intro h1
      have ih := ih (by omega)
      rw [insR_succ] at ih
      have h := insert_ev hm hF tr tot i hi ((List.range m).drop (i + 1)) (by rw [List.length_drop, List.length_range]; omega) _ ih
      rw [row i hi] at h
      refine L.Ev.succ ?_
      simp only [slices_insertionSortCmpFunc_int.l0]
      exact L.Ev.ifp (by omega) h
  unfold slices_insertionSortCmpFunc_int.f
  have w1 : wrap64 (0 + 1) = ((1 : Nat) : Int) := L.w64n (n := 0) (by omega)
  rw [w1]
  by_cases h0 : m = 0
  · subst h0
    refine L.Ev.succ ?_
    simp only [slices_insertionSortCmpFunc_int.l0]
    exact L.Ev.ifn (by omega) (Ev.now _)
  · have h1 := key 1 (by omega) (by omega)
    have e1 : insR f 1 ++ (List.range m).drop 1 = List.range m := by
      have e2 : insR f 1 = [0] := rfl
      have e3 : List.range m = (List.range m).drop 0 := rfl
      rw [e2]
      conv => rhs; rw [e3, List.drop_eq_getElem_cons (by simp; omega), List.getElem_range]
      rfl
    rw [e1] at h1
    exact h1
end
/-! ### the comparison -/
theorem cmpOr_two (k : Nat) (a b : Int) : cmp_Or_int.f (k + 3) [a, b] = some (if a = 0 then b else a) := by
  have w1 : wrap64 (0 + 1) = 1 := L.w64 (by omega) (by omega)
  have w2 : wrap64 (1 + 1) = 2 := L.w64 (by omega) (by omega)
  have r0 : rd [a, b] 0 = a := rfl
  have r1 : rd [a, b] 1 = b := rfl
  unfold cmp_Or_int.f
  simp only [cmp_Or_int.l0, List.length_cons, List.length_nil]
  rw [r0, w1]
  rw [if_pos (by omega), if_pos (by omega), if_pos (by omega)]
  by_cases ha : a = 0
  · rw [if_pos ha, r1, w2, if_pos (by omega), if_pos (by omega), if_pos (by omega), if_pos ha]
    by_cases hb : b = 0
    · rw [if_pos hb, if_neg (by omega), hb]
    · rw [if_neg hb]
  · rw [if_neg ha, if_neg ha]
theorem traceFun_same (k : Nat) (h : 3 ≤ k) (a b : Int) (n1 : Int) (l1 : List Int) (n2 : Int) (l2 : List Int) : impl_TraceList_1.f k a b n1 l1 n2 l2 = impl_TraceList_1.f 3 a b n1 l1 n2 l2 := by
  obtain ⟨d, rfl⟩ := Nat.exists_eq_add_of_le h
  unfold impl_TraceList_1.f
  have e : ∀ x y : Int, cmp_Or_int.f (3 + d) [x, y] = cmp_Or_int.f 3 [x, y] := fun x y => by rw [Nat.add_comm, cmpOr_two, show (3 : Nat) = 0 + 3 from rfl, cmpOr_two]
  simp only [e]
set_option maxRecDepth 100000 in
theorem count_allT : ∀ x : Nat, x < 1024 → impl_count.f (x : Int) = some (((membersN x).length : Nat) : Int) := by decide +kernel
theorem befB_tr (l : List Int) (m : Nat) : ∀ x y z, befB l m x y = true → befB l m y z = true → befB l m x z = true := by
  intro x y z h1 h2
  unfold befB at *
  split at h1 <;> split at h2 <;> split <;> (try split at h1) <;> (try split at h2) <;> (try split) <;> simp only [decide_eq_true_eq] at * <;> omega
theorem befB_tot (l : List Int) (m : Nat) : ∀ x i, x < i → ¬ befB l m x i = true → befB l m i x = true := by
  intro x i hx h
  unfold befB at *
  split at h <;> split <;> (try split at h) <;> (try split) <;> simp only [decide_eq_true_eq] at * <;> omega
theorem traceFun_eq {m : Nat} {l : List Int} (h : isRel (m : Int) l = true) (i x : Nat) (hx : x < i) (hi : i < m) :
    ∃ c : Int, impl_TraceList_1.f 3 (i : Int) (x : Int) (m : Int) (L.relL m fun i j => L.bitAt l j i) (m : Int) l = some c ∧ (c < 0 ↔ befB l m x i = false) := by
  obtain ⟨h1, h2⟩ := rel_two h
  have b1 : belowN l m x < 1024 := relRow_lt10 _ h2
  have b2 : belowN l m i < 1024 := relRow_lt10 _ h2
  have b3 : L.relRow (L.bitAt l x) m < 1024 := relRow_lt10 _ h2
  have b4 : L.relRow (L.bitAt l i) m < 1024 := relRow_lt10 _ h2
  have q1 := membersN_length (belowN l m x)
  have q2 := membersN_length (belowN l m i)
  have q3 := membersN_length (L.relRow (L.bitAt l x) m)
  have q4 := membersN_length (L.relRow (L.bitAt l i) m)
  refine ⟨if (bcN l m i : Int) - (bcN l m x : Int) = 0 then (acN l m x : Int) - (acN l m i : Int) else (bcN l m i : Int) - (bcN l m x : Int), ?_, ?_⟩
  · unfold impl_TraceList_1.f
    rw [rd_mirror l hi, rd_mirror l (show x < m by omega), rd_rel h hi, rd_rel h (show x < m by omega), count_allT _ b1, count_allT _ b2, count_allT _ b3, count_allT _ b4]
    rw [if_pos (by omega), if_pos (by rw [L.relL_length]; omega)]
    simp only [Option.bind_some]
    rw [if_pos (by omega), if_pos (by rw [L.relL_length]; omega), if_pos (by omega), if_pos (by omega)]
    rw [show (3 : Nat) = 0 + 3 from rfl, cmpOr_two, L.w64 (by omega) (by omega), L.w64 (by omega) (by omega)]
    rfl
  · unfold befB
    by_cases e1 : bcN l m x = bcN l m i
    · rw [if_pos e1, if_pos (by omega)]
      by_cases e2 : acN l m x = acN l m i
      · rw [if_pos e2, decide_eq_true hx]; simp; omega
      · rw [if_neg e2, decide_eq_false_iff_not]; omega
    · rw [if_neg e1, if_neg (by omega), decide_eq_false_iff_not]; omega
theorem Ev.later {α : Type} {g g' : Nat → Option α} {r : α} (K : Nat) (h : ∀ k, K ≤ k → g k = g' k) (hg : Ev g' r) : Ev g r := by
  obtain ⟨K1, hK⟩ := hg
  exact ⟨max K K1, fun k hk => by rw [h k (by omega)]; exact hK k (by omega)⟩
theorem stable_ev {m : Nat} {l : List Int} (h : isRel (m : Int) l = true) :
    Ev (fun k => slices_SortStableFunc_int_int.f k (L.cast (List.range m)) (m : Int) (L.relL m fun i j => L.bitAt l j i) (m : Int) l) (L.cast (insR (befB l m) m)) := by
  obtain ⟨h1, h2⟩ := rel_two h
  have hc : (L.cast (List.range m)).length = m := by rw [L.cast_length, List.length_range]
  have hi := insertion_ev (F_ := fun i j _ => impl_TraceList_1.f 3 i j (m : Int) (L.relL m fun i j => L.bitAt l j i) (m : Int) l) (f := befB l m) (m := m) (by omega) (fun i x hx hi => traceFun_eq h i x hx hi) (befB_tr l m) (befB_tot l m)
  refine Ev.later 3 (fun k hk => ?_) hi
  unfold slices_SortStableFunc_int_int.f
  rw [if_pos (by omega), hc]
  congr 1
  funext i j _
  exact traceFun_same k hk i j _ _ _ _
theorem traceI_ev {m : Nat} {l : List Int} (h : isRel (m : Int) l = true) :
    Ev (fun k => impl_TraceList.l0 k ([] : List Int) (m : Int) 0 (m : Int) l (m : Int) (L.relL m fun i j => L.bitAt l j i)) (L.cast (insR (befB l m) m), true) := by
  obtain ⟨h1, h2⟩ := rel_two h
  have key : ∀ i, i ≤ m → Ev (fun k => impl_TraceList.l0 k (L.cast (List.range i)) (m : Int) (i : Int) (m : Int) l (m : Int) (L.relL m fun i j => L.bitAt l j i)) (L.cast (insR (befB l m) m), true) := by
    refine L.down ?_ fun i hi ih => ?_
    · refine L.Ev.succ ?_
      simp only [impl_TraceList.l0]
      exact L.Ev.ifn (by omega) (Ev.bind (stable_ev h) (Ev.now _))
    · refine L.Ev.succ ?_
      simp only [impl_TraceList.l0]
      have e : L.cast (List.range i) ++ [(i : Int)] = L.cast (List.range (i + 1)) := by rw [List.range_succ, L.cast_append]; rfl
      rw [e, L.w64n (by omega)]
      exact L.Ev.ifp (by omega) (L.Ev.ifp (by rw [L.cast_length, List.length_range]; omega) ih)
  exact key 0 (by omega)
end Go.Proofs.YtbodhioladafnaaDoor.P

/-! ### PuWithin -/
/- Plain laws: numbers between two numbers, in the program and in the reference. -/
namespace Go.Proofs.YtbodhioladafnaaDoor.P
open Go.RowKit Go.Proofs.YtbodhioladafnaaDoorW.PrintWords Go.Proofs.YtbodhioladafnaaDoorW.PrintLast Go.Proofs.YtbodhioladafnaaDoorW.PrintMore L
set_option linter.unusedVariables false
set_option linter.unusedSimpArgs false
theorem within_eq (a b c : Int) : impl_within.f a b c = some (decide (b ≤ a ∧ a ≤ c)) := by
  unfold impl_within.f
  by_cases h : a ≥ b
  · rw [if_pos h]; congr 1; simp; omega
  · rw [if_neg h]; congr 1; simp; omega
theorem l1In_eq (a b c : Int) : spec_l1In.f a b c = some (decide (b ≤ a ∧ a ≤ c)) := within_eq a b c
end Go.Proofs.YtbodhioladafnaaDoor.P

/-! ### PuRel -/
/- Plain laws: which lists are relations, for the program and the reference alike; conditions: the numbers are 64-bit numbers. -/
namespace Go.Proofs.YtbodhioladafnaaDoor.P
open Go.RowKit Go.Proofs.YtbodhioladafnaaDoorW.PrintWords Go.Proofs.YtbodhioladafnaaDoorW.PrintLast Go.Proofs.YtbodhioladafnaaDoorW.PrintMore L
set_option linter.unusedVariables false
set_option linter.unusedSimpArgs false
/-- all of a list lie between two numbers. -/
def allIn (l : List Int) (b c : Int) : Bool := l.all fun x => decide (b ≤ x ∧ x ≤ c)
theorem allIn_iff (l : List Int) (b c : Int) : allIn l b c = true ↔ ∀ x ∈ l, b ≤ x ∧ x ≤ c := by simp [allIn]
theorem allIn_step (l : List Int) (b c : Int) (i : Nat) (hi : i < l.length) : allIn (l.drop i) b c = (decide (b ≤ l[i] ∧ l[i] ≤ c) && allIn (l.drop (i + 1)) b c) := by
  unfold allIn; rw [List.drop_eq_getElem_cons hi, List.all_cons]
theorem allWithin_ev (l : List Int) (b c : Int) (hl : l.length ≤ 9223372036854775806) : Ev (fun k => impl_allWithin.f k l b c) (allIn l b c) := by
  have key : ∀ i, i ≤ l.length → Ev (fun k => impl_allWithin.l0 k b c l (l.length : Int) (i : Int)) (allIn (l.drop i) b c) := by
    refine L.down ?_ fun i hi ih => ?_
    · refine L.Ev.succ ?_
      simp only [impl_allWithin.l0]
      refine L.Ev.ifn (by omega) ?_
      rw [List.drop_eq_nil_of_le (Nat.le_refl _)]
      exact Ev.now _
    · refine L.Ev.succ ?_
      simp only [impl_allWithin.l0]
      refine L.Ev.ifp (by omega) (L.Ev.ifp (by omega) (L.Ev.ifp (by omega) (L.Ev.bindc (within_eq _ _ _) ?_)))
      rw [allIn_step l b c i hi, L.rd_get hi]
      by_cases h : b ≤ l[i] ∧ l[i] ≤ c
      · refine L.Ev.ifp (by simpa using h) ?_
        simp only [h, and_self, decide_true, Bool.true_and]
        exact Ev.congr (fun k => by rw [L.w64n (by omega)]) ih
      · refine L.Ev.ifn (by simpa using h) ?_
        simp only [h, decide_false, Bool.false_and]
        exact Ev.now _
  exact key 0 (by omega)
theorem l1All_same : ∀ k a b c d e, spec_l1All.l0 k a b c d e = impl_allWithin.l0 k a b c d e := by
  intro k
  induction k with
  | zero => intros; rfl
  | succ k ih => intro a b c d e; simp only [spec_l1All.l0, impl_allWithin.l0, ih, l1In_eq, within_eq]
theorem l1All_ev (l : List Int) (b c : Int) (hl : l.length ≤ 9223372036854775806) : Ev (fun k => spec_l1All.f k l b c) (allIn l b c) :=
  Ev.congr (fun k => l1All_same k b c l _ _) (allWithin_ev l b c hl)
theorem IsRelation_ev (n : Int) (l : List Int) (hl : l.length ≤ 9223372036854775806) : Ev (fun k => impl_IsRelation.f k n l) (isRel n l) := by
  unfold impl_IsRelation.f
  refine L.Ev.bindc (within_eq _ _ _) ?_
  by_cases h : 0 ≤ n ∧ n ≤ 10
  · refine L.Ev.ifp (by simpa using h) ?_
    by_cases h2 : (l.length : Int) = n
    · refine L.Ev.ifp h2 (L.Ev.ifp h.1 ?_)
      obtain ⟨m, rfl⟩ := Int.eq_ofNat_of_zero_le h.1
      have e : wrap64 (shl .i64 1 (m : Int) - 1) = 2 ^ m - 1 := by
        rw [L.shl_one (by omega)]
        have h1 : (2 : Nat) ^ m ≤ 2 ^ 10 := Nat.pow_le_pow_right (by decide) (by omega)
        have e3 : ((2 ^ m : Nat) : Int) = 2 ^ m := by push_cast; rfl
        rw [← e3]
        generalize (2 : Nat) ^ m = z at *
        rw [L.w64 (by omega) (by omega)]
      have e2 : isRel (m : Int) l = allIn l 0 (2 ^ m - 1) := by
        rw [Bool.eq_iff_iff, isRel_iff, allIn_iff, Int.toNat_natCast]
        constructor
        · rintro ⟨_, _, _, h4⟩ x hx
          have := h4 x hx
          omega
        · intro h4
          refine ⟨h.1, h.2, h2, fun x hx => ?_⟩
          have := h4 x hx
          omega
      refine Ev.congr (fun k => ?_) (Ev.bind (allWithin_ev l 0 (2 ^ m - 1) hl) (f := fun _ t => some t) (r := isRel (m : Int) l) (by rw [e2]; exact Ev.now _))
      rw [e]
    · refine L.Ev.ifn h2 ?_
      have e : isRel n l = false := by
        rw [← Bool.not_eq_true, isRel_iff]; rintro ⟨_, _, h3, _⟩; exact h2 h3
      rw [e]; exact Ev.now _
  · refine L.Ev.ifn (by simpa using h) ?_
    have e : isRel n l = false := by
      rw [← Bool.not_eq_true, isRel_iff]; rintro ⟨h3, h4, _⟩; exact h ⟨h3, h4⟩
    rw [e]; exact Ev.now _
theorem orRelation_ev (n : Int) (l : List Int) (hl : l.length ≤ 9223372036854775806) : Ev (fun k => spec_orRelation.f k n l) (isRel n l) := by
  refine Ev.congr (fun k => ?_) (IsRelation_ev n l hl)
  unfold spec_orRelation.f impl_IsRelation.f
  simp only [l1In_eq, within_eq]
  have e : ∀ b c, spec_l1All.f k l b c = impl_allWithin.f k l b c := fun b c => l1All_same k b c l _ _
  simp only [e]
end Go.Proofs.YtbodhioladafnaaDoor.P

/-! ### PuRel2 -/
/- Plain laws: relations, with what the program's and the reference's checks come to. -/

/-! ### PuMembers -/
/- Plain laws: the elements of a set, in the program; sets of numbers below ten. -/
namespace Go.Proofs.YtbodhioladafnaaDoor.P
open Go.RowKit Go.Proofs.YtbodhioladafnaaDoorW.PrintWords Go.Proofs.YtbodhioladafnaaDoorW.PrintLast Go.Proofs.YtbodhioladafnaaDoorW.PrintMore L
set_option linter.unusedVariables false
set_option linter.unusedSimpArgs false
theorem membersN_step : ∀ x : Nat, x < 1024 → x ≠ 0 → membersN x = Lib.ctz 64 x :: membersN (x &&& (x - 1)) ∧ x &&& (x - 1) < x := by decide +kernel
theorem membersLoop_ev : ∀ x : Nat, x < 1024 → ∀ acc : List Int, acc.length + 10 < 1048576 → Ev (fun k => impl_members.l0 k (x : Int) acc) (acc ++ L.cast (membersN x)) := by
  have key : ∀ n x : Nat, x < n → x < 1024 → ∀ acc : List Int, acc.length + (membersN x).length < 1048600 → Ev (fun k => impl_members.l0 k (x : Int) acc) (acc ++ L.cast (membersN x)) := by
    intro n
    induction n with
    | zero => intro x hx; omega
    | succ n ih =>
      intro x hx h10 acc hacc
      refine L.Ev.succ ?_
      simp only [impl_members.l0]
      by_cases h0 : x = 0
      · subst h0
        rw [membersN_zero]
        refine L.Ev.ifp (by omega) ?_
        have e : acc ++ L.cast [] = acc := by simp [L.cast]
        rw [e]; exact Ev.now _
      · obtain ⟨e1, e2⟩ := membersN_step x h10 h0
        refine L.Ev.ifn (by omega) (L.Ev.bindc (a := ((Lib.ctz 64 x : Nat) : Int)) ?_ (L.Ev.ifp (by omega) ?_))
        · rw [IntKind.wrap_u64]
          unfold bits_TrailingZeros.f
          rw [if_pos (by omega)]
          congr 3; omega
        · rw [L.w64 (by omega) (by omega), show ((x : Int) - 1) = ((x - 1 : Nat) : Int) by omega, L.and_nat (by omega) (by omega), e1]
          rw [e1, List.length_cons] at hacc
          have := ih (x &&& (x - 1)) (by omega) (by omega) (acc ++ [((Lib.ctz 64 x : Nat) : Int)]) (by rw [List.length_append, List.length_singleton]; omega)
          rw [List.append_assoc] at this
          exact this
  intro x hx acc hacc
  have := membersN_length x
  exact key (x + 1) x (by omega) hx acc (by omega)
theorem members_ev (x : Nat) (hx : x < 1024) : Ev (fun k => impl_members.f k (x : Int)) (L.cast (membersN x)) := by
  have := membersLoop_ev x hx [] (by simp)
  rw [List.nil_append] at this
  exact this
end Go.Proofs.YtbodhioladafnaaDoor.P

/-! ### PuOrd -/
/- Plain laws: which relations are orders, for the program and the reference alike. -/
namespace Go.Proofs.YtbodhioladafnaaDoor.P
open Go.RowKit Go.Proofs.YtbodhioladafnaaDoorW.PrintWords Go.Proofs.YtbodhioladafnaaDoorW.PrintLast Go.Proofs.YtbodhioladafnaaDoorW.PrintMore L
set_option linter.unusedVariables false
set_option linter.unusedSimpArgs false
def rowN (l : List Int) (m i : Nat) : Nat := L.relRow (L.bitAt l i) m
theorem rowN_lt (l : List Int) (m i : Nat) : rowN l m i < 2 ^ m := L.relRow_lt _ _
theorem rowN_bit (l : List Int) (m i j : Nat) : (rowN l m i).testBit j = (decide (j < m) && L.bitAt l i j) := L.relRow_testBit _ _ _
theorem rd_rowN {m : Nat} {l : List Int} (h : isRel (m : Int) l = true) {i : Nat} (hi : i < m) : rd l (i : Int) = ((rowN l m i : Nat) : Int) := by
  have h2 := ((isRel_iff _ _).1 h).2.2.2
  rw [Int.toNat_natCast] at h2
  exact L.rd_okRel (rel_len h).1 (by have := (rel_len h).2; omega) h2 hi
theorem rowN_lt10 (l : List Int) {m : Nat} (hm : m ≤ 10) (i : Nat) : rowN l m i < 1024 :=
  Nat.lt_of_lt_of_le (rowN_lt l m i) (Nat.pow_le_pow_right (n := 2) (by decide) hm)
def ordRow (l : List Int) (m i : Nat) : Bool := (membersN (rowN l m i)).all fun j => L.diff (rowN l m j) (rowN l m i) == 0
def ordAt (l : List Int) (m i : Nat) : Bool := !L.bitAt l i i && ordRow l m i
def ordB (l : List Int) (m : Nat) : Bool := (List.range m).all (ordAt l m)
def isOrd (n : Int) (l : List Int) : Bool := isRel n l && ordB l n.toNat
theorem range_drop_step (f : Nat → Bool) (n i : Nat) (hi : i < n) : ((List.range n).drop i).all f = (f i && ((List.range n).drop (i + 1)).all f) := by
  rw [List.drop_eq_getElem_cons (by simpa using hi), List.all_cons]; simp
theorem range_drop_end (f : Nat → Bool) (n : Nat) : ((List.range n).drop n).all f = true := by rw [List.drop_eq_nil_of_le (by simp)]; rfl
theorem IsOrderLoop_ev {m : Nat} {l : List Int} (h : isRel (m : Int) l = true) : Ev (fun k => impl_IsOrder.l0 k l (l.length : Int) 0 (m : Int) l) (ordB l m) := by
  obtain ⟨h1, h2⟩ := rel_len h
  have ok := isRel_ok h
  have k1 : ∀ i, i < m → Ev (fun k => impl_IsOrder.l0 k l (l.length : Int) ((i + 1 : Nat) : Int) (m : Int) l) (((List.range m).drop (i + 1)).all (ordAt l m)) →
      ∀ j, j ≤ (membersN (rowN l m i)).length → Ev (fun k => impl_IsOrder.l1 k ((rowN l m i : Nat) : Int) l (l.length : Int) (i : Int) (L.cast (membersN (rowN l m i))) ((L.cast (membersN (rowN l m i))).length : Int) (j : Int) (m : Int) l)
        (((membersN (rowN l m i)).drop j).all (fun j => L.diff (rowN l m j) (rowN l m i) == 0) && ((List.range m).drop (i + 1)).all (ordAt l m)) := by
    intro i hi hk
    have hl10 := membersN_length (rowN l m i)
    refine L.down ?_ fun j hj ih => ?_
    · refine L.Ev.succ ?_
      simp only [impl_IsOrder.l1]
      rw [List.drop_eq_nil_of_le (Nat.le_refl _), List.all_nil, Bool.true_and]
      refine L.Ev.ifn (by rw [L.cast_length]; omega) ?_
      rw [L.w64n (by omega)]; exact hk
    · refine L.Ev.succ ?_
      simp only [impl_IsOrder.l1]
      have hmem := mem_members_lt (rowN_lt l m i) (List.getElem_mem hj)
      have e : rd (L.cast (membersN (rowN l m i))) (j : Int) = (((membersN (rowN l m i))[j] : Nat) : Int) := by
        rw [L.rd_cast, List.getD_eq_getElem?_getD, List.getElem?_eq_getElem hj]; rfl
      rw [e, rd_rowN h hmem, L.andNot_nat (by have := rowN_lt10 l h2 (membersN (rowN l m i))[j]; omega) (by have := rowN_lt10 l h2 i; omega), List.drop_eq_getElem_cons hj, List.all_cons]
      refine L.Ev.ifp (by rw [L.cast_length]; omega) (L.Ev.ifp (by omega) (L.Ev.ifp (by rw [L.cast_length]; omega) (L.Ev.ifp (by omega) (L.Ev.ifp (by omega) ?_))))
      by_cases hd : L.diff (rowN l m (membersN (rowN l m i))[j]) (rowN l m i) = 0
      · refine L.Ev.ifp (by rw [hd]; rfl) ?_
        have e2 : (L.diff (rowN l m (membersN (rowN l m i))[j]) (rowN l m i) == 0) = true := by rw [hd]; rfl
        rw [e2, Bool.true_and]
        exact Ev.congr (fun k => by rw [L.w64n (by omega)]) ih
      · refine L.Ev.ifn (by omega) ?_
        have e2 : (L.diff (rowN l m (membersN (rowN l m i))[j]) (rowN l m i) == 0) = false := by simp [hd]
        rw [e2, Bool.false_and, Bool.false_and]
        exact Ev.now _
  have k0 : ∀ i, i ≤ m → Ev (fun k => impl_IsOrder.l0 k l (l.length : Int) (i : Int) (m : Int) l) (((List.range m).drop i).all (ordAt l m)) := by
    refine L.down ?_ fun i hi ih => ?_
    · refine L.Ev.succ ?_
      simp only [impl_IsOrder.l0]
      rw [range_drop_end]
      exact L.Ev.ifn (by omega) (Ev.now _)
    · refine L.Ev.succ ?_
      simp only [impl_IsOrder.l0]
      rw [range_drop_step _ _ _ hi]
      refine L.Ev.ifp (by omega) (L.Ev.ifp (by omega) (L.Ev.ifp (by omega) (L.Ev.bindc (impl_Order_better.tells ok i i (by omega) (by omega)) ?_)))
      unfold ordAt
      cases hb : L.bitAt l i i with
      | true => exact L.Ev.ifp rfl (by simp only [Bool.not_true, Bool.false_and]; exact Ev.now _)
      | false =>
        refine L.Ev.ifn (by simp) ?_
        rw [rd_rowN h hi]
        refine Ev.bind (members_ev _ (rowN_lt10 l h2 i)) ?_
        have := k1 i hi ih 0 (by omega)
        rw [List.drop_zero] at this
        simp only [Bool.not_false, Bool.true_and]
        exact this
  have := k0 0 (by omega)
  rw [List.drop_zero] at this
  exact this
theorem orGoodLoop_ev {m : Nat} {l : List Int} (h : isRel (m : Int) l = true) : Ev (fun k => spec_orGood.l0 k l (l.length : Int) 0 (m : Int) l) (ordB l m) := by
  obtain ⟨h1, h2⟩ := rel_len h
  have ok := isRel_ok h
  have k1 : ∀ i, i < m → Ev (fun k => spec_orGood.l0 k l (l.length : Int) ((i + 1 : Nat) : Int) (m : Int) l) (((List.range m).drop (i + 1)).all (ordAt l m)) →
      ∀ j, j ≤ (membersN (rowN l m i)).length → Ev (fun k => spec_orGood.l1 k ((rowN l m i : Nat) : Int) l (l.length : Int) (i : Int) (L.cast (membersN (rowN l m i))) ((L.cast (membersN (rowN l m i))).length : Int) (j : Int) (m : Int) l)
        (((membersN (rowN l m i)).drop j).all (fun j => L.diff (rowN l m j) (rowN l m i) == 0) && ((List.range m).drop (i + 1)).all (ordAt l m)) := by
    intro i hi hk
    have hl10 := membersN_length (rowN l m i)
    refine L.down ?_ fun j hj ih => ?_
    · refine L.Ev.succ ?_
      simp only [spec_orGood.l1]
      rw [List.drop_eq_nil_of_le (Nat.le_refl _), List.all_nil, Bool.true_and]
      refine L.Ev.ifn (by rw [L.cast_length]; omega) ?_
      rw [L.w64n (by omega)]; exact hk
    · refine L.Ev.succ ?_
      simp only [spec_orGood.l1]
      have hmem := mem_members_lt (rowN_lt l m i) (List.getElem_mem hj)
      have e : rd (L.cast (membersN (rowN l m i))) (j : Int) = (((membersN (rowN l m i))[j] : Nat) : Int) := by
        rw [L.rd_cast, List.getD_eq_getElem?_getD, List.getElem?_eq_getElem hj]; rfl
      rw [e, rd_rowN h hmem, L.andNot_nat (by have := rowN_lt10 l h2 (membersN (rowN l m i))[j]; omega) (by have := rowN_lt10 l h2 i; omega), List.drop_eq_getElem_cons hj, List.all_cons]
      refine L.Ev.ifp (by rw [L.cast_length]; omega) (L.Ev.ifp (by omega) (L.Ev.ifp (by rw [L.cast_length]; omega) (L.Ev.ifp (by omega) (L.Ev.ifp (by omega) ?_))))
      by_cases hd : L.diff (rowN l m (membersN (rowN l m i))[j]) (rowN l m i) = 0
      · refine L.Ev.ifp (by rw [hd]; rfl) ?_
        have e2 : (L.diff (rowN l m (membersN (rowN l m i))[j]) (rowN l m i) == 0) = true := by rw [hd]; rfl
        rw [e2, Bool.true_and]
        exact Ev.congr (fun k => by rw [L.w64n (by omega)]) ih
      · refine L.Ev.ifn (by omega) ?_
        have e2 : (L.diff (rowN l m (membersN (rowN l m i))[j]) (rowN l m i) == 0) = false := by simp [hd]
        rw [e2, Bool.false_and, Bool.false_and]
        exact Ev.now _
  have k0 : ∀ i, i ≤ m → Ev (fun k => spec_orGood.l0 k l (l.length : Int) (i : Int) (m : Int) l) (((List.range m).drop i).all (ordAt l m)) := by
    refine L.down ?_ fun i hi ih => ?_
    · refine L.Ev.succ ?_
      simp only [spec_orGood.l0]
      rw [range_drop_end]
      exact L.Ev.ifn (by omega) (Ev.now _)
    · refine L.Ev.succ ?_
      simp only [spec_orGood.l0]
      rw [range_drop_step _ _ _ hi]
      refine L.Ev.ifp (by omega) (L.Ev.ifp (by omega) (L.Ev.ifp (by omega) (L.Ev.bindc (orHas_eq ok i i (by omega)) ?_)))
      unfold ordAt
      cases hb : L.bitAt l i i with
      | true => exact L.Ev.ifp rfl (by simp only [Bool.not_true, Bool.false_and]; exact Ev.now _)
      | false =>
        refine L.Ev.ifn (by simp) ?_
        rw [rd_rowN h hi]
        refine Ev.bind (orList_ev _ (rowN_lt10 l h2 i)) ?_
        have := k1 i hi ih 0 (by omega)
        rw [List.drop_zero] at this
        simp only [Bool.not_false, Bool.true_and]
        exact this
  have := k0 0 (by omega)
  rw [List.drop_zero] at this
  exact this
theorem IsOrder_ev (n : Int) (l : List Int) (hl : l.length ≤ 1048576) : Ev (fun k => impl_IsOrder.f k n l) (isOrd n l) := by
  unfold impl_IsOrder.f isOrd
  refine Ev.bind (IsRelation_ev n l (by omega)) ?_
  cases h : isRel n l with
  | false => exact L.Ev.ifn (by simp) (by rw [Bool.false_and]; exact Ev.now _)
  | true =>
    obtain ⟨m, rfl, hm, hlm⟩ := isRel_nat h
    refine L.Ev.ifp rfl ?_
    rw [Bool.true_and, Int.toNat_natCast]
    exact IsOrderLoop_ev h
theorem orGood_ev (n : Int) (l : List Int) (hl : l.length ≤ 1048576) : Ev (fun k => spec_orGood.f k n l) (isOrd n l) := by
  unfold spec_orGood.f isOrd
  refine Ev.bind (orRelation_ev n l (by omega)) ?_
  cases h : isRel n l with
  | false => exact L.Ev.ifn (by simp) (by rw [Bool.false_and]; exact Ev.now _)
  | true =>
    obtain ⟨m, rfl, hm, hlm⟩ := isRel_nat h
    refine L.Ev.ifp rfl ?_
    rw [Bool.true_and, Int.toNat_natCast]
    exact orGoodLoop_ev h
theorem isOrd_rel {n : Int} {l : List Int} (h : isOrd n l = true) : isRel n l = true := by
  unfold isOrd at h; rw [Bool.and_eq_true] at h; exact h.1
end Go.Proofs.YtbodhioladafnaaDoor.P

/-! ### PuTrans -/
/- Plain laws: an order's relation is transitive and never of an element with itself. -/
namespace Go.Proofs.YtbodhioladafnaaDoor.P
open Go.RowKit Go.Proofs.YtbodhioladafnaaDoorW.PrintWords Go.Proofs.YtbodhioladafnaaDoorW.PrintLast Go.Proofs.YtbodhioladafnaaDoorW.PrintMore L
set_option linter.unusedVariables false
set_option linter.unusedSimpArgs false
theorem isOrd_ordB {m : Nat} {l : List Int} (h : isOrd (m : Int) l = true) : ordB l m = true := by
  unfold isOrd at h; rw [Bool.and_eq_true, Int.toNat_natCast] at h; exact h.2
theorem bit_lt {m : Nat} {l : List Int} (h : isRel (m : Int) l = true) {i j : Nat} (hb : L.bitAt l i j = true) : i < m ∧ j < m := by
  obtain ⟨h1, h2⟩ := rel_len h
  by_cases hi : i < m
  · refine ⟨hi, ?_⟩
    have e := rd_rowN h hi
    rw [L.rd_nat] at e
    unfold L.bitAt at hb
    rw [e, Int.toNat_natCast, rowN_bit] at hb
    simp at hb; exact hb.1
  · unfold L.bitAt at hb
    rw [List.getD_eq_getElem?_getD, List.getElem?_eq_none (by omega)] at hb
    simp at hb
theorem ord_irrefl {m : Nat} {l : List Int} (h : isOrd (m : Int) l = true) (i : Nat) : L.bitAt l i i = false := by
  cases hb : L.bitAt l i i with
  | false => rfl
  | true =>
    have hi := (bit_lt (isOrd_rel h) hb).1
    have ho := isOrd_ordB h
    unfold ordB at ho
    have := List.all_eq_true.1 ho i (List.mem_range.2 hi)
    unfold ordAt at this
    rw [hb] at this; simp at this
theorem ord_trans {m : Nat} {l : List Int} (h : isOrd (m : Int) l = true) {i j k : Nat} (h1 : L.bitAt l i j = true) (h2 : L.bitAt l j k = true) : L.bitAt l i k = true := by
  have hr := isOrd_rel h
  have hij := bit_lt hr h1
  have hjk := bit_lt hr h2
  have h10 := (rel_len hr).2
  have ho := isOrd_ordB h
  unfold ordB at ho
  have ha := List.all_eq_true.1 ho i (List.mem_range.2 hij.1)
  unfold ordAt at ha
  rw [Bool.and_eq_true] at ha
  have hb := List.all_eq_true.1 ha.2 j (mem_membersN.2 ⟨by omega, by rw [rowN_bit]; simp [hij.2, h1]⟩)
  rw [beq_iff_eq] at hb
  have hc : (L.diff (rowN l m j) (rowN l m i)).testBit k = false := by rw [hb]; simp
  rw [L.diff_testBit, rowN_bit, rowN_bit] at hc
  simp only [hjk.2, decide_true, Bool.true_and, h2] at hc
  simpa using hc
end Go.Proofs.YtbodhioladafnaaDoor.P

/-! ### PuFirst -/
/- Plain lemmas: the first number of a range for which something is found. -/
namespace Go.Proofs.YtbodhioladafnaaDoor.L
set_option linter.unusedVariables false
set_option linter.unusedSimpArgs false
theorem fs_step {α : Type} (p : Nat → Option α) (m i : Nat) (hi : i < m) : ((List.range m).drop i).findSome? p = (p i).or (((List.range m).drop (i + 1)).findSome? p) := by
  rw [List.drop_eq_getElem_cons (by simpa using hi), List.findSome?_cons]
  simp only [List.getElem_range]
  cases p i <;> rfl
theorem fs_end {α : Type} (p : Nat → Option α) (m : Nat) : ((List.range m).drop m).findSome? p = none := by
  rw [List.drop_eq_nil_of_le (by simp)]; rfl
theorem fs_begin {α : Type} (p : Nat → Option α) (m : Nat) : ((List.range m).drop 0).findSome? p = (List.range m).findSome? p := rfl
end Go.Proofs.YtbodhioladafnaaDoor.L

/-! ### PuQuad -/
/- Plain lemmas: four elements as a list. -/
namespace Go.Proofs.YtbodhioladafnaaDoor.P
open Go.RowKit L
set_option linter.unusedVariables false
set_option linter.unusedSimpArgs false
abbrev Quad := Nat × Nat × Nat × Nat
def quadL : Option Quad → List Int
  | none => []
  | some (a, b, c, d) => [(a : Int), (b : Int), (c : Int), (d : Int)]
theorem quadL_empty (q : Option Quad) : (quadL q).isEmpty = !q.isSome := by
  cases q with
  | none => rfl
  | some q => rfl
theorem quadL_length (q : Option Quad) : (quadL q).length ≤ 4 := by
  cases q with
  | none => simp [quadL]
  | some q => simp [quadL]
end Go.Proofs.YtbodhioladafnaaDoor.P

/-! ### PuTwoTwo -/
/- Plain laws: the first four elements that refuse an order, in the program. -/
namespace Go.Proofs.YtbodhioladafnaaDoor.P
open Go.RowKit Go.Proofs.YtbodhioladafnaaDoorW.PrintWords Go.Proofs.YtbodhioladafnaaDoorW.PrintLast Go.Proofs.YtbodhioladafnaaDoorW.PrintMore L
set_option linter.unusedVariables false
set_option linter.unusedSimpArgs false
def refuses (l : List Int) (a b c d : Nat) : Bool := L.bitAt l a b && L.bitAt l c d && !L.bitAt l c b && !L.bitAt l a d
def tt3 (l : List Int) (a b c d : Nat) : Option Quad := if refuses l a b c d then some (a, b, c, d) else none
def tt2 (l : List Int) (m a b c : Nat) : Option Quad := (List.range m).findSome? (tt3 l a b c)
def tt1 (l : List Int) (m a b : Nat) : Option Quad := (List.range m).findSome? (tt2 l m a b)
def tt0 (l : List Int) (m a : Nat) : Option Quad := (List.range m).findSome? (tt1 l m a)
def twoTwoN (l : List Int) (m : Nat) : Option Quad := (List.range m).findSome? (tt0 l m)
theorem twoTwo_ev {m : Nat} {l : List Int} (h : isRel (m : Int) l = true) : Ev (fun k => impl_Order_twoTwo.f k (m : Int) l) (quadL (twoTwoN l m)) := by
  obtain ⟨m', hm', hm, hlm⟩ := isRel_nat h
  have ok := isRel_ok h
  have k3 : ∀ a, a < m → ∀ b, b < m → ∀ c, c < m → ∀ q : Option Quad, Ev (fun k => impl_Order_twoTwo.l2 k (a : Int) (b : Int) (m : Int) (a : Int) (m : Int) (b : Int) (m : Int) ((c + 1 : Nat) : Int) (m : Int) l) (quadL q) →
      ∀ d, d ≤ m → Ev (fun k => impl_Order_twoTwo.l3 k (a : Int) (b : Int) (c : Int) (m : Int) (a : Int) (m : Int) (b : Int) (m : Int) (c : Int) (m : Int) (d : Int) (m : Int) l) (quadL ((((List.range m).drop d).findSome? (tt3 l a b c)).or q)) := by
    intro a ha b hb c hc q hk
    refine L.down ?_ fun d hd ih => ?_
    · refine L.Ev.succ ?_
      simp only [impl_Order_twoTwo.l3]
      rw [L.fs_end, Option.none_or]
      refine L.Ev.ifn (by omega) ?_
      rw [L.w64n (by omega)]; exact hk
    · refine L.Ev.succ ?_
      simp only [impl_Order_twoTwo.l3]
      rw [L.fs_step _ _ _ hd]
      refine L.Ev.ifp (by omega) (L.Ev.bindc (impl_Order_better.tells ok a b (by omega) (by omega)) ?_)
      rw [L.w64n (n := d) (by omega)]
      cases h1 : L.bitAt l a b with
      | false => refine L.Ev.ifn (by simp) ?_; have e : tt3 l a b c d = none := (by unfold tt3 refuses; simp [h1]); rw [e, Option.none_or]; exact ih
      | true =>
        refine L.Ev.ifp rfl (L.Ev.bindc (impl_Order_better.tells ok c d (by omega) (by omega)) ?_)
        cases h2 : L.bitAt l c d with
        | false => refine L.Ev.ifn (by simp) ?_; have e : tt3 l a b c d = none := (by unfold tt3 refuses; simp [h1, h2]); rw [e, Option.none_or]; exact ih
        | true =>
          refine L.Ev.ifp rfl (L.Ev.bindc (impl_Order_better.tells ok c b (by omega) (by omega)) ?_)
          cases h3 : L.bitAt l c b with
          | true => refine L.Ev.ifp rfl ?_; have e : tt3 l a b c d = none := (by unfold tt3 refuses; simp [h1, h2, h3]); rw [e, Option.none_or]; exact ih
          | false =>
            refine L.Ev.ifn (by simp) (L.Ev.bindc (impl_Order_better.tells ok a d (by omega) (by omega)) ?_)
            cases h4 : L.bitAt l a d with
            | true => refine L.Ev.ifp rfl ?_; have e : tt3 l a b c d = none := (by unfold tt3 refuses; simp [h1, h2, h3, h4]); rw [e, Option.none_or]; exact ih
            | false => refine L.Ev.ifn (by simp) ?_; have e : tt3 l a b c d = some (a, b, c, d) := (by unfold tt3 refuses; simp [h1, h2, h3, h4]); rw [e, Option.some_or]; exact Ev.now _
  have k2 : ∀ a, a < m → ∀ b, b < m → ∀ q : Option Quad, Ev (fun k => impl_Order_twoTwo.l1 k (a : Int) (m : Int) (a : Int) (m : Int) ((b + 1 : Nat) : Int) (m : Int) l) (quadL q) →
      ∀ c, c ≤ m → Ev (fun k => impl_Order_twoTwo.l2 k (a : Int) (b : Int) (m : Int) (a : Int) (m : Int) (b : Int) (m : Int) (c : Int) (m : Int) l) (quadL ((((List.range m).drop c).findSome? (tt2 l m a b)).or q)) := by
    intro a ha b hb q hk
    refine L.down ?_ fun c hc ih => ?_
    · refine L.Ev.succ ?_
      simp only [impl_Order_twoTwo.l2]
      rw [L.fs_end, Option.none_or]
      refine L.Ev.ifn (by omega) ?_
      rw [L.w64n (by omega)]; exact hk
    · refine L.Ev.succ ?_
      simp only [impl_Order_twoTwo.l2]
      rw [L.fs_step _ _ _ hc, Option.or_assoc]
      exact L.Ev.ifp (by omega) (k3 a ha b hb c hc _ ih 0 (by omega))
  have k1 : ∀ a, a < m → ∀ q : Option Quad, Ev (fun k => impl_Order_twoTwo.l0 k (m : Int) ((a + 1 : Nat) : Int) (m : Int) l) (quadL q) →
      ∀ b, b ≤ m → Ev (fun k => impl_Order_twoTwo.l1 k (a : Int) (m : Int) (a : Int) (m : Int) (b : Int) (m : Int) l) (quadL ((((List.range m).drop b).findSome? (tt1 l m a)).or q)) := by
    intro a ha q hk
    refine L.down ?_ fun b hb ih => ?_
    · refine L.Ev.succ ?_
      simp only [impl_Order_twoTwo.l1]
      rw [L.fs_end, Option.none_or]
      refine L.Ev.ifn (by omega) ?_
      rw [L.w64n (by omega)]; exact hk
    · refine L.Ev.succ ?_
      simp only [impl_Order_twoTwo.l1]
      rw [L.fs_step _ _ _ hb, Option.or_assoc]
      exact L.Ev.ifp (by omega) (k2 a ha b hb _ ih 0 (by omega))
  have k0 : ∀ a, a ≤ m → Ev (fun k => impl_Order_twoTwo.l0 k (m : Int) (a : Int) (m : Int) l) (quadL (((List.range m).drop a).findSome? (tt0 l m))) := by
    refine L.down ?_ fun a ha ih => ?_
    · refine L.Ev.succ ?_
      simp only [impl_Order_twoTwo.l0]
      rw [L.fs_end]
      exact L.Ev.ifn (by omega) (Ev.now _)
    · refine L.Ev.succ ?_
      simp only [impl_Order_twoTwo.l0]
      rw [L.fs_step _ _ _ ha]
      exact L.Ev.ifp (by omega) (k1 a ha _ ih 0 (by omega))
  exact k0 0 (by omega)
end Go.Proofs.YtbodhioladafnaaDoor.P

/-! ### PuInterval -/
/- Plain laws: interval orders, in the program. -/
namespace Go.Proofs.YtbodhioladafnaaDoor.P
open Go.RowKit Go.Proofs.YtbodhioladafnaaDoorW.PrintWords Go.Proofs.YtbodhioladafnaaDoorW.PrintLast Go.Proofs.YtbodhioladafnaaDoorW.PrintMore L
set_option linter.unusedVariables false
set_option linter.unusedSimpArgs false
def isIvOrd (n : Int) (l : List Int) : Bool := isOrd n l && !(twoTwoN l n.toNat).isSome
theorem isInterval_ev (n : Int) (l : List Int) (hl : l.length ≤ 1048576) : Ev (fun k => impl_isInterval.f k n l) (isIvOrd n l) := by
  unfold impl_isInterval.f isIvOrd
  cases h : isOrd n l with
  | false => exact Ev.bind (IsOrder_ev n l hl) (L.Ev.ifn (by simp [h]) (by rw [Bool.false_and]; exact Ev.now _))
  | true =>
    have hr := isOrd_rel h
    obtain ⟨m, rfl, hm, hlm⟩ := isRel_nat hr
    refine Ev.bind (IsOrder_ev _ l hl) (L.Ev.ifp h (Ev.bind (twoTwo_ev hr) ?_))
    rw [quadL_empty, Bool.true_and, Int.toNat_natCast]; exact Ev.now _
theorem isIvOrd_ord {n : Int} {l : List Int} (h : isIvOrd n l = true) : isOrd n l = true := by
  unfold isIvOrd at h; rw [Bool.and_eq_true] at h; exact h.1
end Go.Proofs.YtbodhioladafnaaDoor.P

/-! ### PuFree0 -/
/- Plain laws: the set of those that are indifferent to an element, in the reference. -/
namespace Go.Proofs.YtbodhioladafnaaDoor.P
open Go.RowKit Go.Proofs.YtbodhioladafnaaDoorW.PrintWords Go.Proofs.YtbodhioladafnaaDoorW.PrintLast Go.Proofs.YtbodhioladafnaaDoorW.PrintMore L
set_option linter.unusedVariables false
set_option linter.unusedSimpArgs false
theorem isRel_len {m : Nat} {l : List Int} (h : isRel (m : Int) l = true) : l.length = m ∧ m ≤ 10 := by
  obtain ⟨m', hm', hm, hlm⟩ := isRel_nat h
  omega
theorem isRel_rows {m : Nat} {l : List Int} (h : isRel (m : Int) l = true) : ∀ x ∈ l, 0 ≤ x ∧ x < 2 ^ m := by
  have := ((isRel_iff _ _).1 h).2.2.2
  rwa [Int.toNat_natCast] at this
theorem rd_isRel {m : Nat} {l : List Int} (h : isRel (m : Int) l = true) {i : Nat} (hi : i < m) : rd l (i : Int) = ((L.relRow (L.bitAt l i) m : Nat) : Int) :=
  L.rd_okRel (isRel_len h).1 (by have := (isRel_len h).2; omega) (isRel_rows h) hi
/-- a relation that came in has no bits beyond its size. -/
theorem bitAt_out {m : Nat} {l : List Int} (h : isRel (m : Int) l = true) {i j : Nat} (hij : m ≤ i ∨ m ≤ j) : L.bitAt l i j = false := by
  obtain ⟨h1, h2⟩ := isRel_len h
  by_cases hi : i < m
  · have e := rd_isRel h hi
    rw [L.rd_nat] at e
    unfold L.bitAt
    rw [e, Int.toNat_natCast, L.relRow_testBit]
    simp [show ¬ j < m by omega]
  · unfold L.bitAt
    rw [List.getD_eq_getElem?_getD, List.getElem?_eq_none (by omega)]
    simp
theorem belowN_lt10 (l : List Int) {m : Nat} (hm : m ≤ 10) (i : Nat) : belowN l m i < 1024 := relRow_lt10 _ hm
/-- the set of those that are indifferent to an element. -/
def freeN (l : List Int) (m i : Nat) : Nat := L.relRow (fun j => !L.bitAt l i j && !L.bitAt l j i && !decide (j = i)) m
theorem freeN_bit (l : List Int) (m i j : Nat) : (freeN l m i).testBit j = (decide (j < m) && (!L.bitAt l i j && !L.bitAt l j i && !decide (j = i))) := L.relRow_testBit _ _ _
theorem free_spec (l : List Int) (m i : Nat) : L.diff (allN m) (L.relRow (L.bitAt l i) m ||| belowN l m i ||| 2 ^ i) = freeN l m i := by
  refine Nat.eq_of_testBit_eq fun j => ?_
  rw [L.diff_testBit, Nat.testBit_or, Nat.testBit_or, allN_bit, L.relRow_testBit, belowN_bit, Nat.testBit_two_pow, freeN_bit]
  by_cases hj : j < m
  · by_cases hij : i = j
    · subst hij; simp
    · simp [hj, hij, show ¬ j = i from fun h => hij h.symm]
  · simp [hj]
theorem free_impl (l : List Int) (m i : Nat) : L.diff (L.diff (L.diff (allN m) (L.relRow (L.bitAt l i) m)) (belowN l m i)) (2 ^ i) = freeN l m i := by
  refine Nat.eq_of_testBit_eq fun j => ?_
  rw [L.diff_testBit, L.diff_testBit, L.diff_testBit, allN_bit, L.relRow_testBit, belowN_bit, Nat.testBit_two_pow, freeN_bit]
  by_cases hj : j < m
  · by_cases hij : i = j
    · subst hij; simp
    · simp [hj, hij, show ¬ j = i from fun h => hij h.symm]
  · simp [hj]
theorem orFree_ev {m : Nat} {l : List Int} (h : isRel (m : Int) l = true) {i : Nat} (hi : i < m) : Ev (fun k => spec_orFree.f k (m : Int) l (i : Int)) ((freeN l m i : Nat) : Int) := by
  obtain ⟨h1, h2⟩ := isRel_len h
  unfold spec_orFree.f
  refine L.Ev.ifp (by omega) (L.Ev.ifp (by omega) (L.Ev.ifp (by omega) (Ev.bind (orBelow_ev h i (by omega)) ?_)))
  have b1 := relRow_lt10 (L.bitAt l i) h2
  have b2 := belowN_lt10 l h2 i
  have b3 := two_lt10 (show i < 10 by omega)
  have b4 := allN_lt10 h2
  have b5 : L.relRow (L.bitAt l i) m ||| belowN l m i < 2 ^ 10 := Nat.or_lt_two_pow b1 b2
  have b6 : L.relRow (L.bitAt l i) m ||| belowN l m i ||| 2 ^ i < 2 ^ 10 := Nat.or_lt_two_pow b5 b3
  rw [shl_all (by omega), rd_isRel h hi, L.or_nat (by omega) (by omega), L.shl_one (by omega), L.or_nat (by omega) (by omega), L.andNot_nat (by omega) (by omega), free_spec]
  exact Ev.now _
end Go.Proofs.YtbodhioladafnaaDoor.P

/-! ### PuFree -/
/- Plain laws: the set of all elements, in the program. -/
namespace Go.Proofs.YtbodhioladafnaaDoor.P
open Go.RowKit Go.Proofs.YtbodhioladafnaaDoorW.PrintWords Go.Proofs.YtbodhioladafnaaDoorW.PrintLast Go.Proofs.YtbodhioladafnaaDoorW.PrintMore L
set_option linter.unusedVariables false
set_option linter.unusedSimpArgs false
theorem all_eq {m : Nat} (hm : m ≤ 60) (l : List Int) : impl_Order_all.f (m : Int) l = some ((allN m : Nat) : Int) := by
  unfold impl_Order_all.f
  rw [if_pos (by omega), shl_all hm]
end Go.Proofs.YtbodhioladafnaaDoor.P

/-! ### PuIndiff -/
/- Plain laws: the sets of those that are indifferent to each element, in the program. -/
namespace Go.Proofs.YtbodhioladafnaaDoor.P
open Go.RowKit Go.Proofs.YtbodhioladafnaaDoorW.PrintWords Go.Proofs.YtbodhioladafnaaDoorW.PrintLast Go.Proofs.YtbodhioladafnaaDoorW.PrintMore L
set_option linter.unusedVariables false
set_option linter.unusedSimpArgs false
def freeL (l : List Int) (m i : Nat) : List Int := L.cast ((List.range i).map (freeN l m))
theorem freeL_length (l : List Int) (m i : Nat) : (freeL l m i).length = i := by simp [freeL, L.cast_length]
theorem freeL_succ (l : List Int) (m i : Nat) : freeL l m i ++ [((freeN l m i : Nat) : Int)] = freeL l m (i + 1) := by
  simp [freeL, L.cast, List.range_succ]
theorem rd_freeL (l : List Int) {m i n : Nat} (h : i < n) : rd (freeL l m n) (i : Int) = ((freeN l m i : Nat) : Int) := by
  unfold freeL; rw [L.rd_cast]; simp [List.getD_eq_getElem?_getD, h]
theorem indifferent_ev {m : Nat} {l : List Int} (h : isRel (m : Int) l = true) : Ev (fun k => impl_Order_indifferent.f k (m : Int) l) (freeL l m m) := by
  obtain ⟨h1, h2⟩ := isRel_len h
  have key : ∀ i, i ≤ m → Ev (fun k => impl_Order_indifferent.l0 k (freeL l m i) (m : Int) (i : Int) (m : Int) l (m : Int) (L.relL m fun i j => L.bitAt l j i)) (freeL l m m) := by
    refine L.down ?_ fun i hi ih => ?_
    · refine L.Ev.succ ?_
      simp only [impl_Order_indifferent.l0]
      exact L.Ev.ifn (by omega) (Ev.now _)
    · refine L.Ev.succ ?_
      simp only [impl_Order_indifferent.l0]
      refine L.Ev.ifp (by omega) (L.Ev.bindc (all_eq (by omega) l) (L.Ev.ifp (by omega) (L.Ev.ifp (by omega) (L.Ev.ifp (by rw [L.relL_length]; omega) (L.Ev.ifp (by rw [freeL_length]; omega) ?_)))))
      have b1 := relRow_lt10 (L.bitAt l i) h2
      have b2 := belowN_lt10 l h2 i
      have b3 := two_lt10 (show i < 10 by omega)
      have b4 := allN_lt10 h2
      have b5 : L.diff (allN m) (L.relRow (L.bitAt l i) m) < 2 ^ 10 := L.diff_lt b4
      have b6 : L.diff (L.diff (allN m) (L.relRow (L.bitAt l i) m)) (belowN l m i) < 2 ^ 10 := L.diff_lt b5
      rw [rd_isRel h hi, rd_mirror l hi, L.andNot_nat (by omega) (by omega), L.andNot_nat (by omega) (by omega), L.shl_one (by omega), L.andNot_nat (by omega) (by omega), free_impl, freeL_succ]
      exact Ev.congr (fun k => by rw [L.w64n (by omega)]) ih
  unfold impl_Order_indifferent.f
  exact L.Ev.bindc (mirror_eq h) (key 0 (by omega))
end Go.Proofs.YtbodhioladafnaaDoor.P

/-! ### PuThreeOne -/
/- Plain laws: the first three elements and a fourth one that refuse a semiorder, in the program and in the reference. -/
namespace Go.Proofs.YtbodhioladafnaaDoor.P
open Go.RowKit Go.Proofs.YtbodhioladafnaaDoorW.PrintWords Go.Proofs.YtbodhioladafnaaDoorW.PrintLast Go.Proofs.YtbodhioladafnaaDoorW.PrintMore L
set_option linter.unusedVariables false
set_option linter.unusedSimpArgs false
theorem fsl_step {α : Type} (p : Nat → Option α) (l : List Nat) (j : Nat) (hj : j < l.length) : (l.drop j).findSome? p = (p l[j]).or ((l.drop (j + 1)).findSome? p) := by
  rw [List.drop_eq_getElem_cons hj, List.findSome?_cons]
  cases p l[j] <;> rfl
theorem fsl_end {α : Type} (p : Nat → Option α) (l : List Nat) : (l.drop l.length).findSome? p = none := by
  rw [List.drop_eq_nil_of_le (Nat.le_refl _)]; rfl
theorem rd_castL (l : List Nat) (j : Nat) (hj : j < l.length) : rd (L.cast l) (j : Int) = ((l[j] : Nat) : Int) := by
  rw [L.rd_cast, List.getD_eq_getElem?_getD, List.getElem?_eq_getElem hj]; rfl
def free3 (l : List Int) (m a b c : Nat) : Nat := freeN l m a &&& freeN l m b &&& freeN l m c
def to3 (l : List Int) (m a b c : Nat) : Option Quad := (membersN (free3 l m a b c)).head?.map fun d => (a, b, c, d)
def to2 (l : List Int) (m a b : Nat) : Option Quad := (membersN (rowN l m b)).findSome? (to3 l m a b)
def to1 (l : List Int) (m a : Nat) : Option Quad := (membersN (rowN l m a)).findSome? (to2 l m a)
def threeOneN (l : List Int) (m : Nat) : Option Quad := (List.range m).findSome? (to1 l m)
theorem freeN_lt10 (l : List Int) {m : Nat} (hm : m ≤ 10) (i : Nat) : freeN l m i < 1024 := relRow_lt10 _ hm
theorem free3_lt (l : List Int) {m : Nat} (hm : m ≤ 10) (a b c : Nat) : free3 l m a b c < 1024 :=
  Nat.lt_of_le_of_lt Nat.and_le_right (freeN_lt10 l hm c)
theorem and3 (l : List Int) {m : Nat} (hm : m ≤ 10) (a b c : Nat) : Go.bits .and .i64 (Go.bits .and .i64 ((freeN l m a : Nat) : Int) ((freeN l m b : Nat) : Int)) ((freeN l m c : Nat) : Int) = ((free3 l m a b c : Nat) : Int) := by
  have h1 := freeN_lt10 l hm a
  have h2 := freeN_lt10 l hm b
  have h3 := freeN_lt10 l hm c
  have h4 : freeN l m a &&& freeN l m b < 1024 := Nat.lt_of_le_of_lt Nat.and_le_right h2
  rw [L.and_nat (by omega) (by omega), L.and_nat (by omega) (by omega)]; rfl
theorem threeOne_ev {m : Nat} {l : List Int} (h : isRel (m : Int) l = true) : Ev (fun k => impl_Order_threeOne.f k (m : Int) l) (quadL (threeOneN l m)) := by
  obtain ⟨h1, h2⟩ := rel_len h
  have hfl := freeL_length l m m
  have k2 : ∀ a, a < m → ∀ (bs : List Nat) (jb : Nat), ∀ b, b < m → ∀ q : Option Quad, Ev (fun k => impl_Order_threeOne.l1 k (freeL l m m) (a : Int) (m : Int) (a : Int) (L.cast bs) ((L.cast bs).length : Int) ((jb + 1 : Nat) : Int) (m : Int) l) (quadL q) → jb ≤ 10 →
      ∀ j, j ≤ (membersN (rowN l m b)).length → Ev (fun k => impl_Order_threeOne.l2 k (freeL l m m) (a : Int) (b : Int) (m : Int) (a : Int) (L.cast bs) ((L.cast bs).length : Int) (jb : Int) (L.cast (membersN (rowN l m b))) ((L.cast (membersN (rowN l m b))).length : Int) (j : Int) (m : Int) l)
        (quadL ((((membersN (rowN l m b)).drop j).findSome? (to3 l m a b)).or q)) := by
    intro a ha bs jb b hb q hk hjb
    have hl10 := membersN_length (rowN l m b)
    refine L.down ?_ fun j hj ih => ?_
    · refine L.Ev.succ ?_
      simp only [impl_Order_threeOne.l2]
      rw [fsl_end, Option.none_or]
      refine L.Ev.ifn (by rw [L.cast_length]; omega) ?_
      rw [L.w64n (by omega)]; exact hk
    · refine L.Ev.succ ?_
      simp only [impl_Order_threeOne.l2]
      have hc := mem_members_lt (rowN_lt l m b) (List.getElem_mem hj)
      rw [rd_castL _ j hj, rd_freeL l ha, rd_freeL l hb, rd_freeL l hc, and3 l h2, fsl_step _ _ j hj, Option.or_assoc]
      refine L.Ev.ifp (by rw [L.cast_length]; omega) (L.Ev.ifp (by omega) (L.Ev.ifp (by rw [L.cast_length]; omega) (L.Ev.ifp (by omega) (L.Ev.ifp (by omega) (L.Ev.ifp (by omega) (L.Ev.ifp (by omega) (L.Ev.ifp (by omega) (L.Ev.ifp (by omega) ?_))))))))
      by_cases h0 : free3 l m a b (membersN (rowN l m b))[j] = 0
      · have e : to3 l m a b (membersN (rowN l m b))[j] = none := by unfold to3; rw [h0, membersN_zero]; rfl
        rw [e, Option.none_or, L.w64n (n := j) (by omega)]
        exact L.Ev.ifp (by omega) ih
      · have hlt := free3_lt l h2 a b (membersN (rowN l m b))[j]
        obtain ⟨e1, _⟩ := membersN_step _ hlt h0
        have e : to3 l m a b (membersN (rowN l m b))[j] = some (a, b, (membersN (rowN l m b))[j], Lib.ctz 64 (free3 l m a b (membersN (rowN l m b))[j])) := by unfold to3; rw [e1]; rfl
        rw [e, Option.some_or]
        refine L.Ev.ifn (by omega) (Ev.bind (members_ev _ hlt) (L.Ev.ifp (by rw [L.cast_length, e1]; simp) ?_))
        rw [e1]
        exact Ev.now _
  have k1 : ∀ a, a < m → ∀ q : Option Quad, Ev (fun k => impl_Order_threeOne.l0 k (freeL l m m) (m : Int) ((a + 1 : Nat) : Int) (m : Int) l) (quadL q) →
      ∀ j, j ≤ (membersN (rowN l m a)).length → Ev (fun k => impl_Order_threeOne.l1 k (freeL l m m) (a : Int) (m : Int) (a : Int) (L.cast (membersN (rowN l m a))) ((L.cast (membersN (rowN l m a))).length : Int) (j : Int) (m : Int) l)
        (quadL ((((membersN (rowN l m a)).drop j).findSome? (to2 l m a)).or q)) := by
    intro a ha q hk
    have hl10 := membersN_length (rowN l m a)
    refine L.down ?_ fun j hj ih => ?_
    · refine L.Ev.succ ?_
      simp only [impl_Order_threeOne.l1]
      rw [fsl_end, Option.none_or]
      refine L.Ev.ifn (by rw [L.cast_length]; omega) ?_
      rw [L.w64n (by omega)]; exact hk
    · refine L.Ev.succ ?_
      simp only [impl_Order_threeOne.l1]
      have hb := mem_members_lt (rowN_lt l m a) (List.getElem_mem hj)
      rw [rd_castL _ j hj, rd_rowN h hb, fsl_step _ _ j hj, Option.or_assoc]
      exact L.Ev.ifp (by rw [L.cast_length]; omega) (L.Ev.ifp (by omega) (L.Ev.ifp (by rw [L.cast_length]; omega) (L.Ev.ifp (by omega) (L.Ev.ifp (by omega) (Ev.bind (members_ev _ (rowN_lt10 l h2 _)) (k2 a ha _ j _ hb _ ih (by omega) 0 (by omega)))))))
  have k0 : ∀ a, a ≤ m → Ev (fun k => impl_Order_threeOne.l0 k (freeL l m m) (m : Int) (a : Int) (m : Int) l) (quadL (((List.range m).drop a).findSome? (to1 l m))) := by
    refine L.down ?_ fun a ha ih => ?_
    · refine L.Ev.succ ?_
      simp only [impl_Order_threeOne.l0]
      rw [L.fs_end]
      exact L.Ev.ifn (by omega) (Ev.now _)
    · refine L.Ev.succ ?_
      simp only [impl_Order_threeOne.l0]
      rw [L.fs_step _ _ _ ha, rd_rowN h ha]
      exact L.Ev.ifp (by omega) (L.Ev.ifp (by omega) (L.Ev.ifp (by omega) (Ev.bind (members_ev _ (rowN_lt10 l h2 _)) (k1 a ha _ ih 0 (by omega)))))
  unfold impl_Order_threeOne.f
  exact Ev.bind (indifferent_ev h) (k0 0 (by omega))
theorem specThreeOne_ev {m : Nat} {l : List Int} (h : isRel (m : Int) l = true) : Ev (fun k => spec_ThreeOneOf.l0 k 0 (m : Int) l) (quadL (threeOneN l m), (threeOneN l m).isSome) := by
  obtain ⟨h1, h2⟩ := rel_len h
  have k2 : ∀ a, a < m → ∀ (bs : List Nat) (jb : Nat), ∀ b, b < m → ∀ q : Option Quad, Ev (fun k => spec_ThreeOneOf.l1 k (a : Int) (L.cast bs) ((L.cast bs).length : Int) ((jb + 1 : Nat) : Int) (m : Int) l) (quadL q, q.isSome) → jb ≤ 10 →
      ∀ j, j ≤ (membersN (rowN l m b)).length → Ev (fun k => spec_ThreeOneOf.l2 k (a : Int) (b : Int) (L.cast bs) ((L.cast bs).length : Int) (jb : Int) (L.cast (membersN (rowN l m b))) ((L.cast (membersN (rowN l m b))).length : Int) (j : Int) (m : Int) l)
        (quadL ((((membersN (rowN l m b)).drop j).findSome? (to3 l m a b)).or q), ((((membersN (rowN l m b)).drop j).findSome? (to3 l m a b)).or q).isSome) := by
    intro a ha bs jb b hb q hk hjb
    have hl10 := membersN_length (rowN l m b)
    refine L.down ?_ fun j hj ih => ?_
    · refine L.Ev.succ ?_
      simp only [spec_ThreeOneOf.l2]
      rw [fsl_end, Option.none_or]
      refine L.Ev.ifn (by rw [L.cast_length]; omega) ?_
      rw [L.w64n (by omega)]; exact hk
    · refine L.Ev.succ ?_
      simp only [spec_ThreeOneOf.l2]
      have hc := mem_members_lt (rowN_lt l m b) (List.getElem_mem hj)
      have hlt := free3_lt l h2 a b (membersN (rowN l m b))[j]
      rw [rd_castL _ j hj, fsl_step _ _ j hj, Option.or_assoc]
      refine L.Ev.ifp (by rw [L.cast_length]; omega) (L.Ev.ifp (by omega) (L.Ev.ifp (by rw [L.cast_length]; omega) (Ev.bind (orFree_ev h ha) (Ev.bind (orFree_ev h hb) (Ev.bind (orFree_ev h hc) ?_)))))
      rw [and3 l h2]
      refine Ev.bind (orList_ev _ hlt) (L.Ev.succ ?_)
      simp only [spec_ThreeOneOf.l3]
      by_cases h0 : free3 l m a b (membersN (rowN l m b))[j] = 0
      · have e : to3 l m a b (membersN (rowN l m b))[j] = none := by unfold to3; rw [h0, membersN_zero]; rfl
        rw [e, Option.none_or, L.w64n (n := j) (by omega), h0, membersN_zero]
        exact L.Ev.ifn (by simp [L.cast]) ih
      · obtain ⟨e1, _⟩ := membersN_step _ hlt h0
        have e : to3 l m a b (membersN (rowN l m b))[j] = some (a, b, (membersN (rowN l m b))[j], Lib.ctz 64 (free3 l m a b (membersN (rowN l m b))[j])) := by unfold to3; rw [e1]; rfl
        rw [e, Option.some_or, e1]
        exact L.Ev.ifp (by rw [L.cast_length, List.length_cons]; omega) (L.Ev.ifp (by omega) (L.Ev.ifp (by rw [L.cast_length, List.length_cons]; omega) (Ev.now _)))
  have k1 : ∀ a, a < m → ∀ q : Option Quad, Ev (fun k => spec_ThreeOneOf.l0 k ((a + 1 : Nat) : Int) (m : Int) l) (quadL q, q.isSome) →
      ∀ j, j ≤ (membersN (rowN l m a)).length → Ev (fun k => spec_ThreeOneOf.l1 k (a : Int) (L.cast (membersN (rowN l m a))) ((L.cast (membersN (rowN l m a))).length : Int) (j : Int) (m : Int) l)
        (quadL ((((membersN (rowN l m a)).drop j).findSome? (to2 l m a)).or q), ((((membersN (rowN l m a)).drop j).findSome? (to2 l m a)).or q).isSome) := by
    intro a ha q hk
    have hl10 := membersN_length (rowN l m a)
    refine L.down ?_ fun j hj ih => ?_
    · refine L.Ev.succ ?_
      simp only [spec_ThreeOneOf.l1]
      rw [fsl_end, Option.none_or]
      refine L.Ev.ifn (by rw [L.cast_length]; omega) ?_
      rw [L.w64n (by omega)]; exact hk
    · refine L.Ev.succ ?_
      simp only [spec_ThreeOneOf.l1]
      have hb := mem_members_lt (rowN_lt l m a) (List.getElem_mem hj)
      rw [rd_castL _ j hj, rd_rowN h hb, fsl_step _ _ j hj, Option.or_assoc]
      exact L.Ev.ifp (by rw [L.cast_length]; omega) (L.Ev.ifp (by omega) (L.Ev.ifp (by rw [L.cast_length]; omega) (L.Ev.ifp (by omega) (L.Ev.ifp (by omega) (Ev.bind (orList_ev _ (rowN_lt10 l h2 _)) (k2 a ha _ j _ hb _ ih (by omega) 0 (by omega)))))))
  have k0 : ∀ a, a ≤ m → Ev (fun k => spec_ThreeOneOf.l0 k (a : Int) (m : Int) l) (quadL (((List.range m).drop a).findSome? (to1 l m)), (((List.range m).drop a).findSome? (to1 l m)).isSome) := by
    refine L.down ?_ fun a ha ih => ?_
    · refine L.Ev.succ ?_
      simp only [spec_ThreeOneOf.l0]
      rw [L.fs_end]
      exact L.Ev.ifn (by omega) (Ev.now _)
    · refine L.Ev.succ ?_
      simp only [spec_ThreeOneOf.l0]
      rw [L.fs_step _ _ _ ha, rd_rowN h ha]
      exact L.Ev.ifp (by omega) (L.Ev.ifp (by omega) (L.Ev.ifp (by omega) (Ev.bind (orList_ev _ (rowN_lt10 l h2 _)) (k1 a ha _ ih 0 (by omega)))))
  exact k0 0 (by omega)
end Go.Proofs.YtbodhioladafnaaDoor.P

/-! ### PuSemi -/
/- Plain laws: semiorders, in the program and in the reference. -/
namespace Go.Proofs.YtbodhioladafnaaDoor.P
open Go.RowKit Go.Proofs.YtbodhioladafnaaDoorW.PrintWords Go.Proofs.YtbodhioladafnaaDoorW.PrintLast Go.Proofs.YtbodhioladafnaaDoorW.PrintMore L
set_option linter.unusedVariables false
set_option linter.unusedSimpArgs false
def free2 (l : List Int) (m a b : Nat) : Bool := (freeN l m a).testBit b
theorem seIndifferent_ev {m : Nat} {l : List Int} (h : isRel (m : Int) l = true) {i : Nat} (hi : i < m) {j : Nat} (hj : j < m) : Ev (fun k => spec_seIndifferent.f k (m : Int) l (i : Int) (j : Int)) (free2 l m i j) := by
  have := (rel_len h).2
  unfold spec_seIndifferent.f
  exact Ev.bind (orFree_ev h hi) (L.Ev.bindc (orHas_nat (by omega)) (Ev.now _))
def st3 (l : List Int) (m a b c d : Nat) : Bool := free2 l m a d && free2 l m c b
def st2 (l : List Int) (m a b c : Nat) : Bool := (membersN (rowN l m c)).any (st3 l m a b c)
def st1 (l : List Int) (m a b : Nat) : Bool := (List.range m).any (st2 l m a b)
def st0 (l : List Int) (m a : Nat) : Bool := (membersN (rowN l m a)).any (st1 l m a)
def seTT (l : List Int) (m : Nat) : Bool := (List.range m).any (st0 l m)
theorem any_step (p : Nat → Bool) (m i : Nat) (hi : i < m) : ((List.range m).drop i).any p = (p i || ((List.range m).drop (i + 1)).any p) := by
  rw [List.drop_eq_getElem_cons (by simpa using hi), List.any_cons]; simp
theorem any_end (p : Nat → Bool) (m : Nat) : ((List.range m).drop m).any p = false := by rw [List.drop_eq_nil_of_le (by simp)]; rfl
theorem anyl_step (p : Nat → Bool) (l : List Nat) (j : Nat) (hj : j < l.length) : (l.drop j).any p = (p l[j] || (l.drop (j + 1)).any p) := by
  rw [List.drop_eq_getElem_cons hj, List.any_cons]
theorem anyl_end (p : Nat → Bool) (l : List Nat) : (l.drop l.length).any p = false := by rw [List.drop_eq_nil_of_le (Nat.le_refl _)]; rfl
theorem seTwoTwo_ev {m : Nat} {l : List Int} (h : isRel (m : Int) l = true) : Ev (fun k => spec_seTwoTwo.f k (m : Int) l) (seTT l m) := by
  obtain ⟨h1, h2⟩ := rel_len h
  have k3 : ∀ a, a < m → ∀ (jb : Nat), jb ≤ 10 → ∀ b, b < m → ∀ c, c < m → ∀ q : Bool, Ev (fun k => spec_seTwoTwo.l2 k (a : Int) (b : Int) ((c + 1 : Nat) : Int) (L.cast (membersN (rowN l m a))) ((L.cast (membersN (rowN l m a))).length : Int) (jb : Int) (m : Int) l) q →
      ∀ j, j ≤ (membersN (rowN l m c)).length → Ev (fun k => spec_seTwoTwo.l3 k (a : Int) (b : Int) (c : Int) (L.cast (membersN (rowN l m a))) ((L.cast (membersN (rowN l m a))).length : Int) (jb : Int) (L.cast (membersN (rowN l m c))) ((L.cast (membersN (rowN l m c))).length : Int) (j : Int) (m : Int) l)
        (((membersN (rowN l m c)).drop j).any (st3 l m a b c) || q) := by
    intro a ha jb hjb b hb c hc q hk
    have hl10 := membersN_length (rowN l m c)
    refine L.down ?_ fun j hj ih => ?_
    · refine L.Ev.succ ?_
      simp only [spec_seTwoTwo.l3]
      rw [anyl_end, Bool.false_or]
      refine L.Ev.ifn (by rw [L.cast_length]; omega) ?_
      rw [L.w64n (by omega)]; exact hk
    · refine L.Ev.succ ?_
      simp only [spec_seTwoTwo.l3]
      have hd := mem_members_lt (rowN_lt l m c) (List.getElem_mem hj)
      rw [rd_castL _ j hj, anyl_step _ _ j hj, Bool.or_assoc, L.w64n (n := j) (by omega)]
      refine L.Ev.ifp (by rw [L.cast_length]; omega) (L.Ev.ifp (by omega) (L.Ev.ifp (by rw [L.cast_length]; omega) (Ev.bind (seIndifferent_ev h ha hd) ?_)))
      cases e1 : free2 l m a (membersN (rowN l m c))[j] with
      | false =>
        have e : st3 l m a b c (membersN (rowN l m c))[j] = false := by unfold st3; rw [e1]; rfl
        rw [e, Bool.false_or]
        exact L.Ev.ifn (by simp) ih
      | true =>
        refine L.Ev.ifp rfl (Ev.bind (seIndifferent_ev h hc hb) ?_)
        cases e2 : free2 l m c b with
        | false =>
          have e : st3 l m a b c (membersN (rowN l m c))[j] = false := by unfold st3; rw [e1, e2]; rfl
          rw [e, Bool.false_or]
          exact L.Ev.ifn (by simp) ih
        | true =>
          have e : st3 l m a b c (membersN (rowN l m c))[j] = true := by unfold st3; rw [e1, e2]; rfl
          rw [e, Bool.true_or]
          exact L.Ev.ifp rfl (Ev.now _)
  have k2 : ∀ a, a < m → ∀ (jb : Nat), jb ≤ 10 → ∀ b, b < m → ∀ q : Bool, Ev (fun k => spec_seTwoTwo.l1 k (a : Int) (L.cast (membersN (rowN l m a))) ((L.cast (membersN (rowN l m a))).length : Int) ((jb + 1 : Nat) : Int) (m : Int) l) q →
      ∀ c, c ≤ m → Ev (fun k => spec_seTwoTwo.l2 k (a : Int) (b : Int) (c : Int) (L.cast (membersN (rowN l m a))) ((L.cast (membersN (rowN l m a))).length : Int) (jb : Int) (m : Int) l) (((List.range m).drop c).any (st2 l m a b) || q) := by
    intro a ha jb hjb b hb q hk
    refine L.down ?_ fun c hc ih => ?_
    · refine L.Ev.succ ?_
      simp only [spec_seTwoTwo.l2]
      rw [any_end, Bool.false_or]
      refine L.Ev.ifn (by omega) ?_
      rw [L.w64n (by omega)]; exact hk
    · refine L.Ev.succ ?_
      simp only [spec_seTwoTwo.l2]
      rw [any_step _ _ _ hc, Bool.or_assoc, rd_rowN h hc]
      exact L.Ev.ifp (by omega) (L.Ev.ifp (by omega) (L.Ev.ifp (by omega) (Ev.bind (orList_ev _ (rowN_lt10 l h2 _)) (k3 a ha jb hjb b hb c hc _ ih 0 (by omega)))))
  have k1 : ∀ a, a < m → ∀ q : Bool, Ev (fun k => spec_seTwoTwo.l0 k ((a + 1 : Nat) : Int) (m : Int) l) q →
      ∀ j, j ≤ (membersN (rowN l m a)).length → Ev (fun k => spec_seTwoTwo.l1 k (a : Int) (L.cast (membersN (rowN l m a))) ((L.cast (membersN (rowN l m a))).length : Int) (j : Int) (m : Int) l) (((membersN (rowN l m a)).drop j).any (st1 l m a) || q) := by
    intro a ha q hk
    have hl10 := membersN_length (rowN l m a)
    refine L.down ?_ fun j hj ih => ?_
    · refine L.Ev.succ ?_
      simp only [spec_seTwoTwo.l1]
      rw [anyl_end, Bool.false_or]
      refine L.Ev.ifn (by rw [L.cast_length]; omega) ?_
      rw [L.w64n (by omega)]; exact hk
    · refine L.Ev.succ ?_
      simp only [spec_seTwoTwo.l1]
      have hb := mem_members_lt (rowN_lt l m a) (List.getElem_mem hj)
      rw [rd_castL _ j hj, anyl_step _ _ j hj, Bool.or_assoc]
      exact L.Ev.ifp (by rw [L.cast_length]; omega) (L.Ev.ifp (by omega) (L.Ev.ifp (by rw [L.cast_length]; omega) (k2 a ha j (by omega) _ hb _ ih 0 (by omega))))
  have k0 : ∀ a, a ≤ m → Ev (fun k => spec_seTwoTwo.l0 k (a : Int) (m : Int) l) (((List.range m).drop a).any (st0 l m)) := by
    refine L.down ?_ fun a ha ih => ?_
    · refine L.Ev.succ ?_
      simp only [spec_seTwoTwo.l0]
      rw [any_end]
      exact L.Ev.ifn (by omega) (Ev.now _)
    · refine L.Ev.succ ?_
      simp only [spec_seTwoTwo.l0]
      rw [any_step _ _ _ ha, rd_rowN h ha]
      exact L.Ev.ifp (by omega) (L.Ev.ifp (by omega) (L.Ev.ifp (by omega) (Ev.bind (orList_ev _ (rowN_lt10 l h2 _)) (k1 a ha _ ih 0 (by omega)))))
  exact k0 0 (by omega)
theorem seTT_eq {m : Nat} {l : List Int} (h : isOrd (m : Int) l = true) : seTT l m = (twoTwoN l m).isSome := by
  have hr := isOrd_rel h
  have h10 := (rel_len hr).2
  rw [Bool.eq_iff_iff]
  have e1 : seTT l m = true ↔ ∃ a b c d, a < m ∧ L.bitAt l a b = true ∧ L.bitAt l c d = true ∧ free2 l m a d = true ∧ free2 l m c b = true := by
    unfold seTT st0 st1 st2 st3
    simp only [List.any_eq_true, List.mem_range, Bool.and_eq_true, mem_membersN, rowN_bit, decide_eq_true_eq]
    constructor
    · rintro ⟨a, ha, b, ⟨_, _, hb⟩, c, hc, d, ⟨_, _, hd⟩, h3, h4⟩
      exact ⟨a, b, c, d, ha, hb, hd, h3, h4⟩
    · rintro ⟨a, b, c, d, ha, hb, hd, h3, h4⟩
      have x1 := bit_lt hr hb
      have x2 := bit_lt hr hd
      exact ⟨a, ha, b, ⟨by omega, x1.2, hb⟩, c, x2.1, d, ⟨by omega, x2.2, hd⟩, h3, h4⟩
  have e2 : (twoTwoN l m).isSome = true ↔ ∃ a b c d, a < m ∧ b < m ∧ c < m ∧ d < m ∧ refuses l a b c d = true := by
    unfold twoTwoN tt0 tt1 tt2 tt3
    simp only [List.findSome?_isSome_iff, List.mem_range]
    constructor
    · rintro ⟨a, ha, b, hb, c, hc, d, hd, hx⟩
      refine ⟨a, b, c, d, ha, hb, hc, hd, ?_⟩
      cases hz : refuses l a b c d with
      | true => rfl
      | false => rw [hz] at hx; simp at hx
    · rintro ⟨a, b, c, d, ha, hb, hc, hd, hx⟩
      exact ⟨a, ha, b, hb, c, hc, d, hd, by rw [hx]; rfl⟩
  rw [e1, e2]
  have fr : ∀ i j, i < m → j < m → (free2 l m i j = true ↔ (L.bitAt l i j = false ∧ L.bitAt l j i = false ∧ ¬ j = i)) := by
    intro i j hi hj
    unfold free2
    rw [freeN_bit]
    simp [hj, and_assoc]
  constructor
  · rintro ⟨a, b, c, d, ha, hb, hd, h3, h4⟩
    have x1 := bit_lt hr hb
    have x2 := bit_lt hr hd
    have f1 := (fr a d ha x2.2).1 h3
    have f2 := (fr c b x2.1 x1.2).1 h4
    refine ⟨a, b, c, d, ha, x1.2, x2.1, x2.2, ?_⟩
    unfold refuses
    rw [hb, hd, f1.1, f2.1]; rfl
  · rintro ⟨a, b, c, d, ha, hb, hc, hd, hx⟩
    unfold refuses at hx
    simp only [Bool.and_eq_true, Bool.not_eq_true'] at hx
    obtain ⟨⟨⟨r1, r2⟩, r3⟩, r4⟩ := hx
    refine ⟨a, b, c, d, ha, r1, r2, (fr a d ha hd).2 ⟨r4, ?_, ?_⟩, (fr c b hc hb).2 ⟨r3, ?_, ?_⟩⟩
    · cases hda : L.bitAt l d a with
      | false => rfl
      | true => have := ord_trans h (ord_trans h r2 hda) r1; rw [r3] at this; cases this
    · rintro rfl
      have := ord_trans h r2 r1; rw [r3] at this; cases this
    · cases hbc : L.bitAt l b c with
      | false => rfl
      | true => have := ord_trans h (ord_trans h r1 hbc) r2; rw [r4] at this; cases this
    · rintro rfl
      have := ord_trans h r1 r2; rw [r4] at this; cases this
def isSemiN (l : List Int) (m : Nat) : Bool := !(twoTwoN l m).isSome && !(threeOneN l m).isSome
theorem isSemi_ev {m : Nat} {l : List Int} (h : isOrd (m : Int) l = true) (hl : l.length ≤ 1048576) : Ev (fun k => impl_isSemi.f k (m : Int) l) (isSemiN l m) := by
  have hr := isOrd_rel h
  unfold impl_isSemi.f isSemiN
  refine Ev.bind (isInterval_ev _ l hl) ?_
  unfold isIvOrd
  rw [h, Bool.true_and, Int.toNat_natCast]
  cases ht : (twoTwoN l m).isSome with
  | true => exact L.Ev.ifn (by simp) (by simp only [Bool.not_true, Bool.false_and]; exact Ev.now _)
  | false =>
    refine L.Ev.ifp rfl (Ev.bind (threeOne_ev hr) ?_)
    rw [quadL_empty, Bool.not_false, Bool.true_and]; exact Ev.now _
theorem seGood_ev {m : Nat} {l : List Int} (h : isOrd (m : Int) l = true) (hl : l.length ≤ 1048576) : Ev (fun k => spec_seGood.f k (m : Int) l) (isSemiN l m) := by
  have hr := isOrd_rel h
  unfold spec_seGood.f isSemiN
  refine Ev.bind (a := (quadL (threeOneN l m), (threeOneN l m).isSome)) (by unfold spec_ThreeOneOf.f; exact Ev.bind (orGood_ev _ l hl) (L.Ev.ifp h (specThreeOne_ev hr))) (Ev.bind (orGood_ev _ l hl) (L.Ev.ifp h ?_))
  cases ht : (threeOneN l m).isSome with
  | true => exact L.Ev.ifp rfl (by simp only [Bool.not_true, Bool.and_false]; exact Ev.now _)
  | false =>
    refine L.Ev.ifn (by simp) (Ev.bind (seTwoTwo_ev hr) ?_)
    rw [seTT_eq h, Bool.not_false, Bool.and_true]; exact Ev.now _
end Go.Proofs.YtbodhioladafnaaDoor.P

/-! ### BoTraceList -/
/- What TraceList comes to, in the program and in the reference. -/
namespace Go.Proofs.YtbodhioladafnaaDoor.P
open Go.RowKit Go.Proofs.YtbodhioladafnaaDoorW.PrintWords Go.Proofs.YtbodhioladafnaaDoorW.PrintLast Go.Proofs.YtbodhioladafnaaDoorW.PrintMore L
set_option linter.unusedVariables false
set_option linter.unusedSimpArgs false
theorem TraceList_both (n : Int) (l : List Int) (wn : R.wf n) (hl : l.length ≤ 1048576) (w0 : ∀ x ∈ l, R.wf x) :
    ∃ (r : List Int) (b : Bool), Ev (fun k => spec_TraceList.f k n l) (r, b) ∧ Ev (fun k => impl_TraceList.f k n l) (r, b) ∧ r.length ≤ 1048576 := by
  cases h : isOrd n l with
  | false =>
    refine ⟨[], false, ?_, ?_, by simp⟩
    · unfold spec_TraceList.f
      refine Ev.bind (a := false) ?_ (L.Ev.ifn (by simp) (Ev.now _))
      unfold spec_seGood.f
      refine Ev.bind (a := ([], false)) ?_ (Ev.bind (orGood_ev n l hl) (L.Ev.ifn (by simp [h]) (Ev.now _)))
      unfold spec_ThreeOneOf.f
      exact Ev.bind (orGood_ev n l hl) (L.Ev.ifn (by simp [h]) (Ev.now _))
    · unfold impl_TraceList.f
      refine Ev.bind (a := false) ?_ (L.Ev.ifn (by simp) (Ev.now _))
      unfold impl_isSemi.f
      exact Ev.bind (isInterval_ev n l hl) (L.Ev.ifn (by simp [isIvOrd, h]) (Ev.now _))
  | true =>
    have hr := isOrd_rel h
    obtain ⟨m, rfl, hm, hlm⟩ := isRel_nat hr
    cases hs : isSemiN l m with
    | false =>
      refine ⟨[], false, ?_, ?_, by simp⟩
      · unfold spec_TraceList.f
        exact Ev.bind (seGood_ev h hl) (L.Ev.ifn (by simp [hs]) (Ev.now _))
      · unfold impl_TraceList.f
        exact Ev.bind (isSemi_ev h hl) (L.Ev.ifn (by simp [hs]) (Ev.now _))
    | true =>
      refine ⟨L.cast (insR (befB l m) m), true, ?_, ?_, by rw [L.cast_length, insR_length]; omega⟩
      · unfold spec_TraceList.f
        exact Ev.bind (seGood_ev h hl) (L.Ev.ifp hs (Ev.bind (seTrace_ev hr) (Ev.now _)))
      · unfold impl_TraceList.f
        exact Ev.bind (isSemi_ev h hl) (L.Ev.ifp hs (L.Ev.bindc (mirror_eq hr) (traceI_ev hr)))
end Go.Proofs.YtbodhioladafnaaDoor.P

/-! ### PuFnExactTraceList -/
/- The plain law behind FnExactTraceList, out of what the program's and the reference's function come to. -/
namespace Go.Proofs.YtbodhioladafnaaDoor.P
open Go.RowKit Go.Proofs.YtbodhioladafnaaDoorW.PrintWords Go.Proofs.YtbodhioladafnaaDoorW.PrintLast Go.Proofs.YtbodhioladafnaaDoorW.PrintMore L
set_option linter.unusedVariables false
set_option linter.unusedSimpArgs false
set_option maxHeartbeats 1000000 in
theorem FnExactTraceList_pure (a0 : Int) (l0 : List Int) (w0a : R.wf a0) (m0 : l0.length ≤ 9223372036854775807) (w0 : ∀ x ∈ l0, R.wf x) : ∃ k, laws_FnExactTraceList.f k a0 l0 = some true := by
  refine Ev.rounds (r := true) ?_
  unfold laws_FnExactTraceList.f
  refine L.Ev.bindc (szOrder_eq a0 l0 1048576 (by omega) m0) ?_
  by_cases hb0 : (l0.length : Int) ≤ 1048576
  case neg => rw [if_neg hb0]; exact L.Ev.ifp (by omega) (Ev.now true)
  rw [if_pos hb0]
  refine L.Ev.ifn (by omega) ?_
  (try (refine L.Ev.succ ?_; first | simp only [laws_FnExactTraceList.j0] | simp only [laws_FnExactTraceList.j1] | simp only [laws_FnExactTraceList.j2] | simp only [laws_FnExactTraceList.j3]))
  have hn0 : l0.length ≤ 1048576 := by omega
  obtain ⟨r0, r1, hs, hi, hl0⟩ := TraceList_both a0 l0 w0a hn0 w0
  repeat' (first
    | exact Ev.now true
    | exact Ev.now _
    | with_reducible exact rfl
    | (with_reducible refine Ev.bind hs ?_)
    | (with_reducible refine Ev.bind hi ?_)
    | (with_reducible refine Ev.bind (toIntS_ev _ ?hs1) ?_; (case hs1 => first | omega | (dsimp only; omega)))
    | (with_reducible refine Ev.bind (eqIntS_self _ ?hs1) ?_; (case hs1 => first | omega | (dsimp only; omega)))
    | (with_reducible refine Ev.bind (toOrder_ev _ _ ?hs1) ?_; (case hs1 => first | omega | (dsimp only; omega)))
    | (with_reducible refine Ev.bind (eqOrder_self _ _ ?hs1) ?_; (case hs1 => first | omega | (dsimp only; omega)))
    | (with_reducible refine Ev.bind (markIntS_ev _ _ ?hs1 ?hs2) ?_; (case hs1 => first | omega | (dsimp only; omega)); (case hs2 => first | omega | (dsimp only; omega)))
    | (with_reducible refine Ev.bind (held_marks _ _ ?hs1 ?hs2) ?_; (case hs1 => first | omega | (dsimp only; omega)); (case hs2 => first | omega | (dsimp only; omega)))
    | (with_reducible refine Ev.bind (markOrder_ev _ _ _ ?hs1 ?hs2) ?_; (case hs1 => first | omega | (dsimp only; omega)); (case hs2 => first | omega | (dsimp only; omega)))
    | (refine L.Ev.ifp ?hc ?_; (case hc => first | rfl | omega | (simp; done)))
    | (refine L.Ev.ifn ?hc ?_; (case hc => first | omega | (simp; done)))
    | dsimp only
    | (refine L.Ev.succ ?_; simp only [laws_FnExactTraceList.j0])
    | (refine L.Ev.succ ?_; simp only [laws_FnExactTraceList.j1])
    | (refine L.Ev.succ ?_; simp only [laws_FnExactTraceList.j2])
    | (refine L.Ev.succ ?_; simp only [laws_FnExactTraceList.j3])
    | (refine L.Ev.succ ?_; simp only [laws_FnExactTraceList.j4])
    | (refine L.Ev.succ ?_; simp only [laws_FnExactTraceList.j5])
    | (refine L.Ev.succ ?_; simp only [laws_FnExactTraceList.j6])
    | (refine L.Ev.succ ?_; simp only [laws_FnExactTraceList.j7])
    | (refine L.Ev.succ ?_; simp only [laws_FnExactTraceList.j8])
    | (refine L.Ev.succ ?_; simp only [laws_FnExactTraceList.j9])
    | (refine L.Ev.succ ?_; simp only [laws_FnExactTraceList.j10])
    | (refine L.Ev.succ ?_; simp only [laws_FnExactTraceList.j11]))
end Go.Proofs.YtbodhioladafnaaDoor.P
