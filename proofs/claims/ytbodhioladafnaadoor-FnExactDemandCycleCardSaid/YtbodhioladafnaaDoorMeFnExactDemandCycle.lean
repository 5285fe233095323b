/- The plain laws behind FnExactDemandCycle, in one text (merged by wip/merge.py). -/
import Derived.Test.YtbodhioladafnaaDoorLib
import Derived.Test.YtbodhioladafnaaDoorPx1
import Derived.Test.YtbodhioladafnaaDoorPx2
import Derived.Test.YtbodhioladafnaaDoorPx14
import Derived.Test.YtbodhioladafnaaDoorPx7
import Derived.Test.YtbodhioladafnaaDoorPx3
import Derived.Test.YtbodhioladafnaaDoorPx43
import Derived.Test.YtbodhioladafnaaDoorPx8
import Derived.Test.YtbodhioladafnaaDoorPx9
import Derived.Test.YtbodhioladafnaaDoorPx4
import Derived.Test.YtbodhioladafnaaDoorPx5
import Derived.Test.YtbodhioladafnaaDoorPx6
import Derived.Test.YtbodhioladafnaaDoorPx10
import Derived.Test.YtbodhioladafnaaDoorPx12
import Derived.Test.YtbodhioladafnaaDoorPx11
import Derived.Test.YtbodhioladafnaaDoorPx13
import Derived.Test.YtbodhioladafnaaDoorPx20
import Derived.Test.YtbodhioladafnaaDoorPx21
import Derived.Test.YtbodhioladafnaaDoorPx15
import Derived.Test.YtbodhioladafnaaDoorPx18
import Derived.Test.YtbodhioladafnaaDoorPx16
import Derived.Test.YtbodhioladafnaaDoorRowLib
import Derived.Test.YtbodhioladafnaaDoorPx22
import Derived.Test.YtbodhioladafnaaDoorPx19
import Derived.Test.YtbodhioladafnaaDoorPx23
/-! ### PuInts -/
/- Plain laws of the copies and comparisons of rows of whole numbers; no conditions beyond the rows' lengths. -/
namespace Go.Proofs.YtbodhioladafnaaDoor.P
open Go.RowKit Go.Proofs.YtbodhioladafnaaDoorW.PrintWords Go.Proofs.YtbodhioladafnaaDoorW.PrintLast Go.Proofs.YtbodhioladafnaaDoorW.PrintMore L
set_option linter.unusedVariables false
set_option linter.unusedSimpArgs false
theorem toIntS_ev (l : List Int) (hl : l.length ≤ 35184372088832) : Ev (fun k => laws_toIntS.f k l) l := by
  have key : ∀ i, i ≤ l.length → Ev (fun k => laws_toIntS.l0 k l (l.take i ++ List.replicate (l.length - i) 0) (i : Int)) l := by
    refine L.down ?_ fun i hi ih => ?_
    · refine L.Ev.succ ?_
      simp only [laws_toIntS.l0]
      refine L.Ev.ifn (by omega) ?_
      rw [Nat.sub_self, List.take_of_length_le (Nat.le_refl _)]
      simp only [List.replicate_zero, List.append_nil]
      exact Ev.now l
    · refine L.Ev.succ ?_
      simp only [laws_toIntS.l0]
      refine L.Ev.ifp (by omega) (L.Ev.ifp (by omega) (L.Ev.ifp ?_ ?_))
      · simp only [List.length_append, List.length_take, List.length_replicate]; omega
      · have e : (l.take i ++ List.replicate (l.length - i) 0).set i (rd l (i : Int)) = l.take (i + 1) ++ List.replicate (l.length - (i + 1)) 0 := by
          rw [L.rd_get hi]
          refine List.ext_getElem? fun j => ?_
          rw [List.getElem?_set]
          by_cases hj : i = j
          · subst hj
            rw [if_pos rfl, if_pos (by simp only [List.length_append, List.length_take, List.length_replicate]; omega), List.getElem?_append_left (by simp only [List.length_take]; omega), List.getElem?_take, if_pos (by omega), List.getElem?_eq_getElem hi]
          · rw [if_neg hj]
            by_cases h1 : j < i
            · rw [List.getElem?_append_left (by simp only [List.length_take]; omega), List.getElem?_append_left (by simp only [List.length_take]; omega), List.getElem?_take, List.getElem?_take, if_pos h1, if_pos (by omega)]
            · rw [List.getElem?_append_right (by simp only [List.length_take]; omega), List.getElem?_append_right (by simp only [List.length_take]; omega)]
              simp only [List.length_take, List.getElem?_replicate]
              by_cases h2 : j < l.length
              · rw [if_pos (by omega), if_pos (by omega)]
              · rw [if_neg (by omega), if_neg (by omega)]
        refine Ev.congr (fun k => ?_) ih
        rw [L.w64n (by omega), Int.toNat_natCast, e]
  refine Ev.congr (fun k => ?_) (key 0 (by omega))
  unfold laws_toIntS.f
  rw [if_pos (by omega), if_pos (by omega)]
  simp
theorem eqIntS_ev (l m : List Int) (hl : l.length ≤ 9223372036854775806) : Ev (fun k => laws_eqIntS.f k l m) (decide (l = m)) := by
  by_cases hlen : l.length = m.length
  · have key : ∀ i, i ≤ l.length → Ev (fun k => laws_eqIntS.l0 k l m (i : Int)) (decide (l.drop i = m.drop i)) := by
      refine L.down ?_ fun i hi ih => ?_
      · refine L.Ev.succ ?_
        simp only [laws_eqIntS.l0]
        refine L.Ev.ifn (by omega) ?_
        rw [List.drop_eq_nil_of_le (Nat.le_refl _), List.drop_eq_nil_of_le (by omega)]
        exact Ev.now _
      · refine L.Ev.succ ?_
        simp only [laws_eqIntS.l0]
        refine L.Ev.ifp (by omega) (L.Ev.ifp (by omega) (L.Ev.ifp (by omega) ?_))
        rw [L.rd_get hi, L.rd_get (l := m) (by omega), List.drop_eq_getElem_cons hi, List.drop_eq_getElem_cons (l := m) (by omega)]
        by_cases e : l[i] = m[i]'(by omega)
        · refine L.Ev.ifp e ?_
          refine Ev.congr (fun k => by rw [L.w64n (by omega)]) ?_
          have e2 : (l[i] :: List.drop (i + 1) l = m[i]'(by omega) :: List.drop (i + 1) m) = (List.drop (i + 1) l = List.drop (i + 1) m) := propext ⟨fun h => (List.cons.inj h).2, fun h => by rw [e, h]⟩
          simp only [e2]
          exact ih
        · refine L.Ev.ifn e ?_
          simp only [List.cons.injEq, e, false_and, decide_false]
          exact Ev.now _
    have h := key 0 (by omega)
    refine Ev.congr (fun k => ?_) h
    unfold laws_eqIntS.f
    rw [if_pos (by omega)]; rfl
  · have e : l ≠ m := fun h => hlen (by rw [h])
    refine Ev.congr (fun k => ?_) (f := fun _ => some false) (by simp only [e, decide_false]; exact Ev.now _)
    unfold laws_eqIntS.f
    rw [if_neg (by omega)]
theorem eqIntS_self (l : List Int) (hl : l.length ≤ 9223372036854775806) : Ev (fun k => laws_eqIntS.f k l l) true := by
  have h := eqIntS_ev l l hl
  simpa using h
end Go.Proofs.YtbodhioladafnaaDoor.P

/-! ### PuOrder -/
/- Plain laws of the copies and comparisons of relations; no conditions beyond the rows' lengths. -/
namespace Go.Proofs.YtbodhioladafnaaDoor.P
open Go.RowKit Go.Proofs.YtbodhioladafnaaDoorW.PrintWords Go.Proofs.YtbodhioladafnaaDoorW.PrintLast Go.Proofs.YtbodhioladafnaaDoorW.PrintMore L
set_option linter.unusedVariables false
set_option linter.unusedSimpArgs false
theorem szIntS_eq (l : List Int) (a : Int) (ha : 0 ≤ a ∧ a ≤ 1048576) (hl : l.length ≤ 9223372036854775807) : laws_szIntS.f l a = some (if (l.length : Int) ≤ a then a - l.length else -1) := by
  unfold laws_szIntS.f
  rw [L.w64 (by omega) (by omega)]
  by_cases h : (l.length : Int) ≤ a
  · rw [if_neg (by omega), if_pos h]
  · rw [if_pos (by omega), if_neg h]
theorem szOrder_eq (n : Int) (l : List Int) (a : Int) (ha : 0 ≤ a ∧ a ≤ 1048576) (hl : l.length ≤ 9223372036854775807) : laws_szOrder.f n l a = some (if (l.length : Int) ≤ a then a - l.length else -1) := by
  unfold laws_szOrder.f
  rw [szIntS_eq l a ha hl]
  simp only [Option.bind_some]
  by_cases h : (l.length : Int) ≤ a
  · rw [if_pos h, if_neg (by omega)]
  · rw [if_neg h, if_pos (by omega)]
theorem toOrder_ev (n : Int) (l : List Int) (hl : l.length ≤ 35184372088832) : Ev (fun k => laws_toOrder.f k n l) (n, l) := by
  unfold laws_toOrder.f
  exact Ev.bind (toIntS_ev l hl) (Ev.now _)
theorem eqOrder_ev (n : Int) (l : List Int) (m : Int) (o : List Int) (hl : l.length ≤ 9223372036854775806) : Ev (fun k => laws_eqOrder.f k n l m o) (decide (n = m ∧ l = o)) := by
  unfold laws_eqOrder.f
  by_cases h : n = m
  · refine L.Ev.ifp h ?_
    refine Ev.bind (eqIntS_ev l o hl) ?_
    by_cases h2 : l = o
    · simp only [h, h2, and_self, decide_true, if_true]; exact Ev.now _
    · simp only [h2, and_false, decide_false]; exact L.Ev.ifn (by simp) (Ev.now _)
  · refine L.Ev.ifn h ?_
    simp only [h, false_and, decide_false]
    exact Ev.now _
theorem eqOrder_self (n : Int) (l : List Int) (hl : l.length ≤ 9223372036854775806) : Ev (fun k => laws_eqOrder.f k n l n l) true := by
  have h := eqOrder_ev n l n l hl
  simpa using h
end Go.Proofs.YtbodhioladafnaaDoor.P

/-! ### PuMark -/
/- Plain laws of the marks that are laid into rows of whole numbers and looked for again; no conditions beyond the rows' lengths. -/
namespace Go.Proofs.YtbodhioladafnaaDoor.P
open Go.RowKit Go.Proofs.YtbodhioladafnaaDoorW.PrintWords Go.Proofs.YtbodhioladafnaaDoorW.PrintLast Go.Proofs.YtbodhioladafnaaDoorW.PrintMore L
set_option linter.unusedVariables false
set_option linter.unusedSimpArgs false
/-- a, a + 1, .. -/
def marks (a : Int) (n : Nat) : List Int := (List.range n).map fun (i : Nat) => a + (i : Int)
theorem marks_length (a : Int) (n : Nat) : (marks a n).length = n := by simp [marks]
theorem markIntS_ev (l : List Int) (a : Int) (ha : 0 ≤ a ∧ a ≤ 4194304) (hl : l.length ≤ 1048576) : Ev (fun k => laws_markIntS.f k l a) (a + l.length, marks a l.length) := by
  have key : ∀ i, i ≤ l.length → Ev (fun k => laws_markIntS.l0 k (marks a i ++ l.drop i) (a + i) (i : Int)) (a + l.length, marks a l.length) := by
    refine L.down ?_ fun i hi ih => ?_
    · refine L.Ev.succ ?_
      simp only [laws_markIntS.l0]
      rw [List.drop_eq_nil_of_le (Nat.le_refl _), List.append_nil]
      refine L.Ev.ifn (by rw [marks_length]; omega) ?_
      exact Ev.now _
    · refine L.Ev.succ ?_
      simp only [laws_markIntS.l0]
      refine L.Ev.ifp (by rw [List.length_append, marks_length, List.length_drop]; omega) (L.Ev.ifp (by omega) ?_)
      have e : (marks a i ++ l.drop i).set i (a + i) = marks a (i + 1) ++ l.drop (i + 1) := by
        refine List.ext_getElem? fun j => ?_
        rw [List.getElem?_set]
        by_cases hj : i = j
        · subst hj
          rw [if_pos rfl, if_pos (by rw [List.length_append, marks_length, List.length_drop]; omega), List.getElem?_append_left (by rw [marks_length]; omega)]
          simp [marks]
        · rw [if_neg hj]
          by_cases h1 : j < i
          · rw [List.getElem?_append_left (by rw [marks_length]; omega), List.getElem?_append_left (by rw [marks_length]; omega)]
            simp [marks, h1, show j < i + 1 by omega]
          · rw [List.getElem?_append_right (by rw [marks_length]; omega), List.getElem?_append_right (by rw [marks_length]; omega), marks_length, marks_length, List.getElem?_drop, List.getElem?_drop]
            congr 1; omega
      refine Ev.congr (fun k => ?_) ih
      rw [L.w64n (n := i) (by omega), L.w64 (x := a + i + 1) (by omega) (by omega), Int.toNat_natCast, e]
      congr 1; omega
  refine Ev.congr (fun k => ?_) (key 0 (by omega))
  unfold laws_markIntS.f
  simp [marks]
theorem heldIntS_ev (l : List Int) (a : Int) (ha : 0 ≤ a ∧ a ≤ 4194304) (hl : l.length ≤ 1048576) : Ev (fun k => laws_heldIntS.f k l a) (if l = marks a l.length then a + l.length else -1) := by
  by_cases hm : l = marks a l.length
  · rw [if_pos hm]
    have key : ∀ i, i ≤ l.length → Ev (fun k => laws_heldIntS.l0 k l (a + i) (i : Int)) (a + l.length) := by
      refine L.down ?_ fun i hi ih => ?_
      · refine L.Ev.succ ?_
        simp only [laws_heldIntS.l0]
        refine L.Ev.ifn (by omega) ?_
        exact Ev.now _
      · refine L.Ev.succ ?_
        simp only [laws_heldIntS.l0]
        refine L.Ev.ifp (by omega) (L.Ev.ifp (by omega) (L.Ev.ifp ?_ ?_))
        · rw [L.rd_nat]
          have e : l.getD i 0 = (marks a l.length).getD i 0 := by rw [← hm]
          rw [e, List.getD_eq_getElem?_getD]
          simp [marks, hi]
        · refine Ev.congr (fun k => ?_) ih
          rw [L.w64n (n := i) (by omega), L.w64 (x := a + i + 1) (by omega) (by omega)]
          congr 1; omega
    exact Ev.congr (fun k => by unfold laws_heldIntS.f; simp) (key 0 (by omega))
  · rw [if_neg hm]
    have key : ∀ i, i ≤ l.length → (∀ j, j < i → l.getD j 0 = a + j) → Ev (fun k => laws_heldIntS.l0 k l (a + i) (i : Int)) (-1) := by
      refine L.down ?_ fun i hi ih => ?_
      · intro h
        refine absurd ?_ hm
        refine List.ext_getElem? fun j => ?_
        by_cases hj : j < l.length
        · have := h j hj
          rw [List.getD_eq_getElem?_getD, List.getElem?_eq_getElem hj] at this
          rw [List.getElem?_eq_getElem hj]
          simp only [Option.getD_some] at this
          simp [marks, hj, this]
        · rw [List.getElem?_eq_none (by omega), List.getElem?_eq_none (by rw [marks_length]; omega)]
      · intro h
        refine L.Ev.succ ?_
        simp only [laws_heldIntS.l0]
        refine L.Ev.ifp (by omega) (L.Ev.ifp (by omega) ?_)
        by_cases e : rd l (i : Int) = a + i
        · refine L.Ev.ifp e ?_
          refine Ev.congr (fun k => ?_) (ih fun j hj => ?_)
          · rw [L.w64n (n := i) (by omega), L.w64 (x := a + i + 1) (by omega) (by omega)]
            congr 1; omega
          · by_cases hji : j = i
            · rw [hji, ← L.rd_nat]; exact e
            · exact h j (by omega)
        · exact L.Ev.ifn e (Ev.now _)
    exact Ev.congr (fun k => by unfold laws_heldIntS.f; simp) (key 0 (by omega) (by omega))
theorem held_marks (a : Int) (n : Nat) (ha : 0 ≤ a ∧ a ≤ 4194304) (hn : n ≤ 1048576) : Ev (fun k => laws_heldIntS.f k (marks a n) a) (a + n) := by
  have h := heldIntS_ev (marks a n) a ha (by rw [marks_length]; omega)
  rw [marks_length, if_pos rfl] at h
  exact h
end Go.Proofs.YtbodhioladafnaaDoor.P

/-! ### PuMarkO -/
/- Plain laws of the marks that are laid into relations and looked for again; no conditions beyond the rows' lengths. -/
namespace Go.Proofs.YtbodhioladafnaaDoor.P
open Go.RowKit Go.Proofs.YtbodhioladafnaaDoorW.PrintWords Go.Proofs.YtbodhioladafnaaDoorW.PrintLast Go.Proofs.YtbodhioladafnaaDoorW.PrintMore L
set_option linter.unusedVariables false
set_option linter.unusedSimpArgs false
theorem markOrder_ev (n : Int) (l : List Int) (a : Int) (ha : 0 ≤ a ∧ a ≤ 4194304) (hl : l.length ≤ 1048576) : Ev (fun k => laws_markOrder.f k n l a) (a + l.length, marks a l.length) := by
  unfold laws_markOrder.f
  exact Ev.bind (markIntS_ev l a ha hl) (Ev.now _)
end Go.Proofs.YtbodhioladafnaaDoor.P

/-! ### PuRel0 -/
/- Plain laws: which lists are relations. -/
namespace Go.Proofs.YtbodhioladafnaaDoor.P
open Go.RowKit Go.Proofs.YtbodhioladafnaaDoorW.PrintWords Go.Proofs.YtbodhioladafnaaDoorW.PrintLast Go.Proofs.YtbodhioladafnaaDoorW.PrintMore L
set_option linter.unusedVariables false
set_option linter.unusedSimpArgs false
/-- the numbers of a relation. -/
def isRel (n : Int) (l : List Int) : Bool := decide (0 ≤ n ∧ n ≤ 10 ∧ (l.length : Int) = n ∧ ∀ x ∈ l, 0 ≤ x ∧ x < 2 ^ n.toNat)
theorem isRel_iff (n : Int) (l : List Int) : isRel n l = true ↔ 0 ≤ n ∧ n ≤ 10 ∧ (l.length : Int) = n ∧ ∀ x ∈ l, 0 ≤ x ∧ x < 2 ^ n.toNat := by simp [isRel]
theorem isRel_big {n : Nat} {l : List Int} (h : isRel n l = true) : ∀ x ∈ l, 0 ≤ x ∧ x < 1024 := by
  obtain ⟨h0, h1, h2, h3⟩ := (isRel_iff _ _).1 h
  intro x hx
  obtain ⟨a, b⟩ := h3 x hx
  have : (2 : Int) ^ (n : Int).toNat ≤ 2 ^ 10 := by
    have := Nat.pow_le_pow_right (n := 2) (by decide) (show (n : Int).toNat ≤ 10 by omega)
    exact_mod_cast this
  omega
theorem isRel_ok {n : Int} {l : List Int} (h : isRel n l = true) : L.okRel n l := by
  obtain ⟨h0, h1, h2, h3⟩ := (isRel_iff _ _).1 h
  obtain ⟨m, rfl⟩ := Int.eq_ofNat_of_zero_le h0
  refine ⟨h0, by omega, h2, fun x hx => ?_⟩
  have := isRel_big h x hx
  omega
end Go.Proofs.YtbodhioladafnaaDoor.P

/-! ### PuRel20 -/
/- Plain laws: single elements of relations: above, below, in bounds; for the program and the reference alike. -/
namespace Go.Proofs.YtbodhioladafnaaDoor.P
open Go.RowKit Go.Proofs.YtbodhioladafnaaDoorW.PrintWords Go.Proofs.YtbodhioladafnaaDoorW.PrintLast Go.Proofs.YtbodhioladafnaaDoorW.PrintMore L
set_option linter.unusedVariables false
set_option linter.unusedSimpArgs false
theorem isRel_nat {n : Int} {l : List Int} (h : isRel n l = true) : ∃ m : Nat, n = m ∧ m ≤ 10 ∧ l.length = m := by
  obtain ⟨h0, h1, h2, h3⟩ := (isRel_iff _ _).1 h
  obtain ⟨m, rfl⟩ := Int.eq_ofNat_of_zero_le h0
  exact ⟨m, rfl, by omega, by omega⟩
theorem orHas_eq {n : Int} {l : List Int} (h : L.okRel n l) (i j : Nat) (hj : j ≤ 64) : spec_orHas.f (rd l (i : Int)) (j : Int) = some (L.bitAt l i j) := by
  unfold spec_orHas.f
  rw [if_pos (by omega), h.bitm i j hj]
def R0 (n : Int) : Prop := -9223372036854775807 ≤ n ∧ n ≤ 9223372036854775807
theorem rel_len {m : Nat} {l : List Int} (h : isRel (m : Int) l = true) : l.length = m ∧ m ≤ 10 := by
  obtain ⟨m', hm', hm, hlm⟩ := isRel_nat h
  omega
end Go.Proofs.YtbodhioladafnaaDoor.P

/-! ### PuRows -/
/- Plain lemmas: rows of bits that are built element by element; relations that are built row by row or mark by mark. -/
namespace Go.Proofs.YtbodhioladafnaaDoor.L
open Go.RowKit Go.Proofs.YtbodhioladafnaaDoorW.PrintWords Go.Proofs.YtbodhioladafnaaDoorW.PrintLast Go.Proofs.YtbodhioladafnaaDoorW.PrintMore
set_option linter.unusedVariables false
set_option linter.unusedSimpArgs false
theorem two_lt {j : Nat} (hj : j ≤ 60) : (2 : Nat) ^ j < 2 ^ 62 := Nat.pow_lt_pow_right (by decide) (by omega)
theorem relRow_lt62 (f : Nat → Bool) {j : Nat} (hj : j ≤ 60) : relRow f j < 2 ^ 62 := Nat.lt_trans (relRow_lt f j) (two_lt hj)
theorem row_yes {f : Nat → Bool} {j : Nat} (h : f j = true) (hj : j ≤ 60) : Go.bits .or .i64 ((relRow f j : Nat) : Int) (shl .i64 1 (j : Int)) = ((relRow f (j + 1) : Nat) : Int) := by
  rw [shl_one (by omega), or_nat (relRow_lt62 f hj) (two_lt hj)]
  show _ = ((if f j = true then _ else _ : Nat) : Int)
  rw [if_pos h]
theorem row_no {f : Nat → Bool} {j : Nat} (h : f j = false) : ((relRow f j : Nat) : Int) = ((relRow f (j + 1) : Nat) : Int) := by
  show _ = ((if f j = true then _ else _ : Nat) : Int)
  rw [if_neg (by rw [h]; simp)]
/-- the first i rows of a relation. -/
def relPre (n : Nat) (is : Nat → Nat → Bool) (i : Nat) : List Int := cast ((List.range i).map fun i => relRow (is i) n)
theorem relPre_zero (n : Nat) (is : Nat → Nat → Bool) : relPre n is 0 = [] := rfl
theorem relPre_length (n : Nat) (is : Nat → Nat → Bool) (i : Nat) : (relPre n is i).length = i := by simp [relPre, cast_length]
theorem relPre_full (n : Nat) (is : Nat → Nat → Bool) : relPre n is n = relL n is := rfl
theorem relPre_succ (n : Nat) (is : Nat → Nat → Bool) (i : Nat) : relPre n is i ++ [((relRow (is i) n : Nat) : Int)] = relPre n is (i + 1) := by
  simp [relPre, cast, List.range_succ]
theorem rd_relL (n : Nat) (is : Nat → Nat → Bool) {i : Nat} (h : i < n) : rd (relL n is) (i : Int) = ((relRow (is i) n : Nat) : Int) := by
  unfold relL; rw [rd_cast, relN_get n is h]
theorem relRow_congr {f g : Nat → Bool} {n : Nat} (h : ∀ j, j < n → f j = g j) : relRow f n = relRow g n := by
  refine Nat.eq_of_testBit_eq fun j => ?_
  rw [relRow_testBit, relRow_testBit]
  by_cases hj : j < n
  · rw [h j hj]
  · simp [hj]
theorem relRow_zero {n : Nat} : relRow (fun _ => false) n = 0 := by
  refine Nat.eq_of_testBit_eq fun j => ?_
  rw [relRow_testBit]; simp
theorem relL_none (n : Nat) : relL n (fun _ _ => false) = List.replicate n 0 := by
  refine List.ext_getElem (by simp [relL_length]) fun i h1 h2 => ?_
  have h3 : i < n := by rw [relL_length] at h1; exact h1
  have e := rd_relL n (fun _ _ => false) h3
  rw [rd_get h1, relRow_zero] at e
  rw [e]; simp
theorem relL_set {n : Nat} {is : Nat → Nat → Bool} {i : Nat} (hi : i < n) (f : Nat → Bool) : (relL n is).set i ((relRow f n : Nat) : Int) = relL n (fun a b => if a = i then f b else is a b) := by
  refine List.ext_getElem (by simp [relL_length]) fun j h1 h2 => ?_
  have h3 : j < n := by rw [relL_length] at h2; exact h2
  rw [List.getElem_set, ← rd_get h2, rd_relL n _ h3]
  by_cases e : i = j
  · subst e
    simp
  · rw [if_neg e, ← rd_get (by rw [relL_length]; exact h3), rd_relL n _ h3]
    exact congrArg (fun (x : Nat) => (x : Int)) (relRow_congr fun b _ => by show is j b = if j = i then f b else is j b; rw [if_neg (by omega)])
/-- a mark more. -/
theorem relL_mark {n : Nat} (hn : n ≤ 60) {is : Nat → Nat → Bool} {i j : Nat} (hi : i < n) (hj : j < n) : (relL n is).set i (Go.bits .or .i64 (rd (relL n is) (i : Int)) (shl .i64 1 (j : Int))) = relL n (fun a b => is a b || (decide (a = i) && decide (b = j))) := by
  rw [rd_relL n is hi, shl_one (by omega), or_nat (relRow_lt62 _ hn) (two_lt (by omega))]
  have e : relRow (is i) n ||| 2 ^ j = relRow (fun b => is i b || decide (b = j)) n := by
    refine Nat.eq_of_testBit_eq fun k => ?_
    rw [Nat.testBit_or, relRow_testBit, relRow_testBit, Nat.testBit_two_pow]
    by_cases hk : k < n
    · by_cases hkj : j = k
      · subst hkj; simp [hk]
      · simp [hk, hkj, show ¬ k = j from fun h => hkj h.symm]
    · simp [hk, show ¬ j = k by omega]
  rw [e, relL_set hi]
  refine relL_congr fun a b ha hb => ?_
  by_cases h : a = i
  · subst h; simp
  · simp [h]
/-- a row more in a row. -/
theorem relL_or {n : Nat} (hn : n ≤ 60) {is : Nat → Nat → Bool} {i k : Nat} (hi : i < n) (hk : k < n) : (relL n is).set i (Go.bits .or .i64 (rd (relL n is) (i : Int)) (rd (relL n is) (k : Int))) = relL n (fun a b => is a b || (decide (a = i) && is k b)) := by
  rw [rd_relL n is hi, rd_relL n is hk, or_nat (relRow_lt62 _ hn) (relRow_lt62 _ hn)]
  have e : relRow (is i) n ||| relRow (is k) n = relRow (fun b => is i b || is k b) n := by
    refine Nat.eq_of_testBit_eq fun j => ?_
    rw [Nat.testBit_or, relRow_testBit, relRow_testBit, relRow_testBit]
    cases decide (j < n) <;> simp
  rw [e, relL_set hi]
  refine relL_congr fun a b ha hb => ?_
  by_cases h : a = i
  · subst h; simp
  · simp [h]
/-- a relation that came in is the relation of its bits. -/
theorem okRel_eq {n : Nat} {l : List Int} (hl : l.length = n) (hn : n ≤ 60) (hb : ∀ x ∈ l, 0 ≤ x ∧ x < 2 ^ n) : l = relL n (bitAt l) := by
  refine List.ext_getElem (by rw [relL_length]; exact hl) fun i h1 h2 => ?_
  have h3 : i < n := by omega
  rw [← rd_get h2, rd_relL n _ h3]
  obtain ⟨a, b⟩ := hb l[i] (List.getElem_mem h1)
  obtain ⟨x, hx⟩ := Int.eq_ofNat_of_zero_le a
  rw [hx]
  have hlt : x < 2 ^ n := by rw [hx] at b; exact_mod_cast b
  congr 1
  refine Nat.eq_of_testBit_eq fun j => ?_
  rw [relRow_testBit]
  have e : bitAt l i j = x.testBit j := by
    unfold bitAt
    rw [List.getD_eq_getElem?_getD, List.getElem?_eq_getElem h1, Option.getD_some, hx, Int.toNat_natCast]
  rw [e]
  by_cases hj : j < n
  · simp [hj]
  · simp only [hj, decide_false, Bool.false_and]
    exact Nat.testBit_lt_two_pow (Nat.lt_of_lt_of_le hlt (Nat.pow_le_pow_right (by decide) (by omega)))
theorem rd_okRel {n : Nat} {l : List Int} (hl : l.length = n) (hn : n ≤ 60) (hb : ∀ x ∈ l, 0 ≤ x ∧ x < 2 ^ n) {i : Nat} (hi : i < n) : rd l (i : Int) = ((relRow (bitAt l i) n : Nat) : Int) := by
  have h := okRel_eq hl hn hb
  have e : rd l (i : Int) = rd (relL n (bitAt l)) (i : Int) := by rw [← h]
  rw [e, rd_relL n _ hi]
end Go.Proofs.YtbodhioladafnaaDoor.L

/-! ### PuMem -/
/- Plain laws: the elements of a set, in the reference; sets of numbers below ten. -/
namespace Go.Proofs.YtbodhioladafnaaDoor.P
open Go.RowKit Go.Proofs.YtbodhioladafnaaDoorW.PrintWords Go.Proofs.YtbodhioladafnaaDoorW.PrintLast Go.Proofs.YtbodhioladafnaaDoorW.PrintMore L
set_option linter.unusedVariables false
set_option linter.unusedSimpArgs false
/-- the elements of a set, in order. -/
def membersN (x : Nat) : List Nat := (List.range 10).filter fun i => x.testBit i
theorem membersN_zero : membersN 0 = [] := by decide +kernel
theorem membersN_length (x : Nat) : (membersN x).length ≤ 10 := by
  have := List.length_filter_le (fun i => x.testBit i) (List.range 10)
  rw [List.length_range] at this; exact this
theorem mem_membersN {x i : Nat} : i ∈ membersN x ↔ i < 10 ∧ x.testBit i = true := by simp [membersN]
theorem mem_members_lt {x m i : Nat} (hx : x < 2 ^ m) (h : i ∈ membersN x) : i < m := by
  have h2 := (mem_membersN.1 h).2
  by_cases hi : i < m
  · exact hi
  · rw [Nat.testBit_lt_two_pow (Nat.lt_of_lt_of_le hx (Nat.pow_le_pow_right (by decide) (by omega)))] at h2
    cases h2
theorem orHas_nat {x j : Nat} (hj : j ≤ 64) : spec_orHas.f (x : Int) (j : Int) = some (x.testBit j) := by
  unfold spec_orHas.f
  rw [if_pos (by omega), L.bit_mod hj]
theorem orList_ev (x : Nat) (hx : x < 1024) : Ev (fun k => spec_orList.f k (x : Int)) (L.cast (membersN x)) := by
  have key : ∀ i, i ≤ 10 → Ev (fun k => spec_orList.l0 k (x : Int) (L.cast ((List.range i).filter fun i => x.testBit i)) (i : Int)) (L.cast (membersN x)) := by
    refine L.down ?_ fun i hi ih => ?_
    · refine L.Ev.succ ?_
      simp only [spec_orList.l0]
      refine L.Ev.ifp (by omega) (L.Ev.ifn ?_ (Ev.now _))
      rw [L.shr_nat (by omega), Nat.shiftRight_eq_div_pow, Nat.div_eq_of_lt (by simpa using hx)]; simp
    · refine L.Ev.succ ?_
      simp only [spec_orList.l0]
      refine L.Ev.ifp (by omega) ?_
      rw [L.shr_nat (by omega)]
      by_cases h : x >>> i = 0
      · refine L.Ev.ifn (by rw [h]; simp) ?_
        have hlt : x < 2 ^ i := by
          rw [Nat.shiftRight_eq_div_pow] at h
          exact (Nat.div_eq_zero_iff_lt (Nat.two_pow_pos i)).1 h
        have e : membersN x = (List.range i).filter fun i => x.testBit i := by
          unfold membersN
          rw [show 10 = i + (10 - i) by omega, List.range_add, List.filter_append]
          have e2 : ((List.range (10 - i)).map (i + ·)).filter (fun i => x.testBit i) = [] := by
            rw [List.filter_eq_nil_iff]
            intro a ha
            obtain ⟨b, _, rfl⟩ := List.mem_map.1 ha
            rw [Nat.testBit_lt_two_pow (Nat.lt_of_lt_of_le hlt (Nat.pow_le_pow_right (by decide) (by omega)))]; simp
          rw [e2, List.append_nil]
        rw [e]; exact Ev.now _
      · refine L.Ev.ifp (by have := Nat.pos_of_ne_zero h; exact_mod_cast this) (L.Ev.bindc (orHas_nat (by omega)) ?_)
        have e : (List.range (i + 1)).filter (fun i => x.testBit i) = (List.range i).filter (fun i => x.testBit i) ++ if x.testBit i then [i] else [] := by
          rw [List.range_succ, List.filter_append]
          cases hb : x.testBit i <;> simp [hb]
        rw [e] at ih
        have hlen : ((List.range i).filter fun i => x.testBit i).length ≤ 10 := by
          have := List.length_filter_le (fun i => x.testBit i) (List.range i)
          rw [List.length_range] at this; omega
        cases hb : x.testBit i with
        | true =>
          refine L.Ev.ifp rfl (L.Ev.ifp (by rw [L.cast_length]; omega) ?_)
          rw [hb, if_pos rfl, L.cast_append] at ih
          exact Ev.congr (fun k => by rw [L.w64n (by omega)]; rfl) ih
        | false =>
          refine L.Ev.ifn (by simp) ?_
          rw [hb, if_neg (by simp), List.append_nil] at ih
          exact Ev.congr (fun k => by rw [L.w64n (by omega)]) ih
  exact key 0 (by omega)
end Go.Proofs.YtbodhioladafnaaDoor.P

/-! ### PuWithin -/
/- Plain laws: numbers between two numbers, in the program and in the reference. -/
namespace Go.Proofs.YtbodhioladafnaaDoor.P
open Go.RowKit Go.Proofs.YtbodhioladafnaaDoorW.PrintWords Go.Proofs.YtbodhioladafnaaDoorW.PrintLast Go.Proofs.YtbodhioladafnaaDoorW.PrintMore L
set_option linter.unusedVariables false
set_option linter.unusedSimpArgs false
theorem within_eq (a b c : Int) : impl_within.f a b c = some (decide (b ≤ a ∧ a ≤ c)) := by
  unfold impl_within.f
  by_cases h : a ≥ b
  · rw [if_pos h]; congr 1; simp; omega
  · rw [if_neg h]; congr 1; simp; omega
theorem l1In_eq (a b c : Int) : spec_l1In.f a b c = some (decide (b ≤ a ∧ a ≤ c)) := within_eq a b c
end Go.Proofs.YtbodhioladafnaaDoor.P

/-! ### PuRel -/
/- Plain laws: which lists are relations, for the program and the reference alike; conditions: the numbers are 64-bit numbers. -/
namespace Go.Proofs.YtbodhioladafnaaDoor.P
open Go.RowKit Go.Proofs.YtbodhioladafnaaDoorW.PrintWords Go.Proofs.YtbodhioladafnaaDoorW.PrintLast Go.Proofs.YtbodhioladafnaaDoorW.PrintMore L
set_option linter.unusedVariables false
set_option linter.unusedSimpArgs false
/-- all of a list lie between two numbers. -/
def allIn (l : List Int) (b c : Int) : Bool := l.all fun x => decide (b ≤ x ∧ x ≤ c)
theorem allIn_iff (l : List Int) (b c : Int) : allIn l b c = true ↔ ∀ x ∈ l, b ≤ x ∧ x ≤ c := by simp [allIn]
theorem allIn_step (l : List Int) (b c : Int) (i : Nat) (hi : i < l.length) : allIn (l.drop i) b c = (decide (b ≤ l[i] ∧ l[i] ≤ c) && allIn (l.drop (i + 1)) b c) := by
  unfold allIn; rw [List.drop_eq_getElem_cons hi, List.all_cons]
theorem allWithin_ev (l : List Int) (b c : Int) (hl : l.length ≤ 9223372036854775806) : Ev (fun k => impl_allWithin.f k l b c) (allIn l b c) := by
  have key : ∀ i, i ≤ l.length → Ev (fun k => impl_allWithin.l0 k b c l (l.length : Int) (i : Int)) (allIn (l.drop i) b c) := by
    refine L.down ?_ fun i hi ih => ?_
    · refine L.Ev.succ ?_
      simp only [impl_allWithin.l0]
      refine L.Ev.ifn (by omega) ?_
      rw [List.drop_eq_nil_of_le (Nat.le_refl _)]
      exact Ev.now _
    · refine L.Ev.succ ?_
      simp only [impl_allWithin.l0]
      refine L.Ev.ifp (by omega) (L.Ev.ifp (by omega) (L.Ev.ifp (by omega) (L.Ev.bindc (within_eq _ _ _) ?_)))
      rw [allIn_step l b c i hi, L.rd_get hi]
      by_cases h : b ≤ l[i] ∧ l[i] ≤ c
      · refine L.Ev.ifp (by simpa using h) ?_
        simp only [h, and_self, decide_true, Bool.true_and]
        exact Ev.congr (fun k => by rw [L.w64n (by omega)]) ih
      · refine L.Ev.ifn (by simpa using h) ?_
        simp only [h, decide_false, Bool.false_and]
        exact Ev.now _
  exact key 0 (by omega)
theorem l1All_same : ∀ k a b c d e, spec_l1All.l0 k a b c d e = impl_allWithin.l0 k a b c d e := by
  intro k
  induction k with
  | zero => intros; rfl
  | succ k ih => intro a b c d e; simp only [spec_l1All.l0, impl_allWithin.l0, ih, l1In_eq, within_eq]
theorem l1All_ev (l : List Int) (b c : Int) (hl : l.length ≤ 9223372036854775806) : Ev (fun k => spec_l1All.f k l b c) (allIn l b c) :=
  Ev.congr (fun k => l1All_same k b c l _ _) (allWithin_ev l b c hl)
theorem IsRelation_ev (n : Int) (l : List Int) (hl : l.length ≤ 9223372036854775806) : Ev (fun k => impl_IsRelation.f k n l) (isRel n l) := by
  unfold impl_IsRelation.f
  refine L.Ev.bindc (within_eq _ _ _) ?_
  by_cases h : 0 ≤ n ∧ n ≤ 10
  · refine L.Ev.ifp (by simpa using h) ?_
    by_cases h2 : (l.length : Int) = n
    · refine L.Ev.ifp h2 (L.Ev.ifp h.1 ?_)
      obtain ⟨m, rfl⟩ := Int.eq_ofNat_of_zero_le h.1
      have e : wrap64 (shl .i64 1 (m : Int) - 1) = 2 ^ m - 1 := by
        rw [L.shl_one (by omega)]
        have h1 : (2 : Nat) ^ m ≤ 2 ^ 10 := Nat.pow_le_pow_right (by decide) (by omega)
        have e3 : ((2 ^ m : Nat) : Int) = 2 ^ m := by push_cast; rfl
        rw [← e3]
        generalize (2 : Nat) ^ m = z at *
        rw [L.w64 (by omega) (by omega)]
      have e2 : isRel (m : Int) l = allIn l 0 (2 ^ m - 1) := by
        rw [Bool.eq_iff_iff, isRel_iff, allIn_iff, Int.toNat_natCast]
        constructor
        · rintro ⟨_, _, _, h4⟩ x hx
          have := h4 x hx
          omega
        · intro h4
          refine ⟨h.1, h.2, h2, fun x hx => ?_⟩
          have := h4 x hx
          omega
      refine Ev.congr (fun k => ?_) (Ev.bind (allWithin_ev l 0 (2 ^ m - 1) hl) (f := fun _ t => some t) (r := isRel (m : Int) l) (by rw [e2]; exact Ev.now _))
      rw [e]
    · refine L.Ev.ifn h2 ?_
      have e : isRel n l = false := by
        rw [← Bool.not_eq_true, isRel_iff]; rintro ⟨_, _, h3, _⟩; exact h2 h3
      rw [e]; exact Ev.now _
  · refine L.Ev.ifn (by simpa using h) ?_
    have e : isRel n l = false := by
      rw [← Bool.not_eq_true, isRel_iff]; rintro ⟨h3, h4, _⟩; exact h ⟨h3, h4⟩
    rw [e]; exact Ev.now _
theorem orRelation_ev (n : Int) (l : List Int) (hl : l.length ≤ 9223372036854775806) : Ev (fun k => spec_orRelation.f k n l) (isRel n l) := by
  refine Ev.congr (fun k => ?_) (IsRelation_ev n l hl)
  unfold spec_orRelation.f impl_IsRelation.f
  simp only [l1In_eq, within_eq]
  have e : ∀ b c, spec_l1All.f k l b c = impl_allWithin.f k l b c := fun b c => l1All_same k b c l _ _
  simp only [e]
end Go.Proofs.YtbodhioladafnaaDoor.P

/-! ### PuRel2 -/
/- Plain laws: relations, with what the program's and the reference's checks come to. -/

/-! ### PuMembers -/
/- Plain laws: the elements of a set, in the program; sets of numbers below ten. -/
namespace Go.Proofs.YtbodhioladafnaaDoor.P
open Go.RowKit Go.Proofs.YtbodhioladafnaaDoorW.PrintWords Go.Proofs.YtbodhioladafnaaDoorW.PrintLast Go.Proofs.YtbodhioladafnaaDoorW.PrintMore L
set_option linter.unusedVariables false
set_option linter.unusedSimpArgs false
theorem membersN_step : ∀ x : Nat, x < 1024 → x ≠ 0 → membersN x = Lib.ctz 64 x :: membersN (x &&& (x - 1)) ∧ x &&& (x - 1) < x := by decide +kernel
theorem membersLoop_ev : ∀ x : Nat, x < 1024 → ∀ acc : List Int, acc.length + 10 < 1048576 → Ev (fun k => impl_members.l0 k (x : Int) acc) (acc ++ L.cast (membersN x)) := by
  have key : ∀ n x : Nat, x < n → x < 1024 → ∀ acc : List Int, acc.length + (membersN x).length < 1048600 → Ev (fun k => impl_members.l0 k (x : Int) acc) (acc ++ L.cast (membersN x)) := by
    intro n
    induction n with
    | zero => intro x hx; omega
    | succ n ih =>
      intro x hx h10 acc hacc
      refine L.Ev.succ ?_
      simp only [impl_members.l0]
      by_cases h0 : x = 0
      · subst h0
        rw [membersN_zero]
        refine L.Ev.ifp (by omega) ?_
        have e : acc ++ L.cast [] = acc := by simp [L.cast]
        rw [e]; exact Ev.now _
      · obtain ⟨e1, e2⟩ := membersN_step x h10 h0
        refine L.Ev.ifn (by omega) (L.Ev.bindc (a := ((Lib.ctz 64 x : Nat) : Int)) ?_ (L.Ev.ifp (by omega) ?_))
        · rw [IntKind.wrap_u64]
          unfold bits_TrailingZeros.f
          rw [if_pos (by omega)]
          congr 3; omega
        · rw [L.w64 (by omega) (by omega), show ((x : Int) - 1) = ((x - 1 : Nat) : Int) by omega, L.and_nat (by omega) (by omega), e1]
          rw [e1, List.length_cons] at hacc
          have := ih (x &&& (x - 1)) (by omega) (by omega) (acc ++ [((Lib.ctz 64 x : Nat) : Int)]) (by rw [List.length_append, List.length_singleton]; omega)
          rw [List.append_assoc] at this
          exact this
  intro x hx acc hacc
  have := membersN_length x
  exact key (x + 1) x (by omega) hx acc (by omega)
theorem members_ev (x : Nat) (hx : x < 1024) : Ev (fun k => impl_members.f k (x : Int)) (L.cast (membersN x)) := by
  have := membersLoop_ev x hx [] (by simp)
  rw [List.nil_append] at this
  exact this
end Go.Proofs.YtbodhioladafnaaDoor.P

/-! ### PuOrd -/
/- Plain laws: which relations are orders, for the program and the reference alike. -/
namespace Go.Proofs.YtbodhioladafnaaDoor.P
open Go.RowKit Go.Proofs.YtbodhioladafnaaDoorW.PrintWords Go.Proofs.YtbodhioladafnaaDoorW.PrintLast Go.Proofs.YtbodhioladafnaaDoorW.PrintMore L
set_option linter.unusedVariables false
set_option linter.unusedSimpArgs false
def rowN (l : List Int) (m i : Nat) : Nat := L.relRow (L.bitAt l i) m
theorem rowN_lt (l : List Int) (m i : Nat) : rowN l m i < 2 ^ m := L.relRow_lt _ _
theorem rowN_bit (l : List Int) (m i j : Nat) : (rowN l m i).testBit j = (decide (j < m) && L.bitAt l i j) := L.relRow_testBit _ _ _
theorem rd_rowN {m : Nat} {l : List Int} (h : isRel (m : Int) l = true) {i : Nat} (hi : i < m) : rd l (i : Int) = ((rowN l m i : Nat) : Int) := by
  have h2 := ((isRel_iff _ _).1 h).2.2.2
  rw [Int.toNat_natCast] at h2
  exact L.rd_okRel (rel_len h).1 (by have := (rel_len h).2; omega) h2 hi
theorem rowN_lt10 (l : List Int) {m : Nat} (hm : m ≤ 10) (i : Nat) : rowN l m i < 1024 :=
  Nat.lt_of_lt_of_le (rowN_lt l m i) (Nat.pow_le_pow_right (n := 2) (by decide) hm)
def ordRow (l : List Int) (m i : Nat) : Bool := (membersN (rowN l m i)).all fun j => L.diff (rowN l m j) (rowN l m i) == 0
def ordAt (l : List Int) (m i : Nat) : Bool := !L.bitAt l i i && ordRow l m i
def ordB (l : List Int) (m : Nat) : Bool := (List.range m).all (ordAt l m)
def isOrd (n : Int) (l : List Int) : Bool := isRel n l && ordB l n.toNat
theorem range_drop_step (f : Nat → Bool) (n i : Nat) (hi : i < n) : ((List.range n).drop i).all f = (f i && ((List.range n).drop (i + 1)).all f) := by
  rw [List.drop_eq_getElem_cons (by simpa using hi), List.all_cons]; simp
theorem range_drop_end (f : Nat → Bool) (n : Nat) : ((List.range n).drop n).all f = true := by rw [List.drop_eq_nil_of_le (by simp)]; rfl
theorem IsOrderLoop_ev {m : Nat} {l : List Int} (h : isRel (m : Int) l = true) : Ev (fun k => impl_IsOrder.l0 k l (l.length : Int) 0 (m : Int) l) (ordB l m) := by
  obtain ⟨h1, h2⟩ := rel_len h
  have ok := isRel_ok h
  have k1 : ∀ i, i < m → Ev (fun k => impl_IsOrder.l0 k l (l.length : Int) ((i + 1 : Nat) : Int) (m : Int) l) (((List.range m).drop (i + 1)).all (ordAt l m)) →
      ∀ j, j ≤ (membersN (rowN l m i)).length → Ev (fun k => impl_IsOrder.l1 k ((rowN l m i : Nat) : Int) l (l.length : Int) (i : Int) (L.cast (membersN (rowN l m i))) ((L.cast (membersN (rowN l m i))).length : Int) (j : Int) (m : Int) l)
        (((membersN (rowN l m i)).drop j).all (fun j => L.diff (rowN l m j) (rowN l m i) == 0) && ((List.range m).drop (i + 1)).all (ordAt l m)) := by
    intro i hi hk
    have hl10 := membersN_length (rowN l m i)
    refine L.down ?_ fun j hj ih => ?_
    · refine L.Ev.succ ?_
      simp only [impl_IsOrder.l1]
      rw [List.drop_eq_nil_of_le (Nat.le_refl _), List.all_nil, Bool.true_and]
      refine L.Ev.ifn (by rw [L.cast_length]; omega) ?_
      rw [L.w64n (by omega)]; exact hk
    · refine L.Ev.succ ?_
      simp only [impl_IsOrder.l1]
      have hmem := mem_members_lt (rowN_lt l m i) (List.getElem_mem hj)
      have e : rd (L.cast (membersN (rowN l m i))) (j : Int) = (((membersN (rowN l m i))[j] : Nat) : Int) := by
        rw [L.rd_cast, List.getD_eq_getElem?_getD, List.getElem?_eq_getElem hj]; rfl
      rw [e, rd_rowN h hmem, L.andNot_nat (by have := rowN_lt10 l h2 (membersN (rowN l m i))[j]; omega) (by have := rowN_lt10 l h2 i; omega), List.drop_eq_getElem_cons hj, List.all_cons]
      refine L.Ev.ifp (by rw [L.cast_length]; omega) (L.Ev.ifp (by omega) (L.Ev.ifp (by rw [L.cast_length]; omega) (L.Ev.ifp (by omega) (L.Ev.ifp (by omega) ?_))))
      by_cases hd : L.diff (rowN l m (membersN (rowN l m i))[j]) (rowN l m i) = 0
      · refine L.Ev.ifp (by rw [hd]; rfl) ?_
        have e2 : (L.diff (rowN l m (membersN (rowN l m i))[j]) (rowN l m i) == 0) = true := by rw [hd]; rfl
        rw [e2, Bool.true_and]
        exact Ev.congr (fun k => by rw [L.w64n (by omega)]) ih
      · refine L.Ev.ifn (by omega) ?_
        have e2 : (L.diff (rowN l m (membersN (rowN l m i))[j]) (rowN l m i) == 0) = false := by simp [hd]
        rw [e2, Bool.false_and, Bool.false_and]
        exact Ev.now _
  have k0 : ∀ i, i ≤ m → Ev (fun k => impl_IsOrder.l0 k l (l.length : Int) (i : Int) (m : Int) l) (((List.range m).drop i).all (ordAt l m)) := by
    refine L.down ?_ fun i hi ih => ?_
    · refine L.Ev.succ ?_
      simp only [impl_IsOrder.l0]
      rw [range_drop_end]
      exact L.Ev.ifn (by omega) (Ev.now _)
    · refine L.Ev.succ ?_
      simp only [impl_IsOrder.l0]
      rw [range_drop_step _ _ _ hi]
      refine L.Ev.ifp (by omega) (L.Ev.ifp (by omega) (L.Ev.ifp (by omega) (L.Ev.bindc (impl_Order_better.tells ok i i (by omega) (by omega)) ?_)))
      unfold ordAt
      cases hb : L.bitAt l i i with
      | true => exact L.Ev.ifp rfl (by simp only [Bool.not_true, Bool.false_and]; exact Ev.now _)
      | false =>
        refine L.Ev.ifn (by simp) ?_
        rw [rd_rowN h hi]
        refine Ev.bind (members_ev _ (rowN_lt10 l h2 i)) ?_
        have := k1 i hi ih 0 (by omega)
        rw [List.drop_zero] at this
        simp only [Bool.not_false, Bool.true_and]
        exact this
  have := k0 0 (by omega)
  rw [List.drop_zero] at this
  exact this
theorem orGoodLoop_ev {m : Nat} {l : List Int} (h : isRel (m : Int) l = true) : Ev (fun k => spec_orGood.l0 k l (l.length : Int) 0 (m : Int) l) (ordB l m) := by
  obtain ⟨h1, h2⟩ := rel_len h
  have ok := isRel_ok h
  have k1 : ∀ i, i < m → Ev (fun k => spec_orGood.l0 k l (l.length : Int) ((i + 1 : Nat) : Int) (m : Int) l) (((List.range m).drop (i + 1)).all (ordAt l m)) →
      ∀ j, j ≤ (membersN (rowN l m i)).length → Ev (fun k => spec_orGood.l1 k ((rowN l m i : Nat) : Int) l (l.length : Int) (i : Int) (L.cast (membersN (rowN l m i))) ((L.cast (membersN (rowN l m i))).length : Int) (j : Int) (m : Int) l)
        (((membersN (rowN l m i)).drop j).all (fun j => L.diff (rowN l m j) (rowN l m i) == 0) && ((List.range m).drop (i + 1)).all (ordAt l m)) := by
    intro i hi hk
    have hl10 := membersN_length (rowN l m i)
    refine L.down ?_ fun j hj ih => ?_
    · refine L.Ev.succ ?_
      simp only [spec_orGood.l1]
      rw [List.drop_eq_nil_of_le (Nat.le_refl _), List.all_nil, Bool.true_and]
      refine L.Ev.ifn (by rw [L.cast_length]; omega) ?_
      rw [L.w64n (by omega)]; exact hk
    · refine L.Ev.succ ?_
      simp only [spec_orGood.l1]
      have hmem := mem_members_lt (rowN_lt l m i) (List.getElem_mem hj)
      have e : rd (L.cast (membersN (rowN l m i))) (j : Int) = (((membersN (rowN l m i))[j] : Nat) : Int) := by
        rw [L.rd_cast, List.getD_eq_getElem?_getD, List.getElem?_eq_getElem hj]; rfl
      rw [e, rd_rowN h hmem, L.andNot_nat (by have := rowN_lt10 l h2 (membersN (rowN l m i))[j]; omega) (by have := rowN_lt10 l h2 i; omega), List.drop_eq_getElem_cons hj, List.all_cons]
      refine L.Ev.ifp (by rw [L.cast_length]; omega) (L.Ev.ifp (by omega) (L.Ev.ifp (by rw [L.cast_length]; omega) (L.Ev.ifp (by omega) (L.Ev.ifp (by omega) ?_))))
      by_cases hd : L.diff (rowN l m (membersN (rowN l m i))[j]) (rowN l m i) = 0
      · refine L.Ev.ifp (by rw [hd]; rfl) ?_
        have e2 : (L.diff (rowN l m (membersN (rowN l m i))[j]) (rowN l m i) == 0) = true := by rw [hd]; rfl
        rw [e2, Bool.true_and]
        exact Ev.congr (fun k => by rw [L.w64n (by omega)]) ih
      · refine L.Ev.ifn (by omega) ?_
        have e2 : (L.diff (rowN l m (membersN (rowN l m i))[j]) (rowN l m i) == 0) = false := by simp [hd]
        rw [e2, Bool.false_and, Bool.false_and]
        exact Ev.now _
  have k0 : ∀ i, i ≤ m → Ev (fun k => spec_orGood.l0 k l (l.length : Int) (i : Int) (m : Int) l) (((List.range m).drop i).all (ordAt l m)) := by
    refine L.down ?_ fun i hi ih => ?_
    · refine L.Ev.succ ?_
      simp only [spec_orGood.l0]
      rw [range_drop_end]
      exact L.Ev.ifn (by omega) (Ev.now _)
    · refine L.Ev.succ ?_
      simp only [spec_orGood.l0]
      rw [range_drop_step _ _ _ hi]
      refine L.Ev.ifp (by omega) (L.Ev.ifp (by omega) (L.Ev.ifp (by omega) (L.Ev.bindc (orHas_eq ok i i (by omega)) ?_)))
      unfold ordAt
      cases hb : L.bitAt l i i with
      | true => exact L.Ev.ifp rfl (by simp only [Bool.not_true, Bool.false_and]; exact Ev.now _)
      | false =>
        refine L.Ev.ifn (by simp) ?_
        rw [rd_rowN h hi]
        refine Ev.bind (orList_ev _ (rowN_lt10 l h2 i)) ?_
        have := k1 i hi ih 0 (by omega)
        rw [List.drop_zero] at this
        simp only [Bool.not_false, Bool.true_and]
        exact this
  have := k0 0 (by omega)
  rw [List.drop_zero] at this
  exact this
theorem IsOrder_ev (n : Int) (l : List Int) (hl : l.length ≤ 1048576) : Ev (fun k => impl_IsOrder.f k n l) (isOrd n l) := by
  unfold impl_IsOrder.f isOrd
  refine Ev.bind (IsRelation_ev n l (by omega)) ?_
  cases h : isRel n l with
  | false => exact L.Ev.ifn (by simp) (by rw [Bool.false_and]; exact Ev.now _)
  | true =>
    obtain ⟨m, rfl, hm, hlm⟩ := isRel_nat h
    refine L.Ev.ifp rfl ?_
    rw [Bool.true_and, Int.toNat_natCast]
    exact IsOrderLoop_ev h
theorem orGood_ev (n : Int) (l : List Int) (hl : l.length ≤ 1048576) : Ev (fun k => spec_orGood.f k n l) (isOrd n l) := by
  unfold spec_orGood.f isOrd
  refine Ev.bind (orRelation_ev n l (by omega)) ?_
  cases h : isRel n l with
  | false => exact L.Ev.ifn (by simp) (by rw [Bool.false_and]; exact Ev.now _)
  | true =>
    obtain ⟨m, rfl, hm, hlm⟩ := isRel_nat h
    refine L.Ev.ifp rfl ?_
    rw [Bool.true_and, Int.toNat_natCast]
    exact orGoodLoop_ev h
theorem isOrd_rel {n : Int} {l : List Int} (h : isOrd n l = true) : isRel n l = true := by
  unfold isOrd at h; rw [Bool.and_eq_true] at h; exact h.1
end Go.Proofs.YtbodhioladafnaaDoor.P

/-! ### PuBelow -/
/- Plain laws: the set below an element. -/
namespace Go.Proofs.YtbodhioladafnaaDoor.P
open Go.RowKit Go.Proofs.YtbodhioladafnaaDoorW.PrintWords Go.Proofs.YtbodhioladafnaaDoorW.PrintLast Go.Proofs.YtbodhioladafnaaDoorW.PrintMore L
set_option linter.unusedVariables false
set_option linter.unusedSimpArgs false
/-- the set of all elements below one, as a natural number. -/
def belowN (l : List Int) (m i : Nat) : Nat := L.relRow (fun j => L.bitAt l j i) m
theorem belowN_lt (l : List Int) (m i : Nat) : belowN l m i < 2 ^ m := L.relRow_lt _ _
theorem belowN_bit (l : List Int) (m i j : Nat) : (belowN l m i).testBit j = (decide (j < m) && L.bitAt l j i) := L.relRow_testBit _ _ _
theorem orBelow_ev {m : Nat} {l : List Int} (h : isRel (m : Int) l = true) (i : Nat) (hi : i ≤ 64) : Ev (fun k => spec_orBelow.f k (m : Int) l (i : Int)) ((belowN l m i : Nat) : Int) := by
  obtain ⟨m', hm', hm, hlm⟩ := isRel_nat h
  obtain rfl : m = m' := by omega
  have ok := isRel_ok h
  have key : ∀ j, j ≤ m → Ev (fun k => spec_orBelow.l0 k (i : Int) ((L.relRow (fun j => L.bitAt l j i) j : Nat) : Int) l (l.length : Int) (j : Int)) ((belowN l m i : Nat) : Int) := by
    refine L.down ?_ fun j hj ih => ?_
    · refine L.Ev.succ ?_
      simp only [spec_orBelow.l0]
      exact L.Ev.ifn (by omega) (Ev.now _)
    · refine L.Ev.succ ?_
      simp only [spec_orBelow.l0]
      have hlt : L.relRow (fun j => L.bitAt l j i) j < 2 ^ 62 := Nat.lt_of_lt_of_le (L.relRow_lt _ j) (Nat.pow_le_pow_right (by decide) (by omega))
      have hp : (2 : Nat) ^ j < 2 ^ 62 := Nat.pow_lt_pow_right (by decide) (by omega)
      refine L.Ev.ifp (by omega) (L.Ev.ifp (by omega) (L.Ev.ifp (by omega) (L.Ev.bindc (orHas_eq ok j i hi) ?_)))
      rw [L.shl_one (by omega), L.or_nat hlt hp, L.w64n (by omega)]
      have e : L.relRow (fun j => L.bitAt l j i) (j + 1) = if L.bitAt l j i then L.relRow (fun j => L.bitAt l j i) j ||| 2 ^ j else L.relRow (fun j => L.bitAt l j i) j := rfl
      rw [e] at ih
      cases hb : L.bitAt l j i with
      | true => rw [hb] at ih; exact L.Ev.ifp rfl ih
      | false => rw [hb] at ih; exact L.Ev.ifn (by simp) ih
  exact key 0 (by omega)
theorem mirror_eq {m : Nat} {l : List Int} (h : isRel (m : Int) l = true) : impl_Order_mirror.f (m : Int) l = some ((m : Int), L.relL m fun i j => L.bitAt l j i) := by
  unfold impl_Order_mirror.f
  rw [if_pos (isRel_ok h)]; rfl
theorem rd_mirror (l : List Int) {m i : Nat} (hi : i < m) : rd (L.relL m fun i j => L.bitAt l j i) (i : Int) = ((belowN l m i : Nat) : Int) := by
  unfold L.relL
  rw [L.rd_cast, L.relN_get _ _ hi]; rfl
end Go.Proofs.YtbodhioladafnaaDoor.P

/-! ### PuSets -/
/- Plain laws: sets of elements as numbers. -/
namespace Go.Proofs.YtbodhioladafnaaDoor.P
open Go.RowKit Go.Proofs.YtbodhioladafnaaDoorW.PrintWords Go.Proofs.YtbodhioladafnaaDoorW.PrintLast Go.Proofs.YtbodhioladafnaaDoorW.PrintMore L
set_option linter.unusedVariables false
set_option linter.unusedSimpArgs false
def allN (m : Nat) : Nat := 2 ^ m - 1
theorem allN_bit (m i : Nat) : (allN m).testBit i = decide (i < m) := by unfold allN; exact Nat.testBit_two_pow_sub_one ..
theorem allN_lt (m : Nat) : allN m < 2 ^ m := by unfold allN; have := Nat.two_pow_pos m; omega
theorem shl_all {m : Nat} (hm : m ≤ 60) : wrap64 ((shl .i64 1 (m : Int)) - 1) = ((allN m : Nat) : Int) := by
  rw [L.shl_one (by omega)]
  have h := L.two_lt hm
  have h0 := Nat.two_pow_pos m
  unfold allN
  rw [L.w64 (by omega) (by omega)]; omega
theorem relRow_lt10 (f : Nat → Bool) {m : Nat} (hm : m ≤ 10) : L.relRow f m < 1024 :=
  Nat.lt_of_lt_of_le (L.relRow_lt f m) (Nat.pow_le_pow_right (n := 2) (by decide) hm)
theorem two_lt10 {i : Nat} (hm : i < 10) : (2 : Nat) ^ i < 1024 := Nat.pow_lt_pow_right (by decide) hm
theorem allN_lt10 {m : Nat} (hm : m ≤ 10) : allN m < 1024 := Nat.lt_of_lt_of_le (allN_lt m) (Nat.pow_le_pow_right (n := 2) (by decide) hm)
/-- the set of the elements of a list. -/
def setN (l : List Int) : Nat := L.relRow (fun j => decide ((j : Int) ∈ l)) 10
theorem setN_lt (l : List Int) : setN l < 1024 := relRow_lt10 _ (by omega)
theorem setN_bit (l : List Int) (j : Nat) : (setN l).testBit j = (decide (j < 10) && decide ((j : Int) ∈ l)) := L.relRow_testBit _ _ _
theorem setN_nil : setN [] = 0 := by decide +kernel
theorem setN_step (l : List Int) (i x : Nat) (hi : i < l.length) (hx : l[i] = (x : Int)) (h10 : x < 10) : setN (l.take i) ||| 2 ^ x = setN (l.take (i + 1)) := by
  refine Nat.eq_of_testBit_eq fun j => ?_
  rw [Nat.testBit_or, setN_bit, setN_bit, Nat.testBit_two_pow]
  have e : l.take (i + 1) = l.take i ++ [l[i]] := by rw [List.take_add_one, List.getElem?_eq_getElem hi]; rfl
  have e2 : ((j : Int) ∈ l.take (i + 1)) = ((j : Int) ∈ l.take i ∨ x = j) := by
    rw [e, List.mem_append, List.mem_singleton, hx]
    exact propext ⟨fun h => h.imp id fun h => by omega, fun h => h.imp id fun h => by omega⟩
  simp only [e2]
  by_cases hj : j < 10
  · by_cases h1 : (j : Int) ∈ l.take i <;> by_cases h2 : x = j <;> simp [hj, h1, h2]
  · by_cases h2 : x = j
    · omega
    · simp [hj, h2]
theorem int_beq (a b : Nat) : ((a : Int) == (b : Int)) = (a == b) := by
  rw [Bool.eq_iff_iff]; simp only [beq_iff_eq]; omega
end Go.Proofs.YtbodhioladafnaaDoor.P

/-! ### PuFree0 -/
/- Plain laws: the set of those that are indifferent to an element, in the reference. -/
namespace Go.Proofs.YtbodhioladafnaaDoor.P
open Go.RowKit Go.Proofs.YtbodhioladafnaaDoorW.PrintWords Go.Proofs.YtbodhioladafnaaDoorW.PrintLast Go.Proofs.YtbodhioladafnaaDoorW.PrintMore L
set_option linter.unusedVariables false
set_option linter.unusedSimpArgs false
theorem isRel_len {m : Nat} {l : List Int} (h : isRel (m : Int) l = true) : l.length = m ∧ m ≤ 10 := by
  obtain ⟨m', hm', hm, hlm⟩ := isRel_nat h
  omega
theorem isRel_rows {m : Nat} {l : List Int} (h : isRel (m : Int) l = true) : ∀ x ∈ l, 0 ≤ x ∧ x < 2 ^ m := by
  have := ((isRel_iff _ _).1 h).2.2.2
  rwa [Int.toNat_natCast] at this
theorem rd_isRel {m : Nat} {l : List Int} (h : isRel (m : Int) l = true) {i : Nat} (hi : i < m) : rd l (i : Int) = ((L.relRow (L.bitAt l i) m : Nat) : Int) :=
  L.rd_okRel (isRel_len h).1 (by have := (isRel_len h).2; omega) (isRel_rows h) hi
/-- a relation that came in has no bits beyond its size. -/
theorem bitAt_out {m : Nat} {l : List Int} (h : isRel (m : Int) l = true) {i j : Nat} (hij : m ≤ i ∨ m ≤ j) : L.bitAt l i j = false := by
  obtain ⟨h1, h2⟩ := isRel_len h
  by_cases hi : i < m
  · have e := rd_isRel h hi
    rw [L.rd_nat] at e
    unfold L.bitAt
    rw [e, Int.toNat_natCast, L.relRow_testBit]
    simp [show ¬ j < m by omega]
  · unfold L.bitAt
    rw [List.getD_eq_getElem?_getD, List.getElem?_eq_none (by omega)]
    simp
theorem belowN_lt10 (l : List Int) {m : Nat} (hm : m ≤ 10) (i : Nat) : belowN l m i < 1024 := relRow_lt10 _ hm
/-- the set of those that are indifferent to an element. -/
def freeN (l : List Int) (m i : Nat) : Nat := L.relRow (fun j => !L.bitAt l i j && !L.bitAt l j i && !decide (j = i)) m
theorem freeN_bit (l : List Int) (m i j : Nat) : (freeN l m i).testBit j = (decide (j < m) && (!L.bitAt l i j && !L.bitAt l j i && !decide (j = i))) := L.relRow_testBit _ _ _
theorem free_spec (l : List Int) (m i : Nat) : L.diff (allN m) (L.relRow (L.bitAt l i) m ||| belowN l m i ||| 2 ^ i) = freeN l m i := by
  refine Nat.eq_of_testBit_eq fun j => ?_
  rw [L.diff_testBit, Nat.testBit_or, Nat.testBit_or, allN_bit, L.relRow_testBit, belowN_bit, Nat.testBit_two_pow, freeN_bit]
  by_cases hj : j < m
  · by_cases hij : i = j
    · subst hij; simp
    · simp [hj, hij, show ¬ j = i from fun h => hij h.symm]
  · simp [hj]
theorem free_impl (l : List Int) (m i : Nat) : L.diff (L.diff (L.diff (allN m) (L.relRow (L.bitAt l i) m)) (belowN l m i)) (2 ^ i) = freeN l m i := by
  refine Nat.eq_of_testBit_eq fun j => ?_
  rw [L.diff_testBit, L.diff_testBit, L.diff_testBit, allN_bit, L.relRow_testBit, belowN_bit, Nat.testBit_two_pow, freeN_bit]
  by_cases hj : j < m
  · by_cases hij : i = j
    · subst hij; simp
    · simp [hj, hij, show ¬ j = i from fun h => hij h.symm]
  · simp [hj]
theorem orFree_ev {m : Nat} {l : List Int} (h : isRel (m : Int) l = true) {i : Nat} (hi : i < m) : Ev (fun k => spec_orFree.f k (m : Int) l (i : Int)) ((freeN l m i : Nat) : Int) := by
  obtain ⟨h1, h2⟩ := isRel_len h
  unfold spec_orFree.f
  refine L.Ev.ifp (by omega) (L.Ev.ifp (by omega) (L.Ev.ifp (by omega) (Ev.bind (orBelow_ev h i (by omega)) ?_)))
  have b1 := relRow_lt10 (L.bitAt l i) h2
  have b2 := belowN_lt10 l h2 i
  have b3 := two_lt10 (show i < 10 by omega)
  have b4 := allN_lt10 h2
  have b5 : L.relRow (L.bitAt l i) m ||| belowN l m i < 2 ^ 10 := Nat.or_lt_two_pow b1 b2
  have b6 : L.relRow (L.bitAt l i) m ||| belowN l m i ||| 2 ^ i < 2 ^ 10 := Nat.or_lt_two_pow b5 b3
  rw [shl_all (by omega), rd_isRel h hi, L.or_nat (by omega) (by omega), L.shl_one (by omega), L.or_nat (by omega) (by omega), L.andNot_nat (by omega) (by omega), free_spec]
  exact Ev.now _
end Go.Proofs.YtbodhioladafnaaDoor.P

/-! ### PuDemand -/
/- Plain laws: the demands of a threshold, in the program and in the reference. -/
namespace Go.Proofs.YtbodhioladafnaaDoor.P
open Go.RowKit Go.Proofs.YtbodhioladafnaaDoorW.PrintWords Go.Proofs.YtbodhioladafnaaDoorW.PrintLast Go.Proofs.YtbodhioladafnaaDoorW.PrintMore L
set_option linter.unusedVariables false
set_option linter.unusedSimpArgs false
def demP (l : List Int) (m : Nat) (t : Int) (i j : Nat) : Int × Bool := if L.bitAt l i j = true then (t, true) else if (freeN l m i).testBit j = true then (1 - t, true) else (0, false)
theorem demP_small (l : List Int) (m : Nat) {t : Int} (i j : Nat) (ht : 1 ≤ t ∧ t ≤ 10) : -9 ≤ (demP l m t i j).1 ∧ (demP l m t i j).1 ≤ 10 := by
  unfold demP
  split
  · exact ⟨by dsimp only; omega, by dsimp only; omega⟩
  · split
    · exact ⟨by dsimp only; omega, by dsimp only; omega⟩
    · exact ⟨by dsimp only; omega, by dsimp only; omega⟩
theorem seDemand_ev {m : Nat} {l : List Int} (h : isRel (m : Int) l = true) {t : Int} (ht : 1 ≤ t ∧ t ≤ 10) {i j : Nat} (hi : i < m) (hj : j < m) :
    Ev (fun k => spec_seDemand.f k (m : Int) l t (i : Int) (j : Int)) (demP l m t i j) := by
  obtain ⟨h1, h2⟩ := isRel_len h
  unfold spec_seDemand.f demP
  refine L.Ev.ifp (by omega) (L.Ev.ifp (by omega) (L.Ev.bindc (orHas_eq (isRel_ok h) i j (by omega)) ?_))
  cases hb : L.bitAt l i j with
  | true => exact L.Ev.ifp rfl (by rw [if_pos rfl]; exact Ev.now _)
  | false =>
    refine L.Ev.ifn (by simp) (Ev.bind (a := (freeN l m i).testBit j) ?_ ?_)
    · unfold spec_seIndifferent.f
      exact Ev.bind (orFree_ev h hi) (L.Ev.bindc (orHas_nat (by omega)) (Ev.now _))
    · rw [if_neg Bool.false_ne_true]
      cases (freeN l m i).testBit j with
      | true => exact L.Ev.ifp rfl (by rw [if_pos rfl, L.w64 (by omega) (by omega)]; exact Ev.now _)
      | false => exact L.Ev.ifn (by simp) (by rw [if_neg Bool.false_ne_true]; exact Ev.now _)
theorem demand_eq {m : Nat} {l : List Int} (h : isRel (m : Int) l = true) {t : Int} (ht : 1 ≤ t ∧ t ≤ 10) {i j : Nat} (hi : i < m) (hj : j < m) :
    impl_Order_demand.f (m : Int) l t (i : Int) (j : Int) = some (demP l m t i j) := by
  obtain ⟨h1, h2⟩ := isRel_len h
  have ok := isRel_ok h
  unfold impl_Order_demand.f demP
  rw [impl_Order_better.tells ok i j (by omega) (by omega), impl_Order_better.tells ok j i (by omega) (by omega), freeN_bit, L.w64 (x := 1 - t) (by omega) (by omega)]
  simp only [Option.bind_some]
  have e1 : ((i : Int) = (j : Int)) ↔ j = i := by omega
  simp only [e1, show j < m from hj, decide_true, Bool.true_and]
  by_cases hij : j = i
  · subst hij
    cases L.bitAt l j j <;> simp
  · cases L.bitAt l i j <;> cases L.bitAt l j i <;> simp [hij]
end Go.Proofs.YtbodhioladafnaaDoor.P

/-! ### PuLiftF -/
/- Plain laws: the rounds that lift places, as a function. -/
namespace Go.Proofs.YtbodhioladafnaaDoor.P
open Go.RowKit Go.Proofs.YtbodhioladafnaaDoorW.PrintWords Go.Proofs.YtbodhioladafnaaDoorW.PrintLast Go.Proofs.YtbodhioladafnaaDoorW.PrintMore L
set_option linter.unusedVariables false
set_option linter.unusedSimpArgs false
abbrev LiftS := List Int × List Int × Int
/-- one demand: the places, the reasons, the element that was changed last. -/
def liftStep (l : List Int) (m : Nat) (t : Int) (s : LiftS) (j i : Nat) : LiftS :=
  if (demP l m t i j).2 = true ∧ rd s.1 (j : Int) < rd s.1 (i : Int) + (demP l m t i j).1 then (s.1.set j (rd s.1 (i : Int) + (demP l m t i j).1), s.2.1.set j (i : Int), (j : Int)) else s
def liftRow (l : List Int) (m : Nat) (t : Int) (j : Nat) (is : List Nat) (s : LiftS) : LiftS := is.foldl (fun s i => liftStep l m t s j i) s
def liftRows (l : List Int) (m : Nat) (t : Int) (js : List Nat) (s : LiftS) : LiftS := js.foldl (fun s j => liftRow l m t j (List.range m) s) s
def liftRounds (l : List Int) (m : Nat) (t : Int) : Nat → LiftS → LiftS
  | 0, s => s
  | n + 1, s => if (liftRows l m t (List.range m) (s.1, s.2.1, -1)).2.2 < 0 then liftRows l m t (List.range m) (s.1, s.2.1, -1) else liftRounds l m t n (liftRows l m t (List.range m) (s.1, s.2.1, -1))
/-- what the lists hold: places up to a bound, reasons that are elements. -/
structure LiftOk (m : Nat) (B : Int) (s : LiftS) : Prop where
  pl : s.1.length = m
  rl : s.2.1.length = m
  p : ∀ x ∈ s.1, 0 ≤ x ∧ x ≤ B
  r : ∀ x ∈ s.2.1, 0 ≤ x ∧ x < m
  x : -1 ≤ s.2.2 ∧ s.2.2 < m
theorem LiftOk.rdp {m : Nat} {B : Int} {s : LiftS} (h : LiftOk m B s) {i : Nat} (hi : i < m) : 0 ≤ rd s.1 (i : Int) ∧ rd s.1 (i : Int) ≤ B := by
  rw [L.rd_get (by rw [h.pl]; exact hi)]
  exact h.p _ (List.getElem_mem _)
theorem LiftOk.rdr {m : Nat} {B : Int} {s : LiftS} (h : LiftOk m B s) {i : Nat} (hi : i < m) : ∃ y : Nat, rd s.2.1 (i : Int) = (y : Int) ∧ y < m := by
  rw [L.rd_get (by rw [h.rl]; exact hi)]
  have := h.r _ (List.getElem_mem (by rw [h.rl]; exact hi))
  exact ⟨(s.2.1[i]'(by rw [h.rl]; exact hi)).toNat, by omega, by omega⟩
theorem LiftOk.up {m : Nat} {B C : Int} {s : LiftS} (h : LiftOk m B s) (hb : B ≤ C) : LiftOk m C s :=
  ⟨h.pl, h.rl, fun x hx => by have := h.p x hx; omega, h.r, h.x⟩
theorem mem_setL {l : List Int} {i : Nat} {v x : Int} (h : x ∈ l.set i v) : x = v ∨ x ∈ l := by
  rcases List.mem_or_eq_of_mem_set h with e | e
  · exact .inr e
  · exact .inl e
theorem liftStep_ok {m : Nat} {B : Int} {s : LiftS} (l : List Int) {t : Int} (ht : 1 ≤ t ∧ t ≤ 10) (h : LiftOk m B s) {i j : Nat} (hi : i < m) (hj : j < m) : LiftOk m (B + 10) (liftStep l m t s j i) := by
  have hd := demP_small l m i j ht
  have h1 := h.rdp hi
  have h2 := h.rdp hj
  unfold liftStep
  split
  · rename_i hc
    refine ⟨by simp [h.pl], by simp [h.rl], fun x hx => ?_, fun x hx => ?_, ?_⟩
    · rcases mem_setL hx with e | e
      · omega
      · have := h.p x e; omega
    · rcases mem_setL hx with e | e
      · omega
      · exact h.r x e
    · dsimp only; omega
  · exact h.up (by omega)
theorem liftRow_ok {m : Nat} (l : List Int) {t : Int} (ht : 1 ≤ t ∧ t ≤ 10) {j : Nat} (hj : j < m) : ∀ (is : List Nat), (∀ i ∈ is, i < m) → ∀ (B : Int) (s : LiftS), LiftOk m B s → LiftOk m (B + 10 * (is.length : Int)) (liftRow l m t j is s)
  | [], _, B, s, h => by unfold liftRow; exact h.up (by simp)
  | i :: is, hi, B, s, h => by
    have := liftRow_ok l ht hj is (fun x hx => hi x (List.mem_cons_of_mem _ hx)) (B + 10) _ (liftStep_ok l ht h (hi i (List.mem_cons_self ..)) hj)
    unfold liftRow at this ⊢
    rw [List.foldl_cons]
    exact this.up (by simp; omega)
theorem liftRows_ok {m : Nat} (l : List Int) {t : Int} (ht : 1 ≤ t ∧ t ≤ 10) : ∀ (js : List Nat), (∀ i ∈ js, i < m) → ∀ (B : Int) (s : LiftS), LiftOk m B s → LiftOk m (B + 10 * (m : Int) * (js.length : Int)) (liftRows l m t js s)
  | [], _, B, s, h => by unfold liftRows; exact h.up (by simp)
  | j :: js, hj, B, s, h => by
    have h1 := liftRow_ok l ht (hj j (List.mem_cons_self ..)) (List.range m) (fun x hx => List.mem_range.1 hx) B s h
    have := liftRows_ok l ht js (fun x hx => hj x (List.mem_cons_of_mem _ hx)) _ _ h1
    unfold liftRows at this ⊢
    rw [List.foldl_cons]
    refine this.up ?_
    rw [List.length_range, List.length_cons]
    have : 10 * (m : Int) * ((js.length + 1 : Nat) : Int) = 10 * (m : Int) * (js.length : Int) + 10 * (m : Int) := by rw [Int.natCast_add, Int.mul_add]; simp
    omega
theorem liftRow_cons (l : List Int) (m : Nat) (t : Int) (j i : Nat) (is : List Nat) (s : LiftS) : liftRow l m t j (i :: is) s = liftRow l m t j is (liftStep l m t s j i) := rfl
theorem liftRows_cons (l : List Int) (m : Nat) (t : Int) (j : Nat) (js : List Nat) (s : LiftS) : liftRows l m t (j :: js) s = liftRows l m t js (liftRow l m t j (List.range m) s) := rfl
theorem range_drop_cons {m i : Nat} (h : i < m) : (List.range m).drop i = i :: (List.range m).drop (i + 1) := by
  rw [List.drop_eq_getElem_cons (by simpa using h), List.getElem_range]
theorem range_drop_nil (m : Nat) : (List.range m).drop m = [] := List.drop_eq_nil_of_le (by simp)
end Go.Proofs.YtbodhioladafnaaDoor.P

/-! ### PuLift -/
/- Plain laws: the rounds that lift places, in the program and in the reference. -/
namespace Go.Proofs.YtbodhioladafnaaDoor.P
open Go.RowKit Go.Proofs.YtbodhioladafnaaDoorW.PrintWords Go.Proofs.YtbodhioladafnaaDoorW.PrintLast Go.Proofs.YtbodhioladafnaaDoorW.PrintMore L
set_option linter.unusedVariables false
set_option linter.unusedSimpArgs false
/-- how a list of results ends in the program. -/
def liftFin (F : LiftS) : List Int × List Int × Int × Bool := if F.2.2 < 0 then (F.1, [], 0, false) else ([], F.2.1, F.2.2, true)
def liftRes (l : List Int) (m : Nat) (t : Int) : Nat → LiftS → Int → List Int × List Int × Int × Bool
  | 0, s, o => ([], s.2.1, o, true)
  | n + 1, s, o => if (liftRows l m t (List.range m) (s.1, s.2.1, -1)).2.2 < 0 then ((liftRows l m t (List.range m) (s.1, s.2.1, -1)).1, [], 0, false)
      else liftRes l m t n (liftRows l m t (List.range m) (s.1, s.2.1, -1)) (liftRows l m t (List.range m) (s.1, s.2.1, -1)).2.2
theorem liftRes_eq (l : List Int) (m : Nat) (t : Int) : ∀ n s, 0 ≤ s.2.2 → liftRes l m t n s s.2.2 = liftFin (liftRounds l m t n s)
  | 0, s, h => by
    unfold liftRes liftRounds liftFin
    rw [if_neg (by omega)]
  | n + 1, s, h => by
    unfold liftRes liftRounds
    by_cases hc : (liftRows l m t (List.range m) (s.1, s.2.1, -1)).2.2 < 0
    · rw [if_pos hc, if_pos hc]; unfold liftFin; rw [if_pos hc]
    · rw [if_neg hc, if_neg hc]; exact liftRes_eq l m t n _ (by omega)
theorem liftRes_start (l : List Int) (m : Nat) (t : Int) (n : Nat) (s : LiftS) (o : Int) : liftRes l m t (n + 1) s o = liftFin (liftRounds l m t (n + 1) s) := by
  unfold liftRes liftRounds
  by_cases hc : (liftRows l m t (List.range m) (s.1, s.2.1, -1)).2.2 < 0
  · rw [if_pos hc, if_pos hc]; unfold liftFin; rw [if_pos hc]
  · rw [if_neg hc, if_neg hc]; exact liftRes_eq l m t n _ (by omega)
theorem liftRow_ok' {m : Nat} (l : List Int) {t : Int} (ht : 1 ≤ t ∧ t ≤ 10) {j : Nat} (hj : j < m) (i : Nat) {B : Int} {s : LiftS} (h : LiftOk m B s) (hm : m ≤ 10) : LiftOk m (B + 100) (liftRow l m t j ((List.range m).drop i) s) :=
  (liftRow_ok l ht hj _ (fun x hx => List.mem_range.1 (List.mem_of_mem_drop hx)) B s h).up (by simp only [List.length_drop, List.length_range]; omega)
theorem liftRows_ok' {m : Nat} (l : List Int) {t : Int} (ht : 1 ≤ t ∧ t ≤ 10) (hm : m ≤ 10) : ∀ (js : List Nat), (∀ i ∈ js, i < m) → ∀ (B : Int) (s : LiftS), LiftOk m B s → LiftOk m (B + 100 * (js.length : Int)) (liftRows l m t js s)
  | [], _, B, s, h => by unfold liftRows; exact h.up (by simp)
  | j :: js, hj, B, s, h => by
    have h1 := liftRow_ok' l ht (hj j (List.mem_cons_self ..)) 0 h hm
    rw [List.drop_zero] at h1
    have := liftRows_ok' l ht hm js (fun x hx => hj x (List.mem_cons_of_mem _ hx)) _ _ h1
    rw [liftRows_cons]
    exact this.up (by rw [List.length_cons]; omega)
theorem liftStep_yes {l : List Int} {m : Nat} {t : Int} {s : LiftS} {i j : Nat} (h : (demP l m t i j).2 = true) (h2 : rd s.1 (j : Int) < rd s.1 (i : Int) + (demP l m t i j).1) :
    liftStep l m t s j i = (s.1.set j (rd s.1 (i : Int) + (demP l m t i j).1), s.2.1.set j (i : Int), (j : Int)) := by unfold liftStep; rw [if_pos ⟨h, h2⟩]
theorem liftStep_no {l : List Int} {m : Nat} {t : Int} {s : LiftS} {i j : Nat} (h : ¬ ((demP l m t i j).2 = true ∧ rd s.1 (j : Int) < rd s.1 (i : Int) + (demP l m t i j).1)) : liftStep l m t s j i = s := by unfold liftStep; rw [if_neg h]
theorem lift_zero_ok (m : Nat) : LiftOk m 0 (List.replicate m 0, List.replicate m 0, -1) := by
  refine ⟨by simp, by simp, fun x hx => ?_, fun x hx => ?_, by dsimp only; omega⟩
  · obtain ⟨h, e⟩ := List.mem_replicate.1 hx; omega
  · obtain ⟨h, e⟩ := List.mem_replicate.1 hx; omega
section
variable {m : Nat} {l : List Int} (hr : isRel (m : Int) l = true) {t : Int} (ht : 1 ≤ t ∧ t ≤ 10)
include hr ht
theorem seRow_ev {j : Nat} (hj : j < m) (r : Int) (Q : LiftS) : ∀ i, i ≤ m → ∀ (B : Int) (s : LiftS), LiftOk m B s → B + 10 * ((m - i : Nat) : Int) ≤ 1000000 →
    Ev (fun k => spec_seRounds.l1 k t (liftRow l m t j ((List.range m).drop i) s).1 (liftRow l m t j ((List.range m).drop i) s).2.1 (liftRow l m t j ((List.range m).drop i) s).2.2 r (m : Int) ((j + 1 : Nat) : Int) (m : Int) l) Q →
    Ev (fun k => spec_seRounds.l2 k t s.1 s.2.1 s.2.2 r (j : Int) (m : Int) (j : Int) (m : Int) (i : Int) (m : Int) l) Q := by
  obtain ⟨h1, h2⟩ := isRel_len hr
  refine L.down ?_ fun i hi ih => ?_
  · intro B s hs hB hk
    refine L.Ev.succ ?_
    simp only [spec_seRounds.l2]
    rw [range_drop_nil] at hk
    refine L.Ev.ifn (by omega) ?_
    rw [L.w64n (n := j) (by omega)]
    exact hk
  · intro B s hs hB hk
    rw [range_drop_cons hi, liftRow_cons] at hk
    have hd := demP_small l m i j ht
    have p1 := hs.rdp hi
    have p2 := hs.rdp hj
    have pl := hs.pl
    have rl := hs.rl
    have next := ih (B + 10) _ (liftStep_ok l ht hs hi hj) (by omega) hk
    refine L.Ev.succ ?_
    simp only [spec_seRounds.l2]
    rw [L.w64n (n := i) (by omega)]
    refine L.Ev.ifp (by omega) (Ev.bind (seDemand_ev hr ht hi hj) ?_)
    rw [L.w64 (x := rd s.1 (i : Int) + (demP l m t i j).1) (by omega) (by omega)]
    by_cases hc : (demP l m t i j).2 = true
    · refine L.Ev.ifp hc (L.Ev.ifp (by omega) (L.Ev.ifp (by omega) (L.Ev.ifp (by omega) (L.Ev.ifp (by omega) ?_))))
      by_cases hc2 : rd s.1 (j : Int) < rd s.1 (i : Int) + (demP l m t i j).1
      · rw [liftStep_yes hc hc2] at next
        refine L.Ev.ifp hc2 (L.Ev.ifp (by omega) ?_)
        rw [Int.toNat_natCast]
        exact next
      · rw [liftStep_no (by rintro ⟨_, h⟩; exact hc2 h)] at next
        exact L.Ev.ifn hc2 next
    · rw [liftStep_no (by rintro ⟨h, _⟩; exact hc h)] at next
      exact L.Ev.ifn hc next
theorem seRows_ev (r : Nat) (hr2 : r ≤ m) (Q : LiftS) : ∀ j, j ≤ m → ∀ (B : Int) (s : LiftS), LiftOk m B s → B + 100 * ((m - j : Nat) : Int) ≤ 999000 →
    (let S := liftRows l m t ((List.range m).drop j) s
     Ev (fun k => if S.2.2 < 0 then some (S.1, S.2.1, S.2.2) else spec_seRounds.l0 k t S.1 S.2.1 S.2.2 ((r + 1 : Nat) : Int) (m : Int) l) Q) →
    Ev (fun k => spec_seRounds.l1 k t s.1 s.2.1 s.2.2 (r : Int) (m : Int) (j : Int) (m : Int) l) Q := by
  obtain ⟨h1, h2⟩ := isRel_len hr
  refine L.down ?_ fun j hj ih => ?_
  · intro B s hs hB hk
    dsimp only at hk
    refine L.Ev.succ ?_
    simp only [spec_seRounds.l1]
    rw [range_drop_nil] at hk
    refine L.Ev.ifn (by omega) ?_
    rw [L.w64n (n := r) (by omega)]
    exact hk
  · intro B s hs hB hk
    dsimp only at hk
    rw [range_drop_cons hj, liftRows_cons] at hk
    have ok := liftRow_ok' l ht hj 0 hs h2
    rw [List.drop_zero] at ok
    have next := ih (B + 100) _ ok (by omega) hk
    refine L.Ev.succ ?_
    simp only [spec_seRounds.l1]
    rw [hs.pl]
    refine L.Ev.ifp (by omega) ?_
    exact seRow_ev hr ht hj (r : Int) Q 0 (by omega) B s hs (by omega) (by rw [List.drop_zero]; exact next)
theorem seRounds_loop : ∀ n r, r + n = m + 1 → ∀ (B : Int) (s : LiftS), LiftOk m B s → B + 1000 * (n : Int) ≤ 900000 →
    Ev (fun k => spec_seRounds.l0 k t s.1 s.2.1 s.2.2 (r : Int) (m : Int) l) (liftRounds l m t n s) := by
  obtain ⟨h1, h2⟩ := isRel_len hr
  intro n
  induction n with
  | zero =>
    intro r hrn B s hs hB
    refine L.Ev.succ ?_
    simp only [spec_seRounds.l0]
    exact L.Ev.ifn (by omega) (Ev.now _)
  | succ n ihn =>
    intro r hrn B s hs hB
    have hs' : LiftOk m B (s.1, s.2.1, -1) := ⟨hs.pl, hs.rl, hs.p, hs.r, by dsimp only; omega⟩
    have ok := liftRows_ok' l ht h2 (List.range m) (fun x hx => List.mem_range.1 hx) B _ hs'
    rw [List.length_range] at ok
    refine L.Ev.succ ?_
    simp only [spec_seRounds.l0]
    rw [hs.pl]
    refine L.Ev.ifp (by omega) ?_
    refine seRows_ev hr ht r (by omega) _ 0 (by omega) B (s.1, s.2.1, -1) hs' (by omega) ?_
    dsimp only
    rw [List.drop_zero]
    unfold liftRounds
    by_cases hc : (liftRows l m t (List.range m) (s.1, s.2.1, -1)).2.2 < 0
    · rw [if_pos hc]; exact L.Ev.ifp hc (Ev.now _)
    · rw [if_neg hc]; exact L.Ev.ifn hc (ihn (r + 1) (by omega) (B + 1000) _ (ok.up (by omega)) (by omega))
theorem seRounds_ev : Ev (fun k => spec_seRounds.f k (m : Int) l t) (liftRounds l m t (m + 1) (List.replicate m 0, List.replicate m 0, -1)) := by
  obtain ⟨h1, h2⟩ := isRel_len hr
  unfold spec_seRounds.f
  refine L.Ev.ifp (by omega) (L.Ev.ifp (by rw [Int.toNat_natCast]; omega) ?_)
  rw [Int.toNat_natCast]
  exact seRounds_loop hr ht (m + 1) 0 (by omega) 0 _ (lift_zero_ok m) (by omega)
/-- the element that was changed last, in the program. -/
def lastOf (o x : Int) : Int := if x < 0 then o else x
theorem liRow_ev {j : Nat} (hj : j < m) (r : Int) (o : Int) (Q : List Int × List Int × Int × Bool) : ∀ i, i ≤ m → ∀ (B : Int) (s : LiftS), LiftOk m B s → B + 10 * ((m - i : Nat) : Int) ≤ 1000000 →
    Ev (fun k => impl_Order_lift.l1 k t (liftRow l m t j ((List.range m).drop i) s).1 (liftRow l m t j ((List.range m).drop i) s).2.1 (lastOf o (liftRow l m t j ((List.range m).drop i) s).2.2) (decide (0 ≤ (liftRow l m t j ((List.range m).drop i) s).2.2)) ((m + 1 : Nat) : Int) r (m : Int) ((j + 1 : Nat) : Int) (m : Int) l) Q →
    Ev (fun k => impl_Order_lift.l2 k t s.1 s.2.1 (lastOf o s.2.2) (decide (0 ≤ s.2.2)) (j : Int) ((m + 1 : Nat) : Int) r (m : Int) (j : Int) (m : Int) (i : Int) (m : Int) l) Q := by
  obtain ⟨h1, h2⟩ := isRel_len hr
  refine L.down ?_ fun i hi ih => ?_
  · intro B s hs hB hk
    refine L.Ev.succ ?_
    simp only [impl_Order_lift.l2]
    rw [range_drop_nil] at hk
    refine L.Ev.ifn (by omega) ?_
    rw [L.w64n (n := j) (by omega)]
    exact hk
  · intro B s hs hB hk
    rw [range_drop_cons hi, liftRow_cons] at hk
    have hd := demP_small l m i j ht
    have p1 := hs.rdp hi
    have p2 := hs.rdp hj
    have pl := hs.pl
    have rl := hs.rl
    have next := ih (B + 10) _ (liftStep_ok l ht hs hi hj) (by omega) hk
    refine L.Ev.succ ?_
    simp only [impl_Order_lift.l2]
    rw [L.w64n (n := i) (by omega)]
    refine L.Ev.ifp (by omega) (L.Ev.bindc (demand_eq hr ht hi hj) ?_)
    rw [L.w64 (x := rd s.1 (i : Int) + (demP l m t i j).1) (by omega) (by omega)]
    by_cases hc : (demP l m t i j).2 = true
    · refine L.Ev.ifp hc (L.Ev.ifp (by omega) (L.Ev.ifp (by omega) (L.Ev.ifp (by omega) (L.Ev.ifp (by omega) ?_))))
      by_cases hc2 : rd s.1 (j : Int) < rd s.1 (i : Int) + (demP l m t i j).1
      · rw [liftStep_yes hc hc2] at next
        refine L.Ev.ifp hc2 (L.Ev.ifp (by omega) ?_)
        rw [Int.toNat_natCast]
        have e1 : lastOf o (j : Int) = (j : Int) := by unfold lastOf; rw [if_neg (by omega)]
        have e2 : decide (0 ≤ (j : Int)) = true := decide_eq_true (by omega)
        dsimp only at next
        rw [e1, e2] at next
        exact next
      · rw [liftStep_no (by rintro ⟨_, h⟩; exact hc2 h)] at next
        exact L.Ev.ifn hc2 next
    · rw [liftStep_no (by rintro ⟨h, _⟩; exact hc h)] at next
      exact L.Ev.ifn hc next
theorem liRows_ev (r : Nat) (hr2 : r ≤ m) (o : Int) (Q : List Int × List Int × Int × Bool) : ∀ j, j ≤ m → ∀ (B : Int) (s : LiftS), LiftOk m B s → B + 100 * ((m - j : Nat) : Int) ≤ 999000 →
    (let S := liftRows l m t ((List.range m).drop j) s
     Ev (fun k => if S.2.2 < 0 then some (S.1, [], 0, false) else impl_Order_lift.l0 k t S.1 S.2.1 (lastOf o S.2.2) ((m + 1 : Nat) : Int) ((r + 1 : Nat) : Int) (m : Int) l) Q) →
    Ev (fun k => impl_Order_lift.l1 k t s.1 s.2.1 (lastOf o s.2.2) (decide (0 ≤ s.2.2)) ((m + 1 : Nat) : Int) (r : Int) (m : Int) (j : Int) (m : Int) l) Q := by
  obtain ⟨h1, h2⟩ := isRel_len hr
  refine L.down ?_ fun j hj ih => ?_
  · intro B s hs hB hk
    dsimp only at hk
    refine L.Ev.succ ?_
    simp only [impl_Order_lift.l1]
    rw [range_drop_nil] at hk
    refine L.Ev.ifn (by omega) ?_
    rw [L.w64n (n := r) (by omega)]
    refine Ev.congr (fun k => ?_) hk
    have e : liftRows l m t [] s = s := rfl
    rw [e]
    by_cases hc : s.2.2 < 0
    · rw [if_pos hc, if_neg (by simp; omega)]
    · rw [if_neg hc, if_pos (by simp; omega)]
  · intro B s hs hB hk
    dsimp only at hk
    rw [range_drop_cons hj, liftRows_cons] at hk
    have ok := liftRow_ok' l ht hj 0 hs h2
    rw [List.drop_zero] at ok
    have next := ih (B + 100) _ ok (by omega) hk
    refine L.Ev.succ ?_
    simp only [impl_Order_lift.l1]
    refine L.Ev.ifp (by omega) ?_
    exact liRow_ev hr ht hj (r : Int) o Q 0 (by omega) B s hs (by omega) (by rw [List.drop_zero]; exact next)
theorem lift_loop : ∀ n r, r + n = m + 1 → ∀ (B : Int) (s : LiftS) (o : Int), LiftOk m B s → B + 1000 * (n : Int) ≤ 900000 →
    Ev (fun k => impl_Order_lift.l0 k t s.1 s.2.1 o ((m + 1 : Nat) : Int) (r : Int) (m : Int) l) (liftRes l m t n s o) := by
  obtain ⟨h1, h2⟩ := isRel_len hr
  intro n
  induction n with
  | zero =>
    intro r hrn B s o hs hB
    refine L.Ev.succ ?_
    simp only [impl_Order_lift.l0]
    exact L.Ev.ifn (by omega) (Ev.now _)
  | succ n ihn =>
    intro r hrn B s o hs hB
    have hs' : LiftOk m B (s.1, s.2.1, -1) := ⟨hs.pl, hs.rl, hs.p, hs.r, by dsimp only; omega⟩
    have ok := liftRows_ok' l ht h2 (List.range m) (fun x hx => List.mem_range.1 hx) B _ hs'
    rw [List.length_range] at ok
    refine L.Ev.succ ?_
    simp only [impl_Order_lift.l0]
    refine L.Ev.ifp (by omega) ?_
    have go := liRows_ev hr ht r (by omega) o (liftRes l m t (n + 1) s o) 0 (by omega) B (s.1, s.2.1, -1) hs' (by omega) ?_
    · exact go
    dsimp only
    rw [List.drop_zero]
    unfold liftRes
    by_cases hc : (liftRows l m t (List.range m) (s.1, s.2.1, -1)).2.2 < 0
    · rw [if_pos hc]; exact L.Ev.ifp hc (Ev.now _)
    · rw [if_neg hc]
      have e : lastOf o (liftRows l m t (List.range m) (s.1, s.2.1, -1)).2.2 = (liftRows l m t (List.range m) (s.1, s.2.1, -1)).2.2 := by unfold lastOf; rw [if_neg hc]
      rw [e]
      exact L.Ev.ifn hc (ihn (r + 1) (by omega) (B + 1000) _ _ (ok.up (by omega)) (by omega))
theorem lift_ev : Ev (fun k => impl_Order_lift.f k (m : Int) l t) (liftFin (liftRounds l m t (m + 1) (List.replicate m 0, List.replicate m 0, -1))) := by
  obtain ⟨h1, h2⟩ := isRel_len hr
  unfold impl_Order_lift.f
  refine L.Ev.ifp (by omega) (L.Ev.ifp (by rw [Int.toNat_natCast]; omega) ?_)
  rw [Int.toNat_natCast, L.w64n (n := m) (by omega), ← liftRes_start l m t m _ 0]
  exact lift_loop hr ht (m + 1) 0 (by omega) 0 _ 0 (lift_zero_ok m) (by omega)
end
end Go.Proofs.YtbodhioladafnaaDoor.P

/-! ### PuThreshold -/
/- Plain laws: thresholds, in the program. -/
namespace Go.Proofs.YtbodhioladafnaaDoor.P
open Go.RowKit Go.Proofs.YtbodhioladafnaaDoorW.PrintWords Go.Proofs.YtbodhioladafnaaDoorW.PrintLast Go.Proofs.YtbodhioladafnaaDoorW.PrintMore L
set_option linter.unusedVariables false
set_option linter.unusedSimpArgs false
theorem isThreshold_ev (n : Int) (l : List Int) (a : Int) (hl : l.length ≤ 1048576) : Ev (fun k => impl_isThreshold.f k n l a) (isOrd n l && decide (1 ≤ a ∧ a ≤ 10)) := by
  unfold impl_isThreshold.f
  refine Ev.bind (IsOrder_ev n l hl) ?_
  cases h : isOrd n l with
  | false => exact L.Ev.ifn (by simp) (by rw [Bool.false_and]; exact Ev.now _)
  | true => exact L.Ev.ifp rfl (L.Ev.bindc (within_eq _ _ _) (by rw [Bool.true_and]; exact Ev.now _))
end Go.Proofs.YtbodhioladafnaaDoor.P

/-! ### PuCycle -/
/- Plain laws: rows turned about, the first least number's place, rows put together; in the program and in the reference. -/
namespace Go.Proofs.YtbodhioladafnaaDoor.P
open Go.RowKit Go.Proofs.YtbodhioladafnaaDoorW.PrintWords Go.Proofs.YtbodhioladafnaaDoorW.PrintLast Go.Proofs.YtbodhioladafnaaDoorW.PrintMore L
set_option linter.unusedVariables false
set_option linter.unusedSimpArgs false
/-- a row whose first and last i numbers have changed places. -/
def revAt (l : List Int) (i : Nat) : List Int := (List.range l.length).map fun k => if k < i ∨ l.length ≤ k + i then l.getD (l.length - 1 - k) 0 else l.getD k 0
theorem revAt_length (l : List Int) (i : Nat) : (revAt l i).length = l.length := by simp [revAt]
theorem revAt_get (l : List Int) (i k : Nat) (h : k < l.length) : (revAt l i)[k]'(by rw [revAt_length]; exact h) = if k < i ∨ l.length ≤ k + i then l.getD (l.length - 1 - k) 0 else l.getD k 0 := by
  simp [revAt]
theorem revAt_zero (l : List Int) : revAt l 0 = l := by
  refine List.ext_getElem (revAt_length l 0) fun k h1 h2 => ?_
  rw [revAt_get l 0 k h2, if_neg (by omega), List.getD_eq_getElem?_getD, List.getElem?_eq_getElem h2]; rfl
theorem revAt_end (l : List Int) (i : Nat) (h : l.length ≤ 2 * i + 1) (h2 : 2 * i ≤ l.length) : revAt l i = l.reverse := by
  refine List.ext_getElem (by rw [revAt_length, List.length_reverse]) fun k h3 h4 => ?_
  rw [revAt_length] at h3
  have e : l.reverse[k]'h4 = l.getD (l.length - 1 - k) 0 := by
    rw [List.getElem_reverse, List.getD_eq_getElem?_getD, List.getElem?_eq_getElem (by omega)]; rfl
  rw [revAt_get l i k h3, e]
  by_cases hc : k < i ∨ l.length ≤ k + i
  · rw [if_pos hc]
  · rw [if_neg hc, show l.length - 1 - k = k by omega]
theorem revAt_step (l : List Int) (i : Nat) (h : 2 * i + 2 ≤ l.length) : ((revAt l i).set i (rd (revAt l i) ((l.length - 1 - i : Nat) : Int))).set (l.length - 1 - i) (rd (revAt l i) (i : Int)) = revAt l (i + 1) := by
  have a1 : rd (revAt l i) ((l.length - 1 - i : Nat) : Int) = l.getD (l.length - 1 - i) 0 := by
    rw [L.rd_get (by rw [revAt_length]; omega), revAt_get l i _ (by omega), if_neg (by omega)]
  have a2 : rd (revAt l i) (i : Int) = l.getD i 0 := by
    rw [L.rd_get (by rw [revAt_length]; omega), revAt_get l i _ (by omega), if_neg (by omega)]
  rw [a1, a2]
  refine List.ext_getElem (by simp [revAt_length]) fun k h3 h4 => ?_
  rw [revAt_length] at h4
  rw [List.getElem_set, List.getElem_set, revAt_get l i k h4, revAt_get l (i + 1) k h4]
  by_cases c1 : l.length - 1 - i = k
  · rw [if_pos c1, if_pos (by omega), show l.length - 1 - k = i by omega]
  · rw [if_neg c1]
    by_cases c2 : i = k
    · rw [if_pos c2, if_pos (by omega), c2]
    · rw [if_neg c2]
      by_cases c3 : k < i ∨ l.length ≤ k + i
      · rw [if_pos c3, if_pos (by omega)]
      · rw [if_neg c3, if_neg (by omega)]
theorem reverse_ev (l : List Int) (hl : l.length ≤ 1048576) : Ev (fun k => slices_Reverse_int_int.f k l) l.reverse := by
  have key : ∀ i, i ≤ l.length / 2 → Ev (fun k => slices_Reverse_int_int.l0 k (revAt l i) (i : Int) ((l.length : Int) - 1 - (i : Int))) l.reverse := by
    refine L.down ?_ fun i hi ih => ?_
    · refine L.Ev.succ ?_
      simp only [slices_Reverse_int_int.l0]
      rw [revAt_end l (l.length / 2) (by omega) (by omega)]
      exact L.Ev.ifn (by omega) (Ev.now _)
    · refine L.Ev.succ ?_
      simp only [slices_Reverse_int_int.l0]
      have e1 : (l.length : Int) - 1 - (i : Int) = ((l.length - 1 - i : Nat) : Int) := by omega
      rw [e1]
      refine L.Ev.ifp (by omega) (L.Ev.ifp (by omega) (L.Ev.ifp (by rw [revAt_length]; omega) (L.Ev.ifp (by omega) (L.Ev.ifp (by rw [revAt_length]; omega) ?_))))
      rw [Int.toNat_natCast, Int.toNat_natCast, revAt_step l i (by omega), L.w64n (by omega), L.w64 (by omega) (by omega)]
      rw [show (l.length : Int) - 1 - ((i + 1 : Nat) : Int) = ((l.length - 1 - i : Nat) : Int) - 1 by omega] at ih
      exact ih
  have h0 := key 0 (by omega)
  rw [revAt_zero] at h0
  unfold slices_Reverse_int_int.f
  refine Ev.congr (fun k => ?_) h0
  rw [L.w64 (by omega) (by omega)]
  simp
/-- the place of the first least one of the first i numbers. -/
def amin (l : List Int) : Nat → Nat
  | 0 => 0
  | i + 1 => if l.getD i 0 < l.getD (amin l i) 0 then i else amin l i
theorem amin_succ (l : List Int) (i : Nat) : amin l (i + 1) = if l.getD i 0 < l.getD (amin l i) 0 then i else amin l i := rfl
theorem amin_le (l : List Int) : ∀ i, amin l i ≤ i
  | 0 => Nat.le_refl _
  | i + 1 => by
    have := amin_le l i
    unfold amin
    split <;> omega
theorem amin_lt (l : List Int) (i : Nat) (h : 0 < i) : amin l i < i := by
  cases i with
  | zero => omega
  | succ i =>
    have := amin_le l i
    unfold amin
    split <;> omega
theorem amin_min (l : List Int) : ∀ i k, k < i → l.getD (amin l i) 0 ≤ l.getD k 0
  | 0, k, h => by omega
  | i + 1, k, h => by
    unfold amin
    by_cases hk : k < i
    · have := amin_min l i k hk
      split
      · omega
      · exact this
    · have e : k = i := by omega
      subst e
      split <;> omega
theorem amin_first (l : List Int) : ∀ i k, k < amin l i → l.getD (amin l i) 0 < l.getD k 0
  | 0, k, h => by simp [amin] at h
  | i + 1, k, h => by
    unfold amin at h ⊢
    split
    · rename_i hc
      rw [if_pos hc] at h
      have := amin_min l i k h
      omega
    · rename_i hc
      rw [if_neg hc] at h
      exact amin_first l i k h
theorem rd_nat' (l : List Int) (i : Nat) : rd l (i : Int) = l.getD i 0 := L.rd_nat l i
theorem fromLeast_ev (l : List Int) (h0 : 0 < l.length) (hl : l.length ≤ 1048576) : Ev (fun k => spec_seFromLeast.f k l) (l.drop (amin l l.length) ++ l.take (amin l l.length)) := by
  have key : ∀ i, i ≤ l.length → Ev (fun k => spec_seFromLeast.l0 k l ((amin l i : Nat) : Int) l (l.length : Int) (i : Int)) (l.drop (amin l l.length) ++ l.take (amin l l.length)) := by
    refine L.down ?_ fun i hi ih => ?_
    · have ha := amin_lt l l.length h0
      refine L.Ev.succ ?_
      simp only [spec_seFromLeast.l0]
      rw [Int.toNat_natCast]
      have e : spec_l1Own.f (l.drop (amin l l.length)) = some (l.drop (amin l l.length)) := by
        unfold spec_l1Own.f
        simp only [Option.bind_some, List.length_nil, List.nil_append]
        rw [if_pos (by rw [List.length_drop]; omega)]
      exact L.Ev.ifn (by omega) (L.Ev.ifp (by omega) (L.Ev.ifp (by omega) (L.Ev.bindc e (L.Ev.ifp (by rw [List.length_drop, List.length_take]; omega) (Ev.now _)))))
    · have ha := amin_le l i
      refine L.Ev.succ ?_
      simp only [spec_seFromLeast.l0]
      rw [rd_nat', rd_nat', L.w64n (by omega)]
      rw [amin_succ] at ih
      refine L.Ev.ifp (by omega) (L.Ev.ifp (by omega) (L.Ev.ifp (by omega) (L.Ev.ifp (by omega) (L.Ev.ifp (by omega) ?_))))
      by_cases hc : l.getD i 0 < l.getD (amin l i) 0
      · rw [if_pos hc] at ih; exact L.Ev.ifp hc ih
      · rw [if_neg hc] at ih; exact L.Ev.ifn hc ih
  unfold spec_seFromLeast.f
  exact key 0 (by omega)
theorem minR_ev (l : List Int) (h0 : 0 < l.length) (hl : l.length ≤ 1048576) : Ev (fun k => slices_Min_int_int.f k l) (l.getD (amin l l.length) 0) := by
  have key : ∀ i, i ≤ l.length → 0 < i → Ev (fun k => slices_Min_int_int.l0 k l (l.getD (amin l i) 0) (i : Int)) (l.getD (amin l l.length) 0) := by
    refine L.down ?_ fun i hi ih => ?_
    · intro _
      refine L.Ev.succ ?_
      simp only [slices_Min_int_int.l0]
      exact L.Ev.ifn (by omega) (Ev.now _)
    · intro hp
      have ih := ih (by omega)
      refine L.Ev.succ ?_
      simp only [slices_Min_int_int.l0]
      rw [rd_nat', L.w64n (by omega)]
      rw [amin_succ] at ih
      refine L.Ev.ifp (by omega) (L.Ev.ifp (by omega) ?_)
      unfold mn
      by_cases hc : l.getD i 0 < l.getD (amin l i) 0
      · rw [if_pos hc] at ih ⊢; exact ih
      · rw [if_neg hc] at ih ⊢; exact ih
  have h1 := key 1 (by omega) (by omega)
  have e1 : amin l 1 = 0 := by simp [amin]
  rw [e1] at h1
  unfold slices_Min_int_int.f
  refine L.Ev.ifn (by omega) (L.Ev.succ ?_)
  simp only [slices_Min_int_int.j0]
  refine L.Ev.ifp (by omega) ?_
  have e2 : rd l 0 = l.getD 0 0 := rd_nat' l 0
  rw [e2]
  exact h1
theorem indexR_ev (l : List Int) (h0 : 0 < l.length) (hl : l.length ≤ 1048576) : Ev (fun k => slices_Index_int_int.f k l (l.getD (amin l l.length) 0)) ((amin l l.length : Nat) : Int) := by
  have ha := amin_lt l l.length h0
  have hf := amin_first l l.length
  generalize amin l l.length = a at ha hf
  have key : ∀ i, i ≤ a → Ev (fun k => slices_Index_int_int.l0 k l (l.getD a 0) (l.length : Int) (i : Int)) (a : Int) := by
    refine L.down ?_ fun i hi ih => ?_
    · refine L.Ev.succ ?_
      simp only [slices_Index_int_int.l0]
      rw [rd_nat']
      exact L.Ev.ifp (by omega) (L.Ev.ifp (by omega) (L.Ev.ifp (by omega) (L.Ev.ifp rfl (Ev.now _))))
    · refine L.Ev.succ ?_
      simp only [slices_Index_int_int.l0]
      rw [rd_nat', L.w64n (by omega)]
      have := hf i hi
      exact L.Ev.ifp (by omega) (L.Ev.ifp (by omega) (L.Ev.ifp (by omega) (L.Ev.ifn (by omega) ih)))
  exact key 0 (by omega)
theorem concat_ev (x y : List Int) (hl : x.length + y.length ≤ 1048576) : Ev (fun k => slices_Concat_int_int.f k [x, y]) (x ++ y) := by
  have r0 : rd_L2 [x, y] 0 = x := rfl
  have r1 : rd_L2 [x, y] 1 = y := rfl
  have w1 : wrap64 (0 + 1) = 1 := L.w64 (by omega) (by omega)
  have w2 : wrap64 (1 + 1) = 2 := L.w64 (by omega) (by omega)
  unfold slices_Concat_int_int.f
  simp only [List.length_cons, List.length_nil]
  refine L.Ev.succ ?_
  simp only [slices_Concat_int_int.l0]
  rw [r0, w1, L.w64 (x := 0 + (x.length : Int)) (by omega) (by omega)]
  refine L.Ev.ifp (by omega) (L.Ev.ifp (by omega) (L.Ev.ifp (by simp) (L.Ev.ifn (by omega) (L.Ev.succ ?_))))
  simp only [slices_Concat_int_int.l0]
  rw [r1, w2, L.w64 (x := 0 + (x.length : Int) + (y.length : Int)) (by omega) (by omega)]
  refine L.Ev.ifp (by omega) (L.Ev.ifp (by omega) (L.Ev.ifp (by simp) (L.Ev.ifn (by omega) (L.Ev.succ ?_))))
  simp only [slices_Concat_int_int.l0]
  refine L.Ev.ifn (by omega) (L.Ev.bindc (a := []) (by unfold slices_Grow_int_int.f; rw [if_pos ⟨rfl, by omega, by omega⟩]) (L.Ev.succ ?_))
  simp only [slices_Concat_int_int.l1, List.length_cons, List.length_nil]
  rw [r0, w1]
  refine L.Ev.ifp (by omega) (L.Ev.ifp (by omega) (L.Ev.ifp (by omega) (L.Ev.ifp (by omega) (L.Ev.succ ?_))))
  simp only [slices_Concat_int_int.l1, List.length_cons, List.length_nil]
  rw [r1, w2]
  refine L.Ev.ifp (by omega) (L.Ev.ifp (by omega) (L.Ev.ifp (by omega) (L.Ev.ifp (by rw [List.nil_append]; omega) (L.Ev.succ ?_))))
  simp only [slices_Concat_int_int.l1, List.length_cons, List.length_nil]
  rw [List.nil_append]
  exact L.Ev.ifn (by omega) (Ev.now _)
end Go.Proofs.YtbodhioladafnaaDoor.P

/-! ### PuDilworth -/
/- Plain law: an order whose sets of incomparable elements have at most w elements falls into w chains (Dilworth); for every such order below n. -/
namespace Go.Proofs.YtbodhioladafnaaDoor.Dil
set_option linter.unusedVariables false
set_option linter.unusedSimpArgs false
section
variable {n : Nat} {r : Nat → Nat → Bool}
theorem nodup_range_le : ∀ (w : Nat) (l : List Nat), l.Nodup → (∀ x ∈ l, x < w) → l.length ≤ w := by
  intro w
  induction w with
  | zero =>
    intro l _ h
    cases l with
    | nil => simp
    | cons x l => have := h x (List.mem_cons_self ..); omega
  | succ w ih =>
    intro l hn h
    have h1 := ih (l.filter fun x => x != w) (hn.filter _) (fun x hx => by
      obtain ⟨h1, h2⟩ := List.mem_filter.1 hx
      have := h x h1
      have : x ≠ w := by simpa using h2
      omega)
    have h2 : l.length ≤ (l.filter fun x => x != w).length + 1 := by
      clear h h1 ih
      induction l with
      | nil => simp
      | cons y l ih =>
        obtain ⟨ha, hb⟩ := List.nodup_cons.1 hn
        rw [List.filter_cons]
        by_cases e : y = w
        · subst e
          have : (l.filter fun x => x != y) = l := List.filter_eq_self.2 fun x hx => by
            have : x ≠ y := fun e => ha (e ▸ hx)
            simpa using this
          simp [this]
        · have := ih hb
          simp [e]; omega
    omega
theorem mem_of_full {w : Nat} {l : List Nat} (hn : l.Nodup) (h : ∀ x ∈ l, x < w) (hl : l.length = w) {i : Nat} (hi : i < w) : i ∈ l := by
  refine Classical.byContradiction fun hc => ?_
  have := nodup_range_le w (i :: l) (List.nodup_cons.2 ⟨hc, hn⟩) (fun x hx => by
    rcases List.mem_cons.1 hx with rfl | hx
    · exact hi
    · exact h x hx)
  simp at this; omega
/-- how many numbers below n have p. -/
def cnt (n : Nat) (p : Nat → Bool) : Nat := ((List.range n).filter p).length
theorem filter_len_le {p q : Nat → Bool} (l : List Nat) (h : ∀ x ∈ l, p x = true → q x = true) : (l.filter p).length ≤ (l.filter q).length := by
  induction l with
  | nil => simp
  | cons y l ih =>
    have i := ih fun x hx => h x (List.mem_cons_of_mem _ hx)
    have hy := h y (List.mem_cons_self ..)
    rw [List.filter_cons, List.filter_cons]
    cases hp : p y with
    | true => rw [hy hp]; simp; omega
    | false => cases q y <;> simp <;> omega
theorem filter_len_lt {p q : Nat → Bool} (l : List Nat) (h : ∀ x ∈ l, p x = true → q x = true) (a : Nat) (ha : a ∈ l) (hq : q a = true) (hp : p a = false) : (l.filter p).length < (l.filter q).length := by
  induction l with
  | nil => cases ha
  | cons y l ih =>
    have hl := fun x hx => h x (List.mem_cons_of_mem y hx)
    have hy := h y (List.mem_cons_self ..)
    rw [List.filter_cons, List.filter_cons]
    by_cases e : y = a
    · subst e
      have := filter_len_le l hl
      rw [hp, hq]; simp; omega
    · have ha' : a ∈ l := (List.mem_cons.1 ha).resolve_left fun e' => e e'.symm
      have i := ih hl ha'
      cases hpy : p y with
      | true => rw [hy hpy]; simp; omega
      | false => cases q y <;> simp <;> omega
theorem cnt_lt {p q : Nat → Bool} (h : ∀ x, x < n → p x = true → q x = true) {a : Nat} (ha : a < n) (hq : q a = true) (hp : p a = false) : cnt n p < cnt n q :=
  filter_len_lt _ (fun x hx => h x (List.mem_range.1 hx)) a (List.mem_range.2 ha) hq hp
theorem exists_max (hirr : ∀ i, r i i = false) (htr : ∀ i j k, r i j = true → r j k = true → r i k = true) (p : Nat → Prop) (hp : ∀ x, p x → x < n) :
    ∀ x, p x → ∃ m, p m ∧ ∀ y, p y → r m y = false := by
  have key : ∀ d x, p x → cnt n (fun y => r x y) ≤ d → ∃ m, p m ∧ ∀ y, p y → r m y = false := by
    intro d
    induction d with
    | zero =>
      intro x hx hd
      refine ⟨x, hx, fun y hy => ?_⟩
      cases h : r x y with
      | false => rfl
      | true =>
        have : y ∈ (List.range n).filter fun y => r x y := List.mem_filter.2 ⟨List.mem_range.2 (hp y hy), h⟩
        have := List.length_pos_of_mem this
        unfold cnt at hd; omega
    | succ d ih =>
      intro x hx hd
      by_cases hc : ∃ y, p y ∧ r x y = true
      · obtain ⟨y, hy, hxy⟩ := hc
        refine ih y hy ?_
        have := cnt_lt (n := n) (p := fun z => r y z) (q := fun z => r x z) (fun z _ hz => htr x y z hxy hz) (hp y hy) hxy (hirr y)
        omega
      · refine ⟨x, hx, fun y hy => ?_⟩
        cases h : r x y with
        | false => rfl
        | true => exact absurd ⟨y, hy, h⟩ hc
  exact fun x hx => key _ x hx (Nat.le_refl _)
/-- a list of elements no two of which are comparable. -/
structure Anti (r : Nat → Nat → Bool) (S : Nat → Bool) (A : List Nat) : Prop where
  nodup : A.Nodup
  mem : ∀ x ∈ A, S x = true
  free : ∀ x ∈ A, ∀ y ∈ A, r x y = false
theorem Anti.mono {S T : Nat → Bool} {A : List Nat} (h : Anti r S A) (hs : ∀ x, S x = true → T x = true) : Anti r T A := ⟨h.nodup, fun x hx => hs x (h.mem x hx), h.free⟩
def Chains (r : Nat → Nat → Bool) (S : Nat → Bool) (w : Nat) (c : Nat → Nat) : Prop :=
  (∀ i, S i = true → c i < w) ∧ ∀ i j, S i = true → S j = true → i ≠ j → c i = c j → r i j = true ∨ r j i = true
theorem map_nodup {A : List Nat} {f : Nat → Nat} (hn : A.Nodup) (h : ∀ x ∈ A, ∀ y ∈ A, f x = f y → x = y) : (A.map f).Nodup := by
  induction A with
  | nil => simp
  | cons a A ih =>
    obtain ⟨h1, h2⟩ := List.nodup_cons.1 hn
    rw [List.map_cons, List.nodup_cons]
    refine ⟨fun hm => ?_, ih h2 fun x hx y hy => h x (List.mem_cons_of_mem _ hx) y (List.mem_cons_of_mem _ hy)⟩
    obtain ⟨b, hb, e⟩ := List.mem_map.1 hm
    have := h b (List.mem_cons_of_mem _ hb) a (List.mem_cons_self ..) e
    exact h1 (this ▸ hb)
/-- an antichain with as many elements as there are chains meets each chain. -/
theorem hits {S : Nat → Bool} {w : Nat} {c : Nat → Nat} (hc : Chains r S w c) {A : List Nat} (hA : Anti r S A) (hl : A.length = w) {i : Nat} (hi : i < w) : ∃ x ∈ A, c x = i := by
  have := mem_of_full (w := w) (l := A.map c) (map_nodup hA.nodup fun x hx y hy e => by
    refine Classical.byContradiction fun hne => ?_
    rcases hc.2 x y (hA.mem x hx) (hA.mem y hy) hne e with h | h
    · rw [hA.free x hx y hy] at h; cases h
    · rw [hA.free y hy x hx] at h; cases h) (fun x hx => by
    obtain ⟨y, hy, rfl⟩ := List.mem_map.1 hx
    exact hc.1 y (hA.mem y hy)) (by simpa using hl) hi
  obtain ⟨x, hx, e⟩ := List.mem_map.1 this
  exact ⟨x, hx, e⟩
theorem dilworth (hirr : ∀ i, r i i = false) (htr : ∀ i j k, r i j = true → r j k = true → r i k = true) :
    ∀ (d : Nat) (S : Nat → Bool) (w : Nat), (∀ x, S x = true → x < n) → cnt n S ≤ d → (∀ A, Anti r S A → A.length ≤ w) → ∃ c, Chains r S w c := by
  intro d
  induction d with
  | zero =>
    intro S w hS hd _
    refine ⟨fun _ => 0, fun i hi => ?_, fun i j hi => ?_⟩ <;>
    · have : i ∈ (List.range n).filter S := List.mem_filter.2 ⟨List.mem_range.2 (hS i hi), hi⟩
      have := List.length_pos_of_mem this
      unfold cnt at hd; omega
  | succ d ih =>
    intro S w hS hd hw
    by_cases hne : ∃ x, S x = true
    case neg => exact ⟨fun _ => 0, fun i hi => absurd ⟨i, hi⟩ hne, fun i _ hi => absurd ⟨i, hi⟩ hne⟩
    obtain ⟨x0, hx0⟩ := hne
    obtain ⟨a, ha, hmax⟩ := exists_max (n := n) hirr htr (fun x => S x = true) hS x0 hx0
    have hw1 : 1 ≤ w := hw [a] ⟨by simp, by simpa using ha, by simp [hirr]⟩
    obtain ⟨S', hS'⟩ : ∃ S' : Nat → Bool, ∀ x, S' x = true ↔ S x = true ∧ x ≠ a := ⟨fun x => S x && decide (x ≠ a), fun x => by simp⟩
    have hsub : ∀ x, S' x = true → S x = true := fun x hx => ((hS' x).1 hx).1
    have hna : S' a = false := by cases h : S' a with | false => rfl | true => exact absurd rfl ((hS' a).1 h).2
    have hcnt : cnt n S' ≤ d := by
      have := cnt_lt (n := n) (p := S') (q := S) (fun x _ => hsub x) (hS a ha) ha hna
      omega
    by_cases hw' : ∀ A, Anti r S' A → A.length ≤ w - 1
    · obtain ⟨c, hc1, hc2⟩ := ih S' (w - 1) (fun x hx => hS x (hsub x hx)) hcnt hw'
      refine ⟨fun x => if x = a then w - 1 else c x, fun i hi => ?_, fun i j hi hj hij e => ?_⟩
      · by_cases h : i = a
        · simp [h]; omega
        · have := hc1 i ((hS' i).2 ⟨hi, h⟩)
          simp [h]; omega
      · by_cases h : i = a
        · have h2 : j ≠ a := fun e => hij (h.trans e.symm)
          have := hc1 j ((hS' j).2 ⟨hj, h2⟩)
          simp [h, h2] at e; omega
        · by_cases h2 : j = a
          · have := hc1 i ((hS' i).2 ⟨hi, h⟩)
            simp [h, h2] at e; omega
          · simp [h, h2] at e
            exact hc2 i j ((hS' i).2 ⟨hi, h⟩) ((hS' j).2 ⟨hj, h2⟩) hij e
    · have hex : ∃ A, Anti r S' A ∧ A.length = w := by
        refine Classical.byContradiction fun hc => hw' fun A hA => ?_
        have h1 := hw A (hA.mono hsub)
        have h2 : A.length ≠ w := fun e => hc ⟨A, hA, e⟩
        omega
      obtain ⟨A0, hA0, hl0⟩ := hex
      obtain ⟨c, hc⟩ := ih S' w (fun x hx => hS x (hsub x hx)) hcnt fun A hA => hw A (hA.mono hsub)
      have htop : ∀ i, ∃ m, i < w → (S' m = true ∧ c m = i ∧ ∃ A, Anti r S' A ∧ A.length = w ∧ m ∈ A) ∧ ∀ y, (S' y = true ∧ c y = i ∧ ∃ A, Anti r S' A ∧ A.length = w ∧ y ∈ A) → r m y = false := by
        intro i
        by_cases hi : i < w
        · obtain ⟨x, hx, e⟩ := hits hc hA0 hl0 hi
          obtain ⟨m, h1, h2⟩ := exists_max (n := n) hirr htr (fun y => S' y = true ∧ c y = i ∧ ∃ A, Anti r S' A ∧ A.length = w ∧ y ∈ A) (fun y hy => hS y (hsub y hy.1)) x ⟨hA0.mem x hx, e, A0, hA0, hl0, hx⟩
          exact ⟨m, fun _ => ⟨h1, h2⟩⟩
        · exact ⟨0, fun h => absurd h hi⟩
      let t := fun i => Classical.choose (htop i)
      have ht : ∀ i, i < w → (S' (t i) = true ∧ c (t i) = i ∧ ∃ A, Anti r S' A ∧ A.length = w ∧ t i ∈ A) ∧ ∀ y, (S' y = true ∧ c y = i ∧ ∃ A, Anti r S' A ∧ A.length = w ∧ y ∈ A) → r (t i) y = false := fun i => Classical.choose_spec (htop i)
      have below : ∀ i, i < w → ∀ B, Anti r S' B → B.length = w → ∃ y ∈ B, c y = i ∧ S' y = true ∧ (y = t i ∨ r y (t i) = true) := by
        intro i hi B hB hl
        obtain ⟨y, hy, e⟩ := hits hc hB hl hi
        refine ⟨y, hy, e, hB.mem y hy, ?_⟩
        by_cases heq : y = t i
        · exact .inl heq
        · have h1 := ht i hi
          rcases hc.2 y (t i) (hB.mem y hy) h1.1.1 heq (by rw [e, h1.1.2.1]) with h | h
          · exact .inr h
          · rw [h1.2 y ⟨hB.mem y hy, e, B, hB, hl, hy⟩] at h; cases h
      have hfree : ∀ i j, i < w → j < w → r (t i) (t j) = false := by
        intro i j hi hj
        cases h : r (t i) (t j) with
        | false => rfl
        | true =>
          obtain ⟨B, hB, hl, hm⟩ := (ht j hj).1.2.2
          obtain ⟨y, hy, _, _, hle⟩ := below i hi B hB hl
          have : r y (t j) = true := by
            rcases hle with rfl | h2
            · exact h
            · exact htr _ _ _ h2 h
          rw [hB.free y hy (t j) hm] at this; cases this
      have hcmp : ∃ i, i < w ∧ r (t i) a = true := by
        refine Classical.byContradiction fun hno => ?_
        have hno' : ∀ i, i < w → r (t i) a = false := fun i hi => by
          cases h : r (t i) a with | false => rfl | true => exact absurd ⟨i, hi, h⟩ hno
        have hta : ∀ i, i < w → t i ≠ a := fun i hi => ((hS' (t i)).1 (ht i hi).1.1).2
        have := hw (a :: (List.range w).map t) ⟨List.nodup_cons.2 ⟨fun hm => by
            obtain ⟨i, hi, e⟩ := List.mem_map.1 hm
            exact hta i (List.mem_range.1 hi) e, map_nodup List.nodup_range fun i hi j hj e => by
            have h1 := (ht i (List.mem_range.1 hi)).1.2.1
            have h2 := (ht j (List.mem_range.1 hj)).1.2.1
            rw [← h1, ← h2, e]⟩, fun x hx => by
            rcases List.mem_cons.1 hx with rfl | hx
            · exact ha
            · obtain ⟨i, hi, rfl⟩ := List.mem_map.1 hx
              exact hsub _ (ht i (List.mem_range.1 hi)).1.1, fun x hx y hy => by
            rcases List.mem_cons.1 hx with hx | hx
            · subst hx
              rcases List.mem_cons.1 hy with hy | hy
              · subst hy; exact hirr _
              · obtain ⟨j, hj, rfl⟩ := List.mem_map.1 hy
                exact hmax _ (hsub _ (ht j (List.mem_range.1 hj)).1.1)
            · obtain ⟨i, hi, rfl⟩ := List.mem_map.1 hx
              rcases List.mem_cons.1 hy with hy | hy
              · subst hy; exact hno' i (List.mem_range.1 hi)
              · obtain ⟨j, hj, rfl⟩ := List.mem_map.1 hy
                exact hfree i j (List.mem_range.1 hi) (List.mem_range.1 hj)⟩
        simp at this; omega
      obtain ⟨i, hi, hia⟩ := hcmp
      obtain ⟨T, hT⟩ : ∃ T : Nat → Bool, ∀ x, T x = true ↔ S' x = true ∧ ¬ (c x = i ∧ (x = t i ∨ r x (t i) = true)) :=
        ⟨fun x => S' x && decide (¬ (c x = i ∧ (x = t i ∨ r x (t i) = true))), fun x => by simp only [Bool.and_eq_true, decide_eq_true_eq]⟩
      have hTS : ∀ x, T x = true → S' x = true := fun x hx => ((hT x).1 hx).1
      have hTc : cnt n T ≤ d := by
        have h1 : cnt n T ≤ cnt n S' := filter_len_le _ fun x _ hx => hTS x hx
        omega
      obtain ⟨c2, hd1, hd2⟩ := ih T (w - 1) (fun x hx => hS x (hsub x (hTS x hx))) hTc fun A hA => by
        have h1 := hw A (hA.mono fun x hx => hsub x (hTS x hx))
        have h2 : A.length ≠ w := fun e => by
          obtain ⟨y, hy, e2, _, hle⟩ := below i hi A (hA.mono hTS) e
          exact ((hT y).1 (hA.mem y hy)).2 ⟨e2, hle⟩
        omega
      have hK : ∀ x, S x = true → T x = false → x = a ∨ (S' x = true ∧ c x = i ∧ (x = t i ∨ r x (t i) = true)) := by
        intro x hx hxT
        by_cases hxa : x = a
        · exact .inl hxa
        · have h1 := (hS' x).2 ⟨hx, hxa⟩
          refine .inr ⟨h1, Classical.byContradiction fun hno => ?_⟩
          rw [(hT x).2 ⟨h1, hno⟩] at hxT; cases hxT
      have hup : ∀ x, (x = t i ∨ r x (t i) = true) → r x a = true := fun x h => by
        rcases h with rfl | h
        · exact hia
        · exact htr _ _ _ h hia
      refine ⟨fun x => if T x = true then c2 x else w - 1, fun x hx => ?_, fun x y hx hy hxy e => ?_⟩
      · by_cases h : T x = true
        · have := hd1 x h
          simp [h]; omega
        · simp [h]; omega
      · by_cases h1 : T x = true
        · by_cases h2 : T y = true
          · simp [h1, h2] at e
            exact hd2 x y h1 h2 hxy e
          · have := hd1 x h1
            simp [h1, h2] at e; omega
        · by_cases h2 : T y = true
          · have := hd1 y h2
            simp [h1, h2] at e; omega
          · rcases hK x hx (by simpa using h1) with rfl | ⟨p1, p2, p3⟩
            · rcases hK y hy (by simpa using h2) with rfl | ⟨q1, q2, q3⟩
              · exact absurd rfl hxy
              · exact .inr (hup y q3)
            · rcases hK y hy (by simpa using h2) with rfl | ⟨q1, q2, q3⟩
              · exact .inl (hup x p3)
              · exact hc.2 x y p1 q1 hxy (p2.trans q2.symm)
end
end Go.Proofs.YtbodhioladafnaaDoor.Dil

/-! ### PuPeriod -/
/- Plain laws: going round in a finite set: one comes back; for every function of the numbers below n into them. -/
namespace Go.Proofs.YtbodhioladafnaaDoor.Per
set_option linter.unusedVariables false
set_option linter.unusedSimpArgs false
def it (f : Nat → Nat) : Nat → Nat → Nat
  | 0, x => x
  | k + 1, x => f (it f k x)
theorem it_add (f : Nat → Nat) (a : Nat) : ∀ b x, it f (b + a) x = it f b (it f a x)
  | 0, x => by rw [Nat.zero_add]; rfl
  | b + 1, x => by rw [show b + 1 + a = (b + a) + 1 by omega]; show f (it f (b + a) x) = f (it f b (it f a x)); rw [it_add f a b x]
theorem it_lt {f : Nat → Nat} {n : Nat} (hf : ∀ x, x < n → f x < n) : ∀ k x, x < n → it f k x < n
  | 0, _, h => h
  | k + 1, x, h => hf _ (it_lt hf k x h)
theorem dup_of_nodup_fail : ∀ l : List Nat, ¬ l.Nodup → ∃ i j, i < j ∧ j < l.length ∧ l[i]? = l[j]?
  | [], h => absurd List.nodup_nil h
  | x :: l, h => by
    by_cases hx : x ∈ l
    · obtain ⟨j, hj, e⟩ := List.mem_iff_getElem.1 hx
      exact ⟨0, j + 1, by omega, by simp; omega, by simp [hj, e]⟩
    · obtain ⟨i, j, h1, h2, h3⟩ := dup_of_nodup_fail l fun hn => h (List.nodup_cons.2 ⟨hx, hn⟩)
      exact ⟨i + 1, j + 1, by omega, by simp; omega, by simpa using h3⟩
theorem period {f : Nat → Nat} {n : Nat} (hf : ∀ x, x < n → f x < n) (x0 : Nat) (h0 : x0 < n) : ∃ p, 0 < p ∧ p ≤ n ∧ it f p (it f n x0) = it f n x0 := by
  have hd : ¬ ((List.range (n + 1)).map fun k => it f k x0).Nodup := fun hn => by
    have := Dil.nodup_range_le n _ hn fun x hx => by
      obtain ⟨k, _, rfl⟩ := List.mem_map.1 hx
      exact it_lt hf k x0 h0
    simp at this; omega
  obtain ⟨i, j, h1, h2, h3⟩ := dup_of_nodup_fail _ hd
  simp only [List.length_map, List.length_range] at h2
  have e : it f i x0 = it f j x0 := by simpa [show i < n + 1 by omega, h2] using h3
  refine ⟨j - i, by omega, by omega, ?_⟩
  rw [← it_add, show j - i + n = (n - i) + j by omega, it_add, ← e, ← it_add, show n - i + i = n by omega]
/-- the first time that one comes back. -/
theorem first_back {f : Nat → Nat} {n : Nat} (hf : ∀ x, x < n → f x < n) (x0 : Nat) (h0 : x0 < n) :
    ∃ p, p < n ∧ it f (p + 1) (it f n x0) = it f n x0 ∧ ∀ q, q < p → it f (q + 1) (it f n x0) ≠ it f n x0 := by
  obtain ⟨p, hp, hpn, e⟩ := period hf x0 h0
  have key : ∀ p, p < n → it f (p + 1) (it f n x0) = it f n x0 → ∃ p, p < n ∧ it f (p + 1) (it f n x0) = it f n x0 ∧ ∀ q, q < p → it f (q + 1) (it f n x0) ≠ it f n x0 := by
    intro p
    induction p using Nat.strongRecOn with
    | _ p ih =>
      intro hpn e
      by_cases h : ∃ q, q < p ∧ it f (q + 1) (it f n x0) = it f n x0
      · obtain ⟨q, hq, e2⟩ := h
        exact ih q hq (by omega) e2
      · exact ⟨p, hpn, e, fun q hq e2 => h ⟨q, hq, e2⟩⟩
  exact key (p - 1) (by omega) (by rw [show p - 1 + 1 = p by omega]; exact e)
end Go.Proofs.YtbodhioladafnaaDoor.Per

/-! ### BoDemandCycle -/
/- What DemandCycle comes to, in the program and in the reference. -/
namespace Go.Proofs.YtbodhioladafnaaDoor.P
open Go.RowKit Go.Proofs.YtbodhioladafnaaDoorW.PrintWords Go.Proofs.YtbodhioladafnaaDoorW.PrintLast Go.Proofs.YtbodhioladafnaaDoorW.PrintMore L
set_option linter.unusedVariables false
set_option linter.unusedSimpArgs false
theorem liftRounds_okC {m : Nat} (l : List Int) {t : Int} (ht : 1 ≤ t ∧ t ≤ 10) (hm : m ≤ 10) : ∀ (n : Nat) (B : Int) (s : LiftS), LiftOk m B s → LiftOk m (B + 1000 * (n : Int)) (liftRounds l m t n s)
  | 0, B, s, hs => by unfold liftRounds; exact hs.up (by omega)
  | n + 1, B, s, hs => by
    have hs' : LiftOk m B (s.1, s.2.1, -1) := ⟨hs.pl, hs.rl, hs.p, hs.r, by dsimp only; omega⟩
    have ok := liftRows_ok' l ht hm (List.range m) (fun x hx => List.mem_range.1 hx) B _ hs'
    rw [List.length_range] at ok
    unfold liftRounds
    split
    · exact ok.up (by omega)
    · exact (liftRounds_okC l ht hm n _ _ ok).up (by omega)
/-- from an element to its reason. -/
def stepC (r : List Int) (i : Nat) : Nat := (r.getD i 0).toNat
theorem rd_step {m : Nat} {r : List Int} (hr : r.length = m) (h : ∀ x ∈ r, 0 ≤ x ∧ x < m) {i : Nat} (hi : i < m) : rd r (i : Int) = ((stepC r i : Nat) : Int) ∧ stepC r i < m := by
  have e : r.getD i 0 = r[i]'(by omega) := by rw [List.getD_eq_getElem?_getD, List.getElem?_eq_getElem (by omega)]; rfl
  have := h _ (List.getElem_mem (show i < r.length by omega))
  rw [L.rd_nat]
  unfold stepC
  rw [e]
  omega
/-- the walk from c, q steps. -/
def wayC (r : List Int) (c q : Nat) : List Int := (List.range (q + 1)).map fun k => ((Per.it (stepC r) k c : Nat) : Int)
theorem wayC_length (r : List Int) (c q : Nat) : (wayC r c q).length = q + 1 := by simp [wayC]
theorem wayC_succ (r : List Int) (c q : Nat) : wayC r c (q + 1) = wayC r c q ++ [((Per.it (stepC r) (q + 1) c : Nat) : Int)] := by
  unfold wayC; rw [List.range_succ (n := q + 1), List.map_append]; rfl
section
variable {m : Nat} {r : List Int} (hrl : r.length = m) (hrr : ∀ x ∈ r, 0 ≤ x ∧ x < m) (hm : m ≤ 10)
include hrl hrr hm
theorem implWalk_ev (x0 : Nat) (h0 : x0 < m) (R : List Int × Bool) (hk : Ev (fun k => impl_DemandCycle.l0 k r ((Per.it (stepC r) m x0 : Nat) : Int) (m : Int) (m : Int)) R) :
    Ev (fun k => impl_DemandCycle.l0 k r (x0 : Int) (m : Int) 0) R := by
  have key : ∀ i, i ≤ m → Ev (fun k => impl_DemandCycle.l0 k r ((Per.it (stepC r) i x0 : Nat) : Int) (m : Int) (i : Int)) R := by
    refine L.down hk fun i hi ih => ?_
    have hx := Per.it_lt (f := stepC r) (fun x hx => (rd_step hrl hrr hx).2) i x0 h0
    refine L.Ev.succ ?_
    simp only [impl_DemandCycle.l0]
    rw [(rd_step hrl hrr hx).1, L.w64n (by omega)]
    exact L.Ev.ifp (by omega) (L.Ev.ifp (by omega) (L.Ev.ifp (by omega) ih))
  exact key 0 (by omega)
theorem specWalk_ev (l : List Int) (x0 : Nat) (h0 : x0 < m) (R : List Int × Bool) (hk : Ev (fun k => spec_DemandCycle.l0 k r ((Per.it (stepC r) m x0 : Nat) : Int) (m : Int) (m : Int) l) R) :
    Ev (fun k => spec_DemandCycle.l0 k r (x0 : Int) 0 (m : Int) l) R := by
  have key : ∀ i, i ≤ m → Ev (fun k => spec_DemandCycle.l0 k r ((Per.it (stepC r) i x0 : Nat) : Int) (i : Int) (m : Int) l) R := by
    refine L.down hk fun i hi ih => ?_
    have hx := Per.it_lt (f := stepC r) (fun x hx => (rd_step hrl hrr hx).2) i x0 h0
    refine L.Ev.succ ?_
    simp only [spec_DemandCycle.l0]
    rw [(rd_step hrl hrr hx).1, L.w64n (by omega)]
    exact L.Ev.ifp (by omega) (L.Ev.ifp (by omega) (L.Ev.ifp (by omega) ih))
  exact key 0 (by omega)
/-- round the cycle: in the program. -/
theorem implRound_ev (c p : Nat) (hc : c < m) (hp : p < m) (hb : Per.it (stepC r) (p + 1) c = c) (hq : ∀ q, q < p → Per.it (stepC r) (q + 1) c ≠ c) :
    Ev (fun k => impl_DemandCycle.l1 k r (c : Int) [(c : Int)] ((stepC r c : Nat) : Int))
      ((wayC r c p).reverse.drop (amin (wayC r c p).reverse (wayC r c p).reverse.length) ++ (wayC r c p).reverse.take (amin (wayC r c p).reverse (wayC r c p).reverse.length), true) := by
  have key : ∀ q, q ≤ p → Ev (fun k => impl_DemandCycle.l1 k r (c : Int) (wayC r c q) ((Per.it (stepC r) (q + 1) c : Nat) : Int))
      ((wayC r c p).reverse.drop (amin (wayC r c p).reverse (wayC r c p).reverse.length) ++ (wayC r c p).reverse.take (amin (wayC r c p).reverse (wayC r c p).reverse.length), true) := by
    refine L.down ?_ fun q hlt ih => ?_
    · refine L.Ev.succ ?_
      simp only [impl_DemandCycle.l1]
      rw [hb]
      have hl := wayC_length r c p
      have hl2 : (wayC r c p).reverse.length = p + 1 := by rw [List.length_reverse, hl]
      have ha := amin_lt (wayC r c p).reverse (wayC r c p).reverse.length (by omega)
      refine L.Ev.ifp rfl (Ev.bind (reverse_ev _ (by omega)) (Ev.bind (minR_ev _ (by omega) (by omega)) (Ev.bind (indexR_ev _ (by omega) (by omega)) (L.Ev.ifp (by omega) (L.Ev.ifp (by omega) ?_)))))
      rw [Int.toNat_natCast]
      exact Ev.bind (concat_ev _ _ (by rw [List.length_drop, List.length_take]; omega)) (Ev.now _)
    · have hx := Per.it_lt (f := stepC r) (fun x hx => (rd_step hrl hrr hx).2) (q + 1) c hc
      have hne := hq q hlt
      rw [wayC_succ] at ih
      refine L.Ev.succ ?_
      simp only [impl_DemandCycle.l1]
      rw [(rd_step hrl hrr hx).1]
      exact L.Ev.ifn (by omega) (L.Ev.ifp (by rw [wayC_length]; omega) (L.Ev.ifp (by omega) (L.Ev.ifp (by omega) ih)))
  exact key 0 (by omega)
/-- round the cycle: in the reference. -/
theorem specRound_ev (c p : Nat) (hc : c < m) (hp : p < m) (hb : Per.it (stepC r) (p + 1) c = c) (hq : ∀ q, q < p → Per.it (stepC r) (q + 1) c ≠ c) :
    Ev (fun k => spec_DemandCycle.l1 k r (c : Int) [(c : Int)] ((stepC r c : Nat) : Int))
      ((wayC r c p).reverse.drop (amin (wayC r c p).reverse (wayC r c p).reverse.length) ++ (wayC r c p).reverse.take (amin (wayC r c p).reverse (wayC r c p).reverse.length), true) := by
  have key : ∀ q, q ≤ p → Ev (fun k => spec_DemandCycle.l1 k r (c : Int) (wayC r c q).reverse ((Per.it (stepC r) (q + 1) c : Nat) : Int))
      ((wayC r c p).reverse.drop (amin (wayC r c p).reverse (wayC r c p).reverse.length) ++ (wayC r c p).reverse.take (amin (wayC r c p).reverse (wayC r c p).reverse.length), true) := by
    refine L.down ?_ fun q hlt ih => ?_
    · refine L.Ev.succ ?_
      simp only [spec_DemandCycle.l1]
      rw [hb]
      have hl2 : (wayC r c p).reverse.length = p + 1 := by rw [List.length_reverse, wayC_length]
      exact L.Ev.ifp rfl (Ev.bind (fromLeast_ev _ (by omega) (by omega)) (Ev.now _))
    · have hx := Per.it_lt (f := stepC r) (fun x hx => (rd_step hrl hrr hx).2) (q + 1) c hc
      have hne := hq q hlt
      rw [wayC_succ, List.reverse_append] at ih
      refine L.Ev.succ ?_
      simp only [spec_DemandCycle.l1]
      rw [(rd_step hrl hrr hx).1]
      exact L.Ev.ifn (by omega) (L.Ev.bindc rfl (L.Ev.ifp (by rw [List.length_singleton, List.length_reverse, wayC_length]; omega) (L.Ev.ifp (by omega) (L.Ev.ifp (by omega) ih))))
  exact key 0 (by omega)
end
theorem DemandCycle_both (n : Int) (l : List Int) (wn : R.wf n) (hl : l.length ≤ 1048576) (w0 : ∀ x ∈ l, R.wf x) (a : Int) (wa : R.wf a) :
    ∃ (r : List Int) (b : Bool), Ev (fun k => spec_DemandCycle.f k n l a) (r, b) ∧ Ev (fun k => impl_DemandCycle.f k n l a) (r, b) ∧ r.length ≤ 1048576 := by
  cases h : isOrd n l with
  | false =>
    refine ⟨[], false, ?_, ?_, by simp⟩
    · unfold spec_DemandCycle.f
      refine Ev.bind (orGood_ev n l hl) (L.Ev.ifn (by simp [h]) (L.Ev.succ ?_))
      simp only [spec_DemandCycle.j0]
      exact L.Ev.ifp trivial (Ev.now _)
    · unfold impl_DemandCycle.f
      exact Ev.bind (isThreshold_ev n l a hl) (L.Ev.ifn (by simp [h]) (Ev.now _))
  | true =>
    have hr := isOrd_rel h
    obtain ⟨m, rfl, hm, hlm⟩ := isRel_nat hr
    by_cases ha : 1 ≤ a ∧ a ≤ 10
    case neg =>
      refine ⟨[], false, ?_, ?_, by simp⟩
      · unfold spec_DemandCycle.f
        refine Ev.bind (orGood_ev _ l hl) (L.Ev.ifp h (L.Ev.bindc (by unfold spec_seThreshold.f; rw [l1In_eq]; rfl) (L.Ev.succ ?_)))
        simp only [spec_DemandCycle.j0]
        exact L.Ev.ifp (by simp; omega) (Ev.now _)
      · unfold impl_DemandCycle.f
        exact Ev.bind (isThreshold_ev _ l a hl) (L.Ev.ifn (by simpa [h] using ha) (Ev.now _))
    have hS := seRounds_ev hr ha
    have hI := lift_ev hr ha
    have ok := liftRounds_okC l ha hm (m + 1) 0 _ (lift_zero_ok m)
    generalize liftRounds l m a (m + 1) (List.replicate m 0, List.replicate m 0, -1) = F at hS hI ok
    have sp : ∀ {R : List Int × Bool}, Ev (fun k : Nat => if F.2.2 < 0 then (some ([], false) : Option (List Int × Bool)) else spec_DemandCycle.l0 k F.2.1 F.2.2 0 (m : Int) l) R → Ev (fun k => spec_DemandCycle.f k (m : Int) l a) R := by
      intro R hR
      unfold spec_DemandCycle.f
      refine Ev.bind (orGood_ev _ l hl) (L.Ev.ifp h (L.Ev.bindc (by unfold spec_seThreshold.f; rw [l1In_eq]; rfl) (L.Ev.succ ?_)))
      simp only [spec_DemandCycle.j0]
      exact L.Ev.ifn (by simpa using ha) (Ev.bind hS hR)
    have im : ∀ {R : List Int × Bool}, Ev (fun k => if (!(liftFin F).2.2.2) = true then (some ([], false) : Option (List Int × Bool)) else impl_DemandCycle.l0 k (liftFin F).2.1 (liftFin F).2.2.1 (m : Int) 0) R → Ev (fun k => impl_DemandCycle.f k (m : Int) l a) R := by
      intro R hR
      unfold impl_DemandCycle.f
      exact Ev.bind (isThreshold_ev _ l a hl) (L.Ev.ifp (by simpa [h] using ha) (Ev.bind hI hR))
    unfold liftFin at im
    by_cases hx : F.2.2 < 0
    · rw [if_pos hx] at im
      exact ⟨[], false, sp (L.Ev.ifp hx (Ev.now _)), im (L.Ev.ifp rfl (Ev.now _)), by simp⟩
    · rw [if_neg hx] at im
      obtain ⟨x0, hx0⟩ : ∃ x0 : Nat, F.2.2 = (x0 : Int) := ⟨F.2.2.toNat, by omega⟩
      have h0 : x0 < m := by have := ok.x; omega
      have hst : ∀ x, x < m → stepC F.2.1 x < m := fun x hx => (rd_step ok.rl ok.r hx).2
      obtain ⟨p, hp, hb, hq⟩ := Per.first_back hst x0 h0
      have hc := Per.it_lt hst m x0 h0
      have hlen := wayC_length F.2.1 (Per.it (stepC F.2.1) m x0) p
      refine ⟨(wayC F.2.1 (Per.it (stepC F.2.1) m x0) p).reverse.drop (amin (wayC F.2.1 (Per.it (stepC F.2.1) m x0) p).reverse (wayC F.2.1 (Per.it (stepC F.2.1) m x0) p).reverse.length) ++ (wayC F.2.1 (Per.it (stepC F.2.1) m x0) p).reverse.take (amin (wayC F.2.1 (Per.it (stepC F.2.1) m x0) p).reverse (wayC F.2.1 (Per.it (stepC F.2.1) m x0) p).reverse.length), true, sp (L.Ev.ifn hx ?_), im (L.Ev.ifn (by simp) ?_), ?_⟩
      · rw [hx0]
        refine specWalk_ev ok.rl ok.r hm l x0 h0 _ (L.Ev.succ ?_)
        simp only [spec_DemandCycle.l0]
        rw [(rd_step ok.rl ok.r hc).1]
        exact L.Ev.ifn (by omega) (L.Ev.ifp (by omega) (L.Ev.ifp (by have := ok.rl; omega) (specRound_ev ok.rl ok.r hm _ p hc hp hb hq)))
      · dsimp only
        rw [hx0]
        refine implWalk_ev ok.rl ok.r hm x0 h0 _ (L.Ev.succ ?_)
        simp only [impl_DemandCycle.l0]
        rw [(rd_step ok.rl ok.r hc).1]
        exact L.Ev.ifn (by omega) (L.Ev.ifp (by omega) (L.Ev.ifp (by have := ok.rl; omega) (implRound_ev ok.rl ok.r hm _ p hc hp hb hq)))
      · rw [List.length_append, List.length_drop, List.length_take, List.length_reverse, hlen]; omega
end Go.Proofs.YtbodhioladafnaaDoor.P

/-! ### PuFnExactDemandCycle -/
/- The plain law behind FnExactDemandCycle, out of what the program's and the reference's function come to. -/
namespace Go.Proofs.YtbodhioladafnaaDoor.P
open Go.RowKit Go.Proofs.YtbodhioladafnaaDoorW.PrintWords Go.Proofs.YtbodhioladafnaaDoorW.PrintLast Go.Proofs.YtbodhioladafnaaDoorW.PrintMore L
set_option linter.unusedVariables false
set_option linter.unusedSimpArgs false
set_option maxHeartbeats 1000000 in
theorem FnExactDemandCycle_pure (a0 : Int) (l0 : List Int) (w0a : R.wf a0) (m0 : l0.length ≤ 9223372036854775807) (w0 : ∀ x ∈ l0, R.wf x) (a1 : Int) (w1 : R.wf a1) : ∃ k, laws_FnExactDemandCycle.f k a0 l0 a1 = some true := by
  refine Ev.rounds (r := true) ?_
  unfold laws_FnExactDemandCycle.f
  refine L.Ev.bindc (szOrder_eq a0 l0 1048576 (by omega) m0) ?_
  by_cases hb0 : (l0.length : Int) ≤ 1048576
  case neg => rw [if_neg hb0]; exact L.Ev.ifp (by omega) (Ev.now true)
  rw [if_pos hb0]
  refine L.Ev.ifn (by omega) ?_
  (try (refine L.Ev.succ ?_; first | simp only [laws_FnExactDemandCycle.j0] | simp only [laws_FnExactDemandCycle.j1] | simp only [laws_FnExactDemandCycle.j2] | simp only [laws_FnExactDemandCycle.j3]))
  have hn0 : l0.length ≤ 1048576 := by omega
  obtain ⟨r0, r1, hs, hi, hl0⟩ := DemandCycle_both a0 l0 w0a hn0 w0 a1 w1
  repeat' (first
    | exact Ev.now true
    | exact Ev.now _
    | with_reducible exact rfl
    | (with_reducible refine Ev.bind hs ?_)
    | (with_reducible refine Ev.bind hi ?_)
    | (with_reducible refine Ev.bind (toIntS_ev _ ?hs1) ?_; (case hs1 => first | omega | (dsimp only; omega)))
    | (with_reducible refine Ev.bind (eqIntS_self _ ?hs1) ?_; (case hs1 => first | omega | (dsimp only; omega)))
    | (with_reducible refine Ev.bind (toOrder_ev _ _ ?hs1) ?_; (case hs1 => first | omega | (dsimp only; omega)))
    | (with_reducible refine Ev.bind (eqOrder_self _ _ ?hs1) ?_; (case hs1 => first | omega | (dsimp only; omega)))
    | (with_reducible refine Ev.bind (markIntS_ev _ _ ?hs1 ?hs2) ?_; (case hs1 => first | omega | (dsimp only; omega)); (case hs2 => first | omega | (dsimp only; omega)))
    | (with_reducible refine Ev.bind (held_marks _ _ ?hs1 ?hs2) ?_; (case hs1 => first | omega | (dsimp only; omega)); (case hs2 => first | omega | (dsimp only; omega)))
    | (with_reducible refine Ev.bind (markOrder_ev _ _ _ ?hs1 ?hs2) ?_; (case hs1 => first | omega | (dsimp only; omega)); (case hs2 => first | omega | (dsimp only; omega)))
    | (refine L.Ev.ifp ?hc ?_; (case hc => first | rfl | omega | (simp; done)))
    | (refine L.Ev.ifn ?hc ?_; (case hc => first | omega | (simp; done)))
    | dsimp only
    | (refine L.Ev.succ ?_; simp only [laws_FnExactDemandCycle.j0])
    | (refine L.Ev.succ ?_; simp only [laws_FnExactDemandCycle.j1])
    | (refine L.Ev.succ ?_; simp only [laws_FnExactDemandCycle.j2])
    | (refine L.Ev.succ ?_; simp only [laws_FnExactDemandCycle.j3])
    | (refine L.Ev.succ ?_; simp only [laws_FnExactDemandCycle.j4])
    | (refine L.Ev.succ ?_; simp only [laws_FnExactDemandCycle.j5])
    | (refine L.Ev.succ ?_; simp only [laws_FnExactDemandCycle.j6])
    | (refine L.Ev.succ ?_; simp only [laws_FnExactDemandCycle.j7])
    | (refine L.Ev.succ ?_; simp only [laws_FnExactDemandCycle.j8])
    | (refine L.Ev.succ ?_; simp only [laws_FnExactDemandCycle.j9])
    | (refine L.Ev.succ ?_; simp only [laws_FnExactDemandCycle.j10])
    | (refine L.Ev.succ ?_; simp only [laws_FnExactDemandCycle.j11]))
end Go.Proofs.YtbodhioladafnaaDoor.P
