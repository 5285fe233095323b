/- The plain laws behind FnExactMirrorStair, in one text (merged by wip/merge.py). -/
import Derived.Test.YtbodhioladafnaaLib
import Derived.Test.YtbodhioladafnaaPx9
import Derived.Test.YtbodhioladafnaaPx14
import Derived.Test.YtbodhioladafnaaPx12
import Derived.Test.YtbodhioladafnaaPx1
import Derived.Test.YtbodhioladafnaaPx2
import Derived.Lib.SlicesCompact
import Derived.Test.YtbodhioladafnaaPx5
import Derived.Test.YtbodhioladafnaaPx6
import Derived.Test.YtbodhioladafnaaPx10
import Derived.Test.YtbodhioladafnaaPx8
import Derived.Test.YtbodhioladafnaaPx7
import Derived.Test.YtbodhioladafnaaRowLib
import Derived.Test.YtbodhioladafnaaPx13
import Derived.Test.YtbodhioladafnaaPx15
/-! ### PuInts -/
/- Plain laws of the copies and comparisons of rows of whole numbers; no conditions beyond the rows' lengths. -/
namespace Go.Proofs.Ytbodhioladafnaa.P
open Go.RowKit Go.Proofs.YtbodhioladafnaaW.PrintWords Go.Proofs.YtbodhioladafnaaW.PrintLast Go.Proofs.YtbodhioladafnaaW.PrintMore L
set_option linter.unusedVariables false
set_option linter.unusedSimpArgs false
theorem toIntS_ev (l : List Int) (hl : l.length ≤ 35184372088832) : Ev (fun k => laws_toIntS.f k l) l := by
  have key : ∀ i, i ≤ l.length → Ev (fun k => laws_toIntS.l0 k l (l.take i ++ List.replicate (l.length - i) 0) (i : Int)) l := by
    refine L.down ?_ fun i hi ih => ?_
    · refine L.Ev.succ ?_
      simp only [laws_toIntS.l0]
      refine L.Ev.ifn (by omega) ?_
      rw [Nat.sub_self, List.take_of_length_le (Nat.le_refl _)]
      simp only [List.replicate_zero, List.append_nil]
      exact Ev.now l
    · refine L.Ev.succ ?_
      simp only [laws_toIntS.l0]
      refine L.Ev.ifp (by omega) (L.Ev.ifp (by omega) (L.Ev.ifp ?_ ?_))
      · simp only [List.length_append, List.length_take, List.length_replicate]; omega
      · have e : (l.take i ++ List.replicate (l.length - i) 0).set i (rd l (i : Int)) = l.take (i + 1) ++ List.replicate (l.length - (i + 1)) 0 := by
          rw [L.rd_get hi]
          refine List.ext_getElem? fun j => ?_
          rw [List.getElem?_set]
          by_cases hj : i = j
          · subst hj
            rw [if_pos rfl, if_pos (by simp only [List.length_append, List.length_take, List.length_replicate]; omega), List.getElem?_append_left (by simp only [List.length_take]; omega), List.getElem?_take, if_pos (by omega), List.getElem?_eq_getElem hi]
          · rw [if_neg hj]
            by_cases h1 : j < i
            · rw [List.getElem?_append_left (by simp only [List.length_take]; omega), List.getElem?_append_left (by simp only [List.length_take]; omega), List.getElem?_take, List.getElem?_take, if_pos h1, if_pos (by omega)]
            · rw [List.getElem?_append_right (by simp only [List.length_take]; omega), List.getElem?_append_right (by simp only [List.length_take]; omega)]
              simp only [List.length_take, List.getElem?_replicate]
              by_cases h2 : j < l.length
              · rw [if_pos (by omega), if_pos (by omega)]
              · rw [if_neg (by omega), if_neg (by omega)]
        refine Ev.congr (fun k => ?_) ih
        rw [L.w64n (by omega), Int.toNat_natCast, e]
  refine Ev.congr (fun k => ?_) (key 0 (by omega))
  unfold laws_toIntS.f
  rw [if_pos (by omega), if_pos (by omega)]
  simp
theorem eqIntS_ev (l m : List Int) (hl : l.length ≤ 9223372036854775806) : Ev (fun k => laws_eqIntS.f k l m) (decide (l = m)) := by
  by_cases hlen : l.length = m.length
  · have key : ∀ i, i ≤ l.length → Ev (fun k => laws_eqIntS.l0 k l m (i : Int)) (decide (l.drop i = m.drop i)) := by
      refine L.down ?_ fun i hi ih => ?_
      · refine L.Ev.succ ?_
        simp only [laws_eqIntS.l0]
        refine L.Ev.ifn (by omega) ?_
        rw [List.drop_eq_nil_of_le (Nat.le_refl _), List.drop_eq_nil_of_le (by omega)]
        exact Ev.now _
      · refine L.Ev.succ ?_
        simp only [laws_eqIntS.l0]
        refine L.Ev.ifp (by omega) (L.Ev.ifp (by omega) (L.Ev.ifp (by omega) ?_))
        rw [L.rd_get hi, L.rd_get (l := m) (by omega), List.drop_eq_getElem_cons hi, List.drop_eq_getElem_cons (l := m) (by omega)]
        by_cases e : l[i] = m[i]'(by omega)
        · refine L.Ev.ifp e ?_
          refine Ev.congr (fun k => by rw [L.w64n (by omega)]) ?_
          have e2 : (l[i] :: List.drop (i + 1) l = m[i]'(by omega) :: List.drop (i + 1) m) = (List.drop (i + 1) l = List.drop (i + 1) m) := propext ⟨fun h => (List.cons.inj h).2, fun h => by rw [e, h]⟩
          simp only [e2]
          exact ih
        · refine L.Ev.ifn e ?_
          simp only [List.cons.injEq, e, false_and, decide_false]
          exact Ev.now _
    have h := key 0 (by omega)
    refine Ev.congr (fun k => ?_) h
    unfold laws_eqIntS.f
    rw [if_pos (by omega)]; rfl
  · have e : l ≠ m := fun h => hlen (by rw [h])
    refine Ev.congr (fun k => ?_) (f := fun _ => some false) (by simp only [e, decide_false]; exact Ev.now _)
    unfold laws_eqIntS.f
    rw [if_neg (by omega)]
theorem eqIntS_self (l : List Int) (hl : l.length ≤ 9223372036854775806) : Ev (fun k => laws_eqIntS.f k l l) true := by
  have h := eqIntS_ev l l hl
  simpa using h
end Go.Proofs.Ytbodhioladafnaa.P

/-! ### PuMark -/
/- Plain laws of the marks that are laid into rows of whole numbers and looked for again; no conditions beyond the rows' lengths. -/
namespace Go.Proofs.Ytbodhioladafnaa.P
open Go.RowKit Go.Proofs.YtbodhioladafnaaW.PrintWords Go.Proofs.YtbodhioladafnaaW.PrintLast Go.Proofs.YtbodhioladafnaaW.PrintMore L
set_option linter.unusedVariables false
set_option linter.unusedSimpArgs false
/-- a, a + 1, .. -/
def marks (a : Int) (n : Nat) : List Int := (List.range n).map fun (i : Nat) => a + (i : Int)
theorem marks_length (a : Int) (n : Nat) : (marks a n).length = n := by simp [marks]
theorem markIntS_ev (l : List Int) (a : Int) (ha : 0 ≤ a ∧ a ≤ 4194304) (hl : l.length ≤ 1048576) : Ev (fun k => laws_markIntS.f k l a) (a + l.length, marks a l.length) := by
  have key : ∀ i, i ≤ l.length → Ev (fun k => laws_markIntS.l0 k (marks a i ++ l.drop i) (a + i) (i : Int)) (a + l.length, marks a l.length) := by
    refine L.down ?_ fun i hi ih => ?_
    · refine L.Ev.succ ?_
      simp only [laws_markIntS.l0]
      rw [List.drop_eq_nil_of_le (Nat.le_refl _), List.append_nil]
      refine L.Ev.ifn (by rw [marks_length]; omega) ?_
      exact Ev.now _
    · refine L.Ev.succ ?_
      simp only [laws_markIntS.l0]
      refine L.Ev.ifp (by rw [List.length_append, marks_length, List.length_drop]; omega) (L.Ev.ifp (by omega) ?_)
      have e : (marks a i ++ l.drop i).set i (a + i) = marks a (i + 1) ++ l.drop (i + 1) := by
        refine List.ext_getElem? fun j => ?_
        rw [List.getElem?_set]
        by_cases hj : i = j
        · subst hj
          rw [if_pos rfl, if_pos (by rw [List.length_append, marks_length, List.length_drop]; omega), List.getElem?_append_left (by rw [marks_length]; omega)]
          simp [marks]
        · rw [if_neg hj]
          by_cases h1 : j < i
          · rw [List.getElem?_append_left (by rw [marks_length]; omega), List.getElem?_append_left (by rw [marks_length]; omega)]
            simp [marks, h1, show j < i + 1 by omega]
          · rw [List.getElem?_append_right (by rw [marks_length]; omega), List.getElem?_append_right (by rw [marks_length]; omega), marks_length, marks_length, List.getElem?_drop, List.getElem?_drop]
            congr 1; omega
      refine Ev.congr (fun k => ?_) ih
      rw [L.w64n (n := i) (by omega), L.w64 (x := a + i + 1) (by omega) (by omega), Int.toNat_natCast, e]
      congr 1; omega
  refine Ev.congr (fun k => ?_) (key 0 (by omega))
  unfold laws_markIntS.f
  simp [marks]
theorem heldIntS_ev (l : List Int) (a : Int) (ha : 0 ≤ a ∧ a ≤ 4194304) (hl : l.length ≤ 1048576) : Ev (fun k => laws_heldIntS.f k l a) (if l = marks a l.length then a + l.length else -1) := by
  by_cases hm : l = marks a l.length
  · rw [if_pos hm]
    have key : ∀ i, i ≤ l.length → Ev (fun k => laws_heldIntS.l0 k l (a + i) (i : Int)) (a + l.length) := by
      refine L.down ?_ fun i hi ih => ?_
      · refine L.Ev.succ ?_
        simp only [laws_heldIntS.l0]
        refine L.Ev.ifn (by omega) ?_
        exact Ev.now _
      · refine L.Ev.succ ?_
        simp only [laws_heldIntS.l0]
        refine L.Ev.ifp (by omega) (L.Ev.ifp (by omega) (L.Ev.ifp ?_ ?_))
        · rw [L.rd_nat]
          have e : l.getD i 0 = (marks a l.length).getD i 0 := by rw [← hm]
          rw [e, List.getD_eq_getElem?_getD]
          simp [marks, hi]
        · refine Ev.congr (fun k => ?_) ih
          rw [L.w64n (n := i) (by omega), L.w64 (x := a + i + 1) (by omega) (by omega)]
          congr 1; omega
    exact Ev.congr (fun k => by unfold laws_heldIntS.f; simp) (key 0 (by omega))
  · rw [if_neg hm]
    have key : ∀ i, i ≤ l.length → (∀ j, j < i → l.getD j 0 = a + j) → Ev (fun k => laws_heldIntS.l0 k l (a + i) (i : Int)) (-1) := by
      refine L.down ?_ fun i hi ih => ?_
      · intro h
        refine absurd ?_ hm
        refine List.ext_getElem? fun j => ?_
        by_cases hj : j < l.length
        · have := h j hj
          rw [List.getD_eq_getElem?_getD, List.getElem?_eq_getElem hj] at this
          rw [List.getElem?_eq_getElem hj]
          simp only [Option.getD_some] at this
          simp [marks, hj, this]
        · rw [List.getElem?_eq_none (by omega), List.getElem?_eq_none (by rw [marks_length]; omega)]
      · intro h
        refine L.Ev.succ ?_
        simp only [laws_heldIntS.l0]
        refine L.Ev.ifp (by omega) (L.Ev.ifp (by omega) ?_)
        by_cases e : rd l (i : Int) = a + i
        · refine L.Ev.ifp e ?_
          refine Ev.congr (fun k => ?_) (ih fun j hj => ?_)
          · rw [L.w64n (n := i) (by omega), L.w64 (x := a + i + 1) (by omega) (by omega)]
            congr 1; omega
          · by_cases hji : j = i
            · rw [hji, ← L.rd_nat]; exact e
            · exact h j (by omega)
        · exact L.Ev.ifn e (Ev.now _)
    exact Ev.congr (fun k => by unfold laws_heldIntS.f; simp) (key 0 (by omega) (by omega))
theorem held_marks (a : Int) (n : Nat) (ha : 0 ≤ a ∧ a ≤ 4194304) (hn : n ≤ 1048576) : Ev (fun k => laws_heldIntS.f k (marks a n) a) (a + n) := by
  have h := heldIntS_ev (marks a n) a ha (by rw [marks_length]; omega)
  rw [marks_length, if_pos rfl] at h
  exact h
end Go.Proofs.Ytbodhioladafnaa.P

/-! ### PuRel0 -/
/- Plain laws: which lists are relations. -/
namespace Go.Proofs.Ytbodhioladafnaa.P
open Go.RowKit Go.Proofs.YtbodhioladafnaaW.PrintWords Go.Proofs.YtbodhioladafnaaW.PrintLast Go.Proofs.YtbodhioladafnaaW.PrintMore L
set_option linter.unusedVariables false
set_option linter.unusedSimpArgs false
/-- the numbers of a relation. -/
def isRel (n : Int) (l : List Int) : Bool := decide (0 ≤ n ∧ n ≤ 10 ∧ (l.length : Int) = n ∧ ∀ x ∈ l, 0 ≤ x ∧ x < 2 ^ n.toNat)
theorem isRel_iff (n : Int) (l : List Int) : isRel n l = true ↔ 0 ≤ n ∧ n ≤ 10 ∧ (l.length : Int) = n ∧ ∀ x ∈ l, 0 ≤ x ∧ x < 2 ^ n.toNat := by simp [isRel]
theorem isRel_big {n : Nat} {l : List Int} (h : isRel n l = true) : ∀ x ∈ l, 0 ≤ x ∧ x < 1024 := by
  obtain ⟨h0, h1, h2, h3⟩ := (isRel_iff _ _).1 h
  intro x hx
  obtain ⟨a, b⟩ := h3 x hx
  have : (2 : Int) ^ (n : Int).toNat ≤ 2 ^ 10 := by
    have := Nat.pow_le_pow_right (n := 2) (by decide) (show (n : Int).toNat ≤ 10 by omega)
    exact_mod_cast this
  omega
theorem isRel_ok {n : Int} {l : List Int} (h : isRel n l = true) : L.okRel n l := by
  obtain ⟨h0, h1, h2, h3⟩ := (isRel_iff _ _).1 h
  obtain ⟨m, rfl⟩ := Int.eq_ofNat_of_zero_le h0
  refine ⟨h0, by omega, h2, fun x hx => ?_⟩
  have := isRel_big h x hx
  omega
end Go.Proofs.Ytbodhioladafnaa.P

/-! ### PuRel20 -/
/- Plain laws: single elements of relations: above, below, in bounds; for the program and the reference alike. -/
namespace Go.Proofs.Ytbodhioladafnaa.P
open Go.RowKit Go.Proofs.YtbodhioladafnaaW.PrintWords Go.Proofs.YtbodhioladafnaaW.PrintLast Go.Proofs.YtbodhioladafnaaW.PrintMore L
set_option linter.unusedVariables false
set_option linter.unusedSimpArgs false
theorem isRel_nat {n : Int} {l : List Int} (h : isRel n l = true) : ∃ m : Nat, n = m ∧ m ≤ 10 ∧ l.length = m := by
  obtain ⟨h0, h1, h2, h3⟩ := (isRel_iff _ _).1 h
  obtain ⟨m, rfl⟩ := Int.eq_ofNat_of_zero_le h0
  exact ⟨m, rfl, by omega, by omega⟩
theorem orHas_eq {n : Int} {l : List Int} (h : L.okRel n l) (i j : Nat) (hj : j ≤ 64) : spec_orHas.f (rd l (i : Int)) (j : Int) = some (L.bitAt l i j) := by
  unfold spec_orHas.f
  rw [if_pos (by omega), h.bitm i j hj]
def R0 (n : Int) : Prop := -9223372036854775807 ≤ n ∧ n ≤ 9223372036854775807
end Go.Proofs.Ytbodhioladafnaa.P

/-! ### PuBelow -/
/- Plain laws: the set below an element. -/
namespace Go.Proofs.Ytbodhioladafnaa.P
open Go.RowKit Go.Proofs.YtbodhioladafnaaW.PrintWords Go.Proofs.YtbodhioladafnaaW.PrintLast Go.Proofs.YtbodhioladafnaaW.PrintMore L
set_option linter.unusedVariables false
set_option linter.unusedSimpArgs false
/-- the set of all elements below one, as a natural number. -/
def belowN (l : List Int) (m i : Nat) : Nat := L.relRow (fun j => L.bitAt l j i) m
theorem belowN_lt (l : List Int) (m i : Nat) : belowN l m i < 2 ^ m := L.relRow_lt _ _
theorem belowN_bit (l : List Int) (m i j : Nat) : (belowN l m i).testBit j = (decide (j < m) && L.bitAt l j i) := L.relRow_testBit _ _ _
theorem orBelow_ev {m : Nat} {l : List Int} (h : isRel (m : Int) l = true) (i : Nat) (hi : i ≤ 64) : Ev (fun k => spec_orBelow.f k (m : Int) l (i : Int)) ((belowN l m i : Nat) : Int) := by
  obtain ⟨m', hm', hm, hlm⟩ := isRel_nat h
  obtain rfl : m = m' := by omega
  have ok := isRel_ok h
  have key : ∀ j, j ≤ m → Ev (fun k => spec_orBelow.l0 k (i : Int) ((L.relRow (fun j => L.bitAt l j i) j : Nat) : Int) l (l.length : Int) (j : Int)) ((belowN l m i : Nat) : Int) := by
    refine L.down ?_ fun j hj ih => ?_
    · refine L.Ev.succ ?_
      simp only [spec_orBelow.l0]
      exact L.Ev.ifn (by omega) (Ev.now _)
    · refine L.Ev.succ ?_
      simp only [spec_orBelow.l0]
      have hlt : L.relRow (fun j => L.bitAt l j i) j < 2 ^ 62 := Nat.lt_of_lt_of_le (L.relRow_lt _ j) (Nat.pow_le_pow_right (by decide) (by omega))
      have hp : (2 : Nat) ^ j < 2 ^ 62 := Nat.pow_lt_pow_right (by decide) (by omega)
      refine L.Ev.ifp (by omega) (L.Ev.ifp (by omega) (L.Ev.ifp (by omega) (L.Ev.bindc (orHas_eq ok j i hi) ?_)))
      rw [L.shl_one (by omega), L.or_nat hlt hp, L.w64n (by omega)]
      have e : L.relRow (fun j => L.bitAt l j i) (j + 1) = if L.bitAt l j i then L.relRow (fun j => L.bitAt l j i) j ||| 2 ^ j else L.relRow (fun j => L.bitAt l j i) j := rfl
      rw [e] at ih
      cases hb : L.bitAt l j i with
      | true => rw [hb] at ih; exact L.Ev.ifp rfl ih
      | false => rw [hb] at ih; exact L.Ev.ifn (by simp) ih
  exact key 0 (by omega)
theorem mirror_eq {m : Nat} {l : List Int} (h : isRel (m : Int) l = true) : impl_Order_mirror.f (m : Int) l = some ((m : Int), L.relL m fun i j => L.bitAt l j i) := by
  unfold impl_Order_mirror.f
  rw [if_pos (isRel_ok h)]; rfl
theorem rd_mirror (l : List Int) {m i : Nat} (hi : i < m) : rd (L.relL m fun i j => L.bitAt l j i) (i : Int) = ((belowN l m i : Nat) : Int) := by
  unfold L.relL
  rw [L.rd_cast, L.relN_get _ _ hi]; rfl
end Go.Proofs.Ytbodhioladafnaa.P

/-! ### PuRows -/
/- Plain lemmas: rows of bits that are built element by element; relations that are built row by row or mark by mark. -/
namespace Go.Proofs.Ytbodhioladafnaa.L
open Go.RowKit Go.Proofs.YtbodhioladafnaaW.PrintWords Go.Proofs.YtbodhioladafnaaW.PrintLast Go.Proofs.YtbodhioladafnaaW.PrintMore
set_option linter.unusedVariables false
set_option linter.unusedSimpArgs false
theorem two_lt {j : Nat} (hj : j ≤ 60) : (2 : Nat) ^ j < 2 ^ 62 := Nat.pow_lt_pow_right (by decide) (by omega)
theorem relRow_lt62 (f : Nat → Bool) {j : Nat} (hj : j ≤ 60) : relRow f j < 2 ^ 62 := Nat.lt_trans (relRow_lt f j) (two_lt hj)
theorem row_yes {f : Nat → Bool} {j : Nat} (h : f j = true) (hj : j ≤ 60) : Go.bits .or .i64 ((relRow f j : Nat) : Int) (shl .i64 1 (j : Int)) = ((relRow f (j + 1) : Nat) : Int) := by
  rw [shl_one (by omega), or_nat (relRow_lt62 f hj) (two_lt hj)]
  show _ = ((if f j = true then _ else _ : Nat) : Int)
  rw [if_pos h]
theorem row_no {f : Nat → Bool} {j : Nat} (h : f j = false) : ((relRow f j : Nat) : Int) = ((relRow f (j + 1) : Nat) : Int) := by
  show _ = ((if f j = true then _ else _ : Nat) : Int)
  rw [if_neg (by rw [h]; simp)]
/-- the first i rows of a relation. -/
def relPre (n : Nat) (is : Nat → Nat → Bool) (i : Nat) : List Int := cast ((List.range i).map fun i => relRow (is i) n)
theorem relPre_zero (n : Nat) (is : Nat → Nat → Bool) : relPre n is 0 = [] := rfl
theorem relPre_length (n : Nat) (is : Nat → Nat → Bool) (i : Nat) : (relPre n is i).length = i := by simp [relPre, cast_length]
theorem relPre_full (n : Nat) (is : Nat → Nat → Bool) : relPre n is n = relL n is := rfl
theorem relPre_succ (n : Nat) (is : Nat → Nat → Bool) (i : Nat) : relPre n is i ++ [((relRow (is i) n : Nat) : Int)] = relPre n is (i + 1) := by
  simp [relPre, cast, List.range_succ]
theorem rd_relL (n : Nat) (is : Nat → Nat → Bool) {i : Nat} (h : i < n) : rd (relL n is) (i : Int) = ((relRow (is i) n : Nat) : Int) := by
  unfold relL; rw [rd_cast, relN_get n is h]
theorem relRow_congr {f g : Nat → Bool} {n : Nat} (h : ∀ j, j < n → f j = g j) : relRow f n = relRow g n := by
  refine Nat.eq_of_testBit_eq fun j => ?_
  rw [relRow_testBit, relRow_testBit]
  by_cases hj : j < n
  · rw [h j hj]
  · simp [hj]
theorem relRow_zero {n : Nat} : relRow (fun _ => false) n = 0 := by
  refine Nat.eq_of_testBit_eq fun j => ?_
  rw [relRow_testBit]; simp
theorem relL_none (n : Nat) : relL n (fun _ _ => false) = List.replicate n 0 := by
  refine List.ext_getElem (by simp [relL_length]) fun i h1 h2 => ?_
  have h3 : i < n := by rw [relL_length] at h1; exact h1
  have e := rd_relL n (fun _ _ => false) h3
  rw [rd_get h1, relRow_zero] at e
  rw [e]; simp
theorem relL_set {n : Nat} {is : Nat → Nat → Bool} {i : Nat} (hi : i < n) (f : Nat → Bool) : (relL n is).set i ((relRow f n : Nat) : Int) = relL n (fun a b => if a = i then f b else is a b) := by
  refine List.ext_getElem (by simp [relL_length]) fun j h1 h2 => ?_
  have h3 : j < n := by rw [relL_length] at h2; exact h2
  rw [List.getElem_set, ← rd_get h2, rd_relL n _ h3]
  by_cases e : i = j
  · subst e
    simp
  · rw [if_neg e, ← rd_get (by rw [relL_length]; exact h3), rd_relL n _ h3]
    exact congrArg (fun (x : Nat) => (x : Int)) (relRow_congr fun b _ => by show is j b = if j = i then f b else is j b; rw [if_neg (by omega)])
/-- a mark more. -/
theorem relL_mark {n : Nat} (hn : n ≤ 60) {is : Nat → Nat → Bool} {i j : Nat} (hi : i < n) (hj : j < n) : (relL n is).set i (Go.bits .or .i64 (rd (relL n is) (i : Int)) (shl .i64 1 (j : Int))) = relL n (fun a b => is a b || (decide (a = i) && decide (b = j))) := by
  rw [rd_relL n is hi, shl_one (by omega), or_nat (relRow_lt62 _ hn) (two_lt (by omega))]
  have e : relRow (is i) n ||| 2 ^ j = relRow (fun b => is i b || decide (b = j)) n := by
    refine Nat.eq_of_testBit_eq fun k => ?_
    rw [Nat.testBit_or, relRow_testBit, relRow_testBit, Nat.testBit_two_pow]
    by_cases hk : k < n
    · by_cases hkj : j = k
      · subst hkj; simp [hk]
      · simp [hk, hkj, show ¬ k = j from fun h => hkj h.symm]
    · simp [hk, show ¬ j = k by omega]
  rw [e, relL_set hi]
  refine relL_congr fun a b ha hb => ?_
  by_cases h : a = i
  · subst h; simp
  · simp [h]
/-- a row more in a row. -/
theorem relL_or {n : Nat} (hn : n ≤ 60) {is : Nat → Nat → Bool} {i k : Nat} (hi : i < n) (hk : k < n) : (relL n is).set i (Go.bits .or .i64 (rd (relL n is) (i : Int)) (rd (relL n is) (k : Int))) = relL n (fun a b => is a b || (decide (a = i) && is k b)) := by
  rw [rd_relL n is hi, rd_relL n is hk, or_nat (relRow_lt62 _ hn) (relRow_lt62 _ hn)]
  have e : relRow (is i) n ||| relRow (is k) n = relRow (fun b => is i b || is k b) n := by
    refine Nat.eq_of_testBit_eq fun j => ?_
    rw [Nat.testBit_or, relRow_testBit, relRow_testBit, relRow_testBit]
    cases decide (j < n) <;> simp
  rw [e, relL_set hi]
  refine relL_congr fun a b ha hb => ?_
  by_cases h : a = i
  · subst h; simp
  · simp [h]
/-- a relation that came in is the relation of its bits. -/
theorem okRel_eq {n : Nat} {l : List Int} (hl : l.length = n) (hn : n ≤ 60) (hb : ∀ x ∈ l, 0 ≤ x ∧ x < 2 ^ n) : l = relL n (bitAt l) := by
  refine List.ext_getElem (by rw [relL_length]; exact hl) fun i h1 h2 => ?_
  have h3 : i < n := by omega
  rw [← rd_get h2, rd_relL n _ h3]
  obtain ⟨a, b⟩ := hb l[i] (List.getElem_mem h1)
  obtain ⟨x, hx⟩ := Int.eq_ofNat_of_zero_le a
  rw [hx]
  have hlt : x < 2 ^ n := by rw [hx] at b; exact_mod_cast b
  congr 1
  refine Nat.eq_of_testBit_eq fun j => ?_
  rw [relRow_testBit]
  have e : bitAt l i j = x.testBit j := by
    unfold bitAt
    rw [List.getD_eq_getElem?_getD, List.getElem?_eq_getElem h1, Option.getD_some, hx, Int.toNat_natCast]
  rw [e]
  by_cases hj : j < n
  · simp [hj]
  · simp only [hj, decide_false, Bool.false_and]
    exact Nat.testBit_lt_two_pow (Nat.lt_of_lt_of_le hlt (Nat.pow_le_pow_right (by decide) (by omega)))
theorem rd_okRel {n : Nat} {l : List Int} (hl : l.length = n) (hn : n ≤ 60) (hb : ∀ x ∈ l, 0 ≤ x ∧ x < 2 ^ n) {i : Nat} (hi : i < n) : rd l (i : Int) = ((relRow (bitAt l i) n : Nat) : Int) := by
  have h := okRel_eq hl hn hb
  have e : rd l (i : Int) = rd (relL n (bitAt l)) (i : Int) := by rw [← h]
  rw [e, rd_relL n _ hi]
end Go.Proofs.Ytbodhioladafnaa.L

/-! ### PuSets -/
/- Plain laws: sets of elements as numbers. -/
namespace Go.Proofs.Ytbodhioladafnaa.P
open Go.RowKit Go.Proofs.YtbodhioladafnaaW.PrintWords Go.Proofs.YtbodhioladafnaaW.PrintLast Go.Proofs.YtbodhioladafnaaW.PrintMore L
set_option linter.unusedVariables false
set_option linter.unusedSimpArgs false
def allN (m : Nat) : Nat := 2 ^ m - 1
theorem allN_bit (m i : Nat) : (allN m).testBit i = decide (i < m) := by unfold allN; exact Nat.testBit_two_pow_sub_one ..
theorem allN_lt (m : Nat) : allN m < 2 ^ m := by unfold allN; have := Nat.two_pow_pos m; omega
theorem shl_all {m : Nat} (hm : m ≤ 60) : wrap64 ((shl .i64 1 (m : Int)) - 1) = ((allN m : Nat) : Int) := by
  rw [L.shl_one (by omega)]
  have h := L.two_lt hm
  have h0 := Nat.two_pow_pos m
  unfold allN
  rw [L.w64 (by omega) (by omega)]; omega
theorem relRow_lt10 (f : Nat → Bool) {m : Nat} (hm : m ≤ 10) : L.relRow f m < 1024 :=
  Nat.lt_of_lt_of_le (L.relRow_lt f m) (Nat.pow_le_pow_right (n := 2) (by decide) hm)
theorem two_lt10 {i : Nat} (hm : i < 10) : (2 : Nat) ^ i < 1024 := Nat.pow_lt_pow_right (by decide) hm
theorem allN_lt10 {m : Nat} (hm : m ≤ 10) : allN m < 1024 := Nat.lt_of_lt_of_le (allN_lt m) (Nat.pow_le_pow_right (n := 2) (by decide) hm)
/-- the set of the elements of a list. -/
def setN (l : List Int) : Nat := L.relRow (fun j => decide ((j : Int) ∈ l)) 10
theorem setN_lt (l : List Int) : setN l < 1024 := relRow_lt10 _ (by omega)
theorem setN_bit (l : List Int) (j : Nat) : (setN l).testBit j = (decide (j < 10) && decide ((j : Int) ∈ l)) := L.relRow_testBit _ _ _
theorem setN_nil : setN [] = 0 := by decide +kernel
theorem setN_step (l : List Int) (i x : Nat) (hi : i < l.length) (hx : l[i] = (x : Int)) (h10 : x < 10) : setN (l.take i) ||| 2 ^ x = setN (l.take (i + 1)) := by
  refine Nat.eq_of_testBit_eq fun j => ?_
  rw [Nat.testBit_or, setN_bit, setN_bit, Nat.testBit_two_pow]
  have e : l.take (i + 1) = l.take i ++ [l[i]] := by rw [List.take_add_one, List.getElem?_eq_getElem hi]; rfl
  have e2 : ((j : Int) ∈ l.take (i + 1)) = ((j : Int) ∈ l.take i ∨ x = j) := by
    rw [e, List.mem_append, List.mem_singleton, hx]
    exact propext ⟨fun h => h.imp id fun h => by omega, fun h => h.imp id fun h => by omega⟩
  simp only [e2]
  by_cases hj : j < 10
  · by_cases h1 : (j : Int) ∈ l.take i <;> by_cases h2 : x = j <;> simp [hj, h1, h2]
  · by_cases h2 : x = j
    · omega
    · simp [hj, h2]
theorem int_beq (a b : Nat) : ((a : Int) == (b : Int)) = (a == b) := by
  rw [Bool.eq_iff_iff]; simp only [beq_iff_eq]; omega
end Go.Proofs.Ytbodhioladafnaa.P

/-! ### PuMem -/
/- Plain laws: the elements of a set, in the reference; sets of numbers below ten. -/
namespace Go.Proofs.Ytbodhioladafnaa.P
open Go.RowKit Go.Proofs.YtbodhioladafnaaW.PrintWords Go.Proofs.YtbodhioladafnaaW.PrintLast Go.Proofs.YtbodhioladafnaaW.PrintMore L
set_option linter.unusedVariables false
set_option linter.unusedSimpArgs false
/-- the elements of a set, in order. -/
def membersN (x : Nat) : List Nat := (List.range 10).filter fun i => x.testBit i
theorem membersN_zero : membersN 0 = [] := by decide +kernel
theorem membersN_length (x : Nat) : (membersN x).length ≤ 10 := by
  have := List.length_filter_le (fun i => x.testBit i) (List.range 10)
  rw [List.length_range] at this; exact this
theorem mem_membersN {x i : Nat} : i ∈ membersN x ↔ i < 10 ∧ x.testBit i = true := by simp [membersN]
theorem mem_members_lt {x m i : Nat} (hx : x < 2 ^ m) (h : i ∈ membersN x) : i < m := by
  have h2 := (mem_membersN.1 h).2
  by_cases hi : i < m
  · exact hi
  · rw [Nat.testBit_lt_two_pow (Nat.lt_of_lt_of_le hx (Nat.pow_le_pow_right (by decide) (by omega)))] at h2
    cases h2
theorem orHas_nat {x j : Nat} (hj : j ≤ 64) : spec_orHas.f (x : Int) (j : Int) = some (x.testBit j) := by
  unfold spec_orHas.f
  rw [if_pos (by omega), L.bit_mod hj]
theorem orList_ev (x : Nat) (hx : x < 1024) : Ev (fun k => spec_orList.f k (x : Int)) (L.cast (membersN x)) := by
  have key : ∀ i, i ≤ 10 → Ev (fun k => spec_orList.l0 k (x : Int) (L.cast ((List.range i).filter fun i => x.testBit i)) (i : Int)) (L.cast (membersN x)) := by
    refine L.down ?_ fun i hi ih => ?_
    · refine L.Ev.succ ?_
      simp only [spec_orList.l0]
      refine L.Ev.ifp (by omega) (L.Ev.ifn ?_ (Ev.now _))
      rw [L.shr_nat (by omega), Nat.shiftRight_eq_div_pow, Nat.div_eq_of_lt (by simpa using hx)]; simp
    · refine L.Ev.succ ?_
      simp only [spec_orList.l0]
      refine L.Ev.ifp (by omega) ?_
      rw [L.shr_nat (by omega)]
      by_cases h : x >>> i = 0
      · refine L.Ev.ifn (by rw [h]; simp) ?_
        have hlt : x < 2 ^ i := by
          rw [Nat.shiftRight_eq_div_pow] at h
          exact (Nat.div_eq_zero_iff_lt (Nat.two_pow_pos i)).1 h
        have e : membersN x = (List.range i).filter fun i => x.testBit i := by
          unfold membersN
          rw [show 10 = i + (10 - i) by omega, List.range_add, List.filter_append]
          have e2 : ((List.range (10 - i)).map (i + ·)).filter (fun i => x.testBit i) = [] := by
            rw [List.filter_eq_nil_iff]
            intro a ha
            obtain ⟨b, _, rfl⟩ := List.mem_map.1 ha
            rw [Nat.testBit_lt_two_pow (Nat.lt_of_lt_of_le hlt (Nat.pow_le_pow_right (by decide) (by omega)))]; simp
          rw [e2, List.append_nil]
        rw [e]; exact Ev.now _
      · refine L.Ev.ifp (by have := Nat.pos_of_ne_zero h; exact_mod_cast this) (L.Ev.bindc (orHas_nat (by omega)) ?_)
        have e : (List.range (i + 1)).filter (fun i => x.testBit i) = (List.range i).filter (fun i => x.testBit i) ++ if x.testBit i then [i] else [] := by
          rw [List.range_succ, List.filter_append]
          cases hb : x.testBit i <;> simp [hb]
        rw [e] at ih
        have hlen : ((List.range i).filter fun i => x.testBit i).length ≤ 10 := by
          have := List.length_filter_le (fun i => x.testBit i) (List.range i)
          rw [List.length_range] at this; omega
        cases hb : x.testBit i with
        | true =>
          refine L.Ev.ifp rfl (L.Ev.ifp (by rw [L.cast_length]; omega) ?_)
          rw [hb, if_pos rfl, L.cast_append] at ih
          exact Ev.congr (fun k => by rw [L.w64n (by omega)]; rfl) ih
        | false =>
          refine L.Ev.ifn (by simp) ?_
          rw [hb, if_neg (by simp), List.append_nil] at ih
          exact Ev.congr (fun k => by rw [L.w64n (by omega)]) ih
  exact key 0 (by omega)
end Go.Proofs.Ytbodhioladafnaa.P

/-! ### PuSorted -/
/- Plain laws: sorting by insertion; two sorted lists with the same members, told as often, are one; in plain lists. -/
namespace Go.Proofs.Ytbodhioladafnaa.Srt
set_option linter.unusedVariables false
set_option linter.unusedSimpArgs false
/-- put in ahead of the first one that does not stand before. -/
def ins (f : Nat → Nat → Bool) (i : Nat) : List Nat → List Nat
  | [] => [i]
  | x :: xs => if f x i = true then x :: ins f i xs else i :: x :: xs
def insAll (f : Nat → Nat → Bool) (is : List Nat) (acc : List Nat) : List Nat := is.foldl (fun acc i => ins f i acc) acc
theorem ins_perm (f : Nat → Nat → Bool) (i : Nat) : ∀ l : List Nat, (ins f i l).Perm (i :: l)
  | [] => List.Perm.refl _
  | x :: xs => by
    unfold ins
    split
    · exact ((ins_perm f i xs).cons x).trans (List.Perm.swap i x xs)
    · exact List.Perm.refl _
theorem insAll_perm (f : Nat → Nat → Bool) : ∀ (is acc : List Nat), (insAll f is acc).Perm (is ++ acc)
  | [], acc => List.Perm.refl _
  | i :: is, acc => by
    unfold insAll
    rw [List.foldl_cons]
    have h := insAll_perm f is (ins f i acc)
    unfold insAll at h
    refine h.trans ?_
    refine (List.Perm.append_left is (ins_perm f i acc)).trans ?_
    exact List.perm_middle
theorem ins_length (f : Nat → Nat → Bool) (i : Nat) (l : List Nat) : (ins f i l).length = l.length + 1 := by rw [(ins_perm f i l).length_eq]; rfl
theorem mem_ins {f : Nat → Nat → Bool} {i x : Nat} {l : List Nat} : x ∈ ins f i l ↔ x = i ∨ x ∈ l := by rw [(ins_perm f i l).mem_iff, List.mem_cons]
theorem ins_sorted {f : Nat → Nat → Bool} {a : Nat → Nat} (hy : ∀ x i, f x i = true → a x ≤ a i) (hn : ∀ x i, ¬ f x i = true → a i ≤ a x) (i : Nat) :
    ∀ l : List Nat, l.Pairwise (fun x y => a x ≤ a y) → (ins f i l).Pairwise (fun x y => a x ≤ a y)
  | [], _ => List.pairwise_singleton ..
  | x :: xs, h => by
    obtain ⟨h1, h2⟩ := List.pairwise_cons.1 h
    unfold ins
    split
    · rename_i hc
      refine List.pairwise_cons.2 ⟨fun y hyy => ?_, ins_sorted hy hn i xs h2⟩
      rcases mem_ins.1 hyy with e | e
      · rw [e]; exact hy x i hc
      · exact h1 y e
    · rename_i hc
      refine List.pairwise_cons.2 ⟨fun y hyy => ?_, h⟩
      rcases List.mem_cons.1 hyy with e | e
      · rw [e]; exact hn x i hc
      · exact Nat.le_trans (hn x i hc) (h1 y e)
theorem insAll_sorted {f : Nat → Nat → Bool} {a : Nat → Nat} (hy : ∀ x i, f x i = true → a x ≤ a i) (hn : ∀ x i, ¬ f x i = true → a i ≤ a x) :
    ∀ (is acc : List Nat), acc.Pairwise (fun x y => a x ≤ a y) → (insAll f is acc).Pairwise (fun x y => a x ≤ a y)
  | [], acc, h => h
  | i :: is, acc, h => insAll_sorted hy hn is _ (ins_sorted hy hn i acc h)
theorem sorted_perm_eq : ∀ (a b : List Int), a.Pairwise (· ≤ ·) → b.Pairwise (· ≤ ·) → a.Perm b → a = b
  | [], b, _, _, h => (List.nil_perm.1 h).symm
  | x :: a, [], _, _, h => absurd h.length_eq (by simp)
  | x :: a, y :: b, ha, hb, h => by
    obtain ⟨ha1, ha2⟩ := List.pairwise_cons.1 ha
    obtain ⟨hb1, hb2⟩ := List.pairwise_cons.1 hb
    have e : x = y := by
      have h1 : x ≤ y := by
        rcases List.mem_cons.1 (h.mem_iff.2 (List.mem_cons_self ..) : y ∈ x :: a) with e | e
        · omega
        · exact ha1 y e
      have h2 : y ≤ x := by
        rcases List.mem_cons.1 (h.mem_iff.1 (List.mem_cons_self ..) : x ∈ y :: b) with e | e
        · omega
        · exact hb1 x e
      omega
    subst e
    rw [sorted_perm_eq a b ha2 hb2 (List.Perm.cons_inv h)]
/-- the place at which it is put in. -/
def insAt (f : Nat → Nat → Bool) (i : Nat) : List Nat → Nat
  | [] => 0
  | x :: xs => if f x i = true then insAt f i xs + 1 else 0
theorem ins_at (f : Nat → Nat → Bool) (i : Nat) : ∀ l : List Nat, ins f i l = l.take (insAt f i l) ++ i :: l.drop (insAt f i l)
  | [] => rfl
  | x :: xs => by
    unfold ins insAt
    split
    · rw [ins_at f i xs]; rfl
    · rfl
theorem insAt_le (f : Nat → Nat → Bool) (i : Nat) : ∀ l : List Nat, insAt f i l ≤ l.length
  | [] => Nat.le_refl _
  | x :: xs => by
    unfold insAt
    split
    · have := insAt_le f i xs; rw [List.length_cons]; omega
    · omega
theorem insAt_yes (f : Nat → Nat → Bool) (i : Nat) : ∀ (l : List Nat) (k : Nat) (hk : k < l.length), k < insAt f i l → f l[k] i = true
  | x :: xs, 0, hk, h => by
    unfold insAt at h
    split at h
    · assumption
    · omega
  | x :: xs, k + 1, hk, h => by
    unfold insAt at h
    split at h
    · exact insAt_yes f i xs k (by simpa using hk) (by omega)
    · omega
theorem insAt_no (f : Nat → Nat → Bool) (i : Nat) : ∀ (l : List Nat) (hk : insAt f i l < l.length), f (l[insAt f i l]'hk) i = false
  | x :: xs, hk => by
    by_cases hc : f x i = true
    · have e : insAt f i (x :: xs) = insAt f i xs + 1 := by rw [insAt, if_pos hc]
      have hk2 : insAt f i xs < xs.length := by rw [e] at hk; simpa using hk
      have := insAt_no f i xs hk2
      simpa [e] using this
    · have e : insAt f i (x :: xs) = 0 := by rw [insAt, if_neg hc]
      simpa [e] using hc
end Go.Proofs.Ytbodhioladafnaa.Srt

/-! ### PuTrace -/
/- Plain laws: the elements in the order of the trace list, in the reference; how many are in a set. -/
namespace Go.Proofs.Ytbodhioladafnaa.P
open Go.RowKit Go.Proofs.YtbodhioladafnaaW.PrintWords Go.Proofs.YtbodhioladafnaaW.PrintLast Go.Proofs.YtbodhioladafnaaW.PrintMore L
set_option linter.unusedVariables false
set_option linter.unusedSimpArgs false
theorem isRel_relL {m : Nat} (hm : m ≤ 10) (is : Nat → Nat → Bool) : isRel (m : Int) (L.relL m is) = true := by
  refine (isRel_iff _ _).2 ⟨by omega, by omega, by rw [L.relL_length], fun x hx => ?_⟩
  rw [Int.toNat_natCast]
  obtain ⟨i, hi, e⟩ := List.mem_iff_getElem.1 hx
  rw [L.relL_length] at hi
  have e2 := L.rd_relL m is hi
  rw [L.rd_get (by rw [L.relL_length]; exact hi), e] at e2
  have := L.relRow_lt (is i) m
  rw [e2]
  refine ⟨by omega, ?_⟩
  have e3 : (2 : Int) ^ m = ((2 ^ m : Nat) : Int) := by norm_cast
  rw [e3]; omega
theorem rd_rel {m : Nat} {l : List Int} (h : isRel (m : Int) l = true) {i : Nat} (hi : i < m) : rd l (i : Int) = ((L.relRow (L.bitAt l i) m : Nat) : Int) := by
  have h2 := ((isRel_iff _ _).1 h)
  exact L.rd_okRel (by have := h2.2.2.1; omega) (by have := h2.2.1; omega) (by have := h2.2.2.2; rwa [Int.toNat_natCast] at this) hi
def bcN (l : List Int) (m i : Nat) : Nat := (membersN (belowN l m i)).length
def acN (l : List Int) (m i : Nat) : Nat := (membersN (L.relRow (L.bitAt l i) m)).length
def befB (l : List Int) (m x i : Nat) : Bool := if bcN l m x = bcN l m i then (if acN l m x = acN l m i then decide (x < i) else decide (acN l m i < acN l m x)) else decide (bcN l m x < bcN l m i)
theorem befB_yes (l : List Int) (m x i : Nat) (h : befB l m x i = true) : bcN l m x ≤ bcN l m i := by
  unfold befB at h
  split at h
  · omega
  · have := of_decide_eq_true h; omega
theorem befB_no (l : List Int) (m x i : Nat) (h : ¬ befB l m x i = true) : bcN l m i ≤ bcN l m x := by
  unfold befB at h
  split at h
  · omega
  · have : ¬ bcN l m x < bcN l m i := fun hh => h (decide_eq_true hh)
    omega
theorem seMany_ev (x : Nat) (hx : x < 1024) : Ev (fun k => spec_seMany.f k (x : Int)) (((membersN x).length : Nat) : Int) := by
  unfold spec_seMany.f
  refine Ev.bind (orList_ev x hx) ?_
  rw [L.cast_length]; exact Ev.now _
theorem rel_two {m : Nat} {l : List Int} (h : isRel (m : Int) l = true) : l.length = m ∧ m ≤ 10 := by
  have h2 := ((isRel_iff _ _).1 h); omega
theorem seBefore_ev {m : Nat} {l : List Int} (h : isRel (m : Int) l = true) {x i : Nat} (hx : x < m) (hi : i < m) : Ev (fun k => spec_seBefore.f k (m : Int) l (x : Int) (i : Int)) (befB l m x i) := by
  obtain ⟨h1, h2⟩ := rel_two h
  unfold spec_seBefore.f befB
  have b1 : belowN l m x < 1024 := relRow_lt10 _ h2
  have b2 : belowN l m i < 1024 := relRow_lt10 _ h2
  have b3 : L.relRow (L.bitAt l x) m < 1024 := relRow_lt10 _ h2
  have b4 : L.relRow (L.bitAt l i) m < 1024 := relRow_lt10 _ h2
  rw [rd_rel h hx, rd_rel h hi]
  refine Ev.bind (orBelow_ev h x (by omega)) (Ev.bind (seMany_ev _ b1) (Ev.bind (orBelow_ev h i (by omega)) (Ev.bind (seMany_ev _ b2) (L.Ev.ifp (by omega) (L.Ev.ifp (by omega) (Ev.bind (seMany_ev _ b3) (L.Ev.ifp (by omega) (L.Ev.ifp (by omega) (Ev.bind (seMany_ev _ b4) ?_)))))))))
  show Ev (fun _ => if ((bcN l m x : Nat) : Int) = ((bcN l m i : Nat) : Int) then (if ((acN l m x : Nat) : Int) = ((acN l m i : Nat) : Int) then some (decide ((x : Int) < (i : Int))) else some (decide (((acN l m x : Nat) : Int) > ((acN l m i : Nat) : Int)))) else some (decide (((bcN l m x : Nat) : Int) < ((bcN l m i : Nat) : Int)))) _
  by_cases e1 : bcN l m x = bcN l m i
  · refine L.Ev.ifp (by omega) ?_
    rw [if_pos e1]
    by_cases e2 : acN l m x = acN l m i
    · refine L.Ev.ifp (by omega) ?_
      rw [if_pos e2, show decide ((x : Int) < (i : Int)) = decide (x < i) from decide_eq_decide.2 (by omega)]
      exact Ev.now _
    · refine L.Ev.ifn (by omega) ?_
      rw [if_neg e2, show decide (((acN l m x : Nat) : Int) > ((acN l m i : Nat) : Int)) = decide (acN l m i < acN l m x) from decide_eq_decide.2 (by omega)]
      exact Ev.now _
  · refine L.Ev.ifn (by omega) ?_
    rw [if_neg e1, show decide (((bcN l m x : Nat) : Int) < ((bcN l m i : Nat) : Int)) = decide (bcN l m x < bcN l m i) from decide_eq_decide.2 (by omega)]
    exact Ev.now _
theorem own_ev (l : List Int) (hl : l.length ≤ 1048576) : spec_l1Own.f l = some l := by
  unfold spec_l1Own.f
  simp only [Option.bind_some, List.nil_append, List.length_nil, Nat.zero_add]
  rw [if_pos (by omega)]
theorem seTrace_ev {m : Nat} {l : List Int} (h : isRel (m : Int) l = true) : Ev (fun k => spec_seTrace.f k (m : Int) l) (L.cast (Srt.insAll (befB l m) (List.range m) [])) := by
  obtain ⟨h1, h2⟩ := rel_two h
  have key : ∀ i, i ≤ m → ∀ acc : List Nat, acc.length = i → (∀ x ∈ acc, x < m) → Ev (fun k => spec_seTrace.l0 k (L.cast acc) (i : Int) (m : Int) l) (L.cast (Srt.insAll (befB l m) ((List.range m).drop i) acc)) := by
    refine L.down ?_ fun i hi ih => ?_
    · intro acc ha hm
      refine L.Ev.succ ?_
      simp only [spec_seTrace.l0]
      rw [List.drop_eq_nil_of_le (by simp)]
      exact L.Ev.ifn (by omega) (Ev.now _)
    · intro acc ha hm
      have e0 : (List.range m).drop i = i :: (List.range m).drop (i + 1) := by rw [List.drop_eq_getElem_cons (by simpa using hi), List.getElem_range]
      rw [e0]
      have next := ih (Srt.ins (befB l m) i acc) (by rw [Srt.ins_length]; omega) (fun x hx => by
        rcases Srt.mem_ins.1 hx with e | e
        · omega
        · exact hm x e)
      have hle := Srt.insAt_le (befB l m) i acc
      have fin : ∀ at_ : Nat, at_ = Srt.insAt (befB l m) i acc → (L.cast acc).take at_ ++ [(i : Int)] ++ (L.cast acc).drop at_ = L.cast (Srt.ins (befB l m) i acc) := by
        rintro _ rfl
        rw [Srt.ins_at]
        simp [L.cast, List.map_take, List.map_drop]
      have inner : ∀ k, k ≤ Srt.insAt (befB l m) i acc → Ev (fun f => spec_seTrace.l1 f (L.cast acc) (i : Int) (k : Int) (m : Int) l) (L.cast (Srt.insAll (befB l m) ((List.range m).drop (i + 1)) (Srt.ins (befB l m) i acc))) := by
        refine L.down ?_ fun k hk ihk => ?_
        · generalize hat : Srt.insAt (befB l m) i acc = at_ at hle
          have hf := fin at_ hat.symm
          have ht : ((L.cast acc).take at_).length ≤ 1048576 := by rw [List.length_take, L.cast_length]; omega
          refine L.Ev.succ ?_
          simp only [spec_seTrace.l1]
          rw [Int.toNat_natCast, L.w64n (n := i) (by omega)]
          have tail : Ev (fun f => (spec_l1Own.f ((L.cast acc).take at_)).bind fun t => if t.length < 17592186044416 then ((some (t ++ [(i : Int)] : List Int)).bind fun y => ((some ((L.cast acc).drop at_ : List Int)).bind fun z => (if y.length + z.length < 17592186044416 then (spec_seTrace.l0 f (y ++ z) ((i + 1 : Nat) : Int) (m : Int) l) else (none)))) else (none)) (L.cast (Srt.insAll (befB l m) ((List.range m).drop (i + 1)) (Srt.ins (befB l m) i acc))) := by
            refine L.Ev.bindc (own_ev _ ht) (L.Ev.ifp (by omega) (L.Ev.bindc rfl (L.Ev.bindc rfl (L.Ev.ifp (by simp only [List.length_append, List.length_take, List.length_drop, L.cast_length, List.length_cons, List.length_nil]; omega) ?_))))
            rw [hf]
            exact next
          by_cases hlt : at_ < acc.length
          · have hx := hm acc[at_] (List.getElem_mem hlt)
            have hno := Srt.insAt_no (befB l m) i acc (by rw [hat]; exact hlt)
            simp only [hat] at hno
            have e1 : rd (L.cast acc) (at_ : Int) = ((acc[at_] : Nat) : Int) := by rw [L.rd_cast, List.getD_eq_getElem?_getD, List.getElem?_eq_getElem hlt]; rfl
            rw [e1]
            refine L.Ev.ifp (by rw [L.cast_length]; omega) (L.Ev.ifp (by omega) (Ev.bind (seBefore_ev h hx hi) (L.Ev.ifn (by rw [hno]; simp) (L.Ev.ifp (by rw [L.cast_length]; omega) tail))))
          · exact L.Ev.ifn (by rw [L.cast_length]; omega) (L.Ev.ifp (by omega) (L.Ev.ifp (by rw [L.cast_length]; omega) tail))
        · have hlt : k < acc.length := by omega
          have hx := hm acc[k] (List.getElem_mem hlt)
          have hyes := Srt.insAt_yes (befB l m) i acc k hlt hk
          have e1 : rd (L.cast acc) (k : Int) = ((acc[k] : Nat) : Int) := by rw [L.rd_cast, List.getD_eq_getElem?_getD, List.getElem?_eq_getElem hlt]; rfl
          refine L.Ev.succ ?_
          simp only [spec_seTrace.l1]
          rw [e1, L.w64n (n := k) (by omega)]
          exact L.Ev.ifp (by rw [L.cast_length]; omega) (L.Ev.ifp (by omega) (Ev.bind (seBefore_ev h hx hi) (L.Ev.ifp hyes ihk)))
      refine L.Ev.succ ?_
      simp only [spec_seTrace.l0]
      exact L.Ev.ifp (by omega) (inner 0 (by omega))
  unfold spec_seTrace.f
  have := key 0 (by omega) [] rfl (by simp)
  rw [List.drop_zero] at this
  exact this
theorem seStair_ev {m : Nat} {l : List Int} (h : isRel (m : Int) l = true) : Ev (fun k => spec_seStair.f k (m : Int) l) (L.cast ((Srt.insAll (befB l m) (List.range m) []).map (bcN l m))) := by
  obtain ⟨h1, h2⟩ := rel_two h
  have hp := Srt.insAll_perm (befB l m) (List.range m) []
  rw [List.append_nil] at hp
  generalize hT : Srt.insAll (befB l m) (List.range m) [] = T at hp
  have hl : T.length = m := by rw [hp.length_eq, List.length_range]
  have hm : ∀ x ∈ T, x < m := fun x hx => List.mem_range.1 (hp.mem_iff.1 hx)
  have key : ∀ i, i ≤ T.length → Ev (fun k => spec_seStair.l0 k (L.cast ((T.take i).map (bcN l m))) (L.cast T) ((L.cast T).length : Int) (i : Int) (m : Int) l) (L.cast (T.map (bcN l m))) := by
    refine L.down ?_ fun i hi ih => ?_
    · refine L.Ev.succ ?_
      simp only [spec_seStair.l0]
      rw [List.take_of_length_le (Nat.le_refl _)]
      exact L.Ev.ifn (by rw [L.cast_length]; omega) (Ev.now _)
    · have hx := hm T[i] (List.getElem_mem hi)
      have e1 : rd (L.cast T) (i : Int) = ((T[i] : Nat) : Int) := by rw [L.rd_cast, List.getD_eq_getElem?_getD, List.getElem?_eq_getElem hi]; rfl
      have b1 : belowN l m T[i] < 1024 := relRow_lt10 _ h2
      refine L.Ev.succ ?_
      simp only [spec_seStair.l0]
      rw [e1, L.w64n (n := i) (by omega)]
      refine L.Ev.ifp (by rw [L.cast_length]; omega) (L.Ev.ifp (by omega) (L.Ev.ifp (by rw [L.cast_length]; omega) (Ev.bind (orBelow_ev h _ (by omega)) (Ev.bind (seMany_ev _ b1) (L.Ev.ifp (by rw [L.cast_length, List.length_map, List.length_take]; omega) ?_)))))
      have e2 : L.cast ((T.take i).map (bcN l m)) ++ [(((membersN (belowN l m T[i])).length : Nat) : Int)] = L.cast ((T.take (i + 1)).map (bcN l m)) := by
        rw [List.take_add_one, List.getElem?_eq_getElem hi, List.map_append, L.cast_append]; rfl
      rw [e2]
      exact ih
  unfold spec_seStair.f
  refine Ev.bind (seTrace_ev h) ?_
  rw [hT]
  exact key 0 (by omega)
end Go.Proofs.Ytbodhioladafnaa.P

/-! ### PuWithin -/
/- Plain laws: numbers between two numbers, in the program and in the reference. -/
namespace Go.Proofs.Ytbodhioladafnaa.P
open Go.RowKit Go.Proofs.YtbodhioladafnaaW.PrintWords Go.Proofs.YtbodhioladafnaaW.PrintLast Go.Proofs.YtbodhioladafnaaW.PrintMore L
set_option linter.unusedVariables false
set_option linter.unusedSimpArgs false
theorem within_eq (a b c : Int) : impl_within.f a b c = some (decide (b ≤ a ∧ a ≤ c)) := by
  unfold impl_within.f
  by_cases h : a ≥ b
  · rw [if_pos h]; congr 1; simp; omega
  · rw [if_neg h]; congr 1; simp; omega
theorem l1In_eq (a b c : Int) : spec_l1In.f a b c = some (decide (b ≤ a ∧ a ≤ c)) := within_eq a b c
end Go.Proofs.Ytbodhioladafnaa.P

/-! ### PuStair -/
/- Plain laws: stairs, for the program and the reference alike. -/
namespace Go.Proofs.Ytbodhioladafnaa.P
open Go.RowKit Go.Proofs.YtbodhioladafnaaW.PrintWords Go.Proofs.YtbodhioladafnaaW.PrintLast Go.Proofs.YtbodhioladafnaaW.PrintMore L
set_option linter.unusedVariables false
set_option linter.unusedSimpArgs false
def stairAt (l : List Int) (i : Nat) : Bool := decide (0 ≤ rd l (i : Int) ∧ rd l (i : Int) ≤ i ∧ (0 < i → rd l ((i - 1 : Nat) : Int) ≤ rd l (i : Int)))
def isStair (l : List Int) : Bool := (List.range l.length).all (stairAt l) && decide (l.length ≤ 10)
theorem isStair_iff (l : List Int) : isStair l = true ↔ (∀ i, i < l.length → 0 ≤ rd l (i : Int) ∧ rd l (i : Int) ≤ i ∧ (0 < i → rd l ((i - 1 : Nat) : Int) ≤ rd l (i : Int))) ∧ l.length ≤ 10 := by
  simp only [isStair, Bool.and_eq_true, List.all_eq_true, List.mem_range, stairAt, decide_eq_true_eq]
theorem stairs_same_loop : ∀ k a b c d, spec_IsStair.l0 k a b c d = impl_IsStair.l0 k a b c d := by
  intro k
  induction k with
  | zero => intros; rfl
  | succ k ih => intro a b c d; simp only [spec_IsStair.l0, impl_IsStair.l0, ih, show spec_l1In.f = impl_within.f from rfl]
theorem range_drop_all (f : Nat → Bool) (n i : Nat) (hi : i < n) : ((List.range n).drop i).all f = (f i && ((List.range n).drop (i + 1)).all f) := by
  rw [List.drop_eq_getElem_cons (by simpa using hi), List.all_cons]; simp
theorem implStair_ev (l : List Int) (hl : l.length ≤ 1048576) : Ev (fun k => impl_IsStair.f k l) (isStair l) := by
  have key : ∀ i, i ≤ l.length → Ev (fun k => impl_IsStair.l0 k l l (l.length : Int) (i : Int)) (((List.range l.length).drop i).all (stairAt l) && decide (l.length ≤ 10)) := by
    refine L.down ?_ fun i hi ih => ?_
    · refine L.Ev.succ ?_
      simp only [impl_IsStair.l0]
      rw [List.drop_eq_nil_of_le (by simp)]
      have e : decide ((l.length : Int) ≤ 10) = decide (l.length ≤ 10) := by simp only [decide_eq_decide]; omega
      refine L.Ev.ifn (by omega) ?_
      rw [e]; exact Ev.now _
    · refine L.Ev.succ ?_
      simp only [impl_IsStair.l0]
      rw [range_drop_all _ _ i hi]
      refine L.Ev.ifp (by omega) (L.Ev.ifp (by omega) (L.Ev.ifp (by omega) (L.Ev.bindc (within_eq _ _ _) ?_)))
      rw [L.w64n (by omega)]
      by_cases h : 0 ≤ rd l (i : Int) ∧ rd l (i : Int) ≤ (i : Int)
      · refine L.Ev.ifp (by simpa using h) ?_
        by_cases h0 : 0 < i
        · have e1 : wrap64 ((i : Int) - 1) = ((i - 1 : Nat) : Int) := by rw [L.w64 (by omega) (by omega)]; omega
          rw [e1]
          refine L.Ev.ifp (by omega) (L.Ev.ifp (by omega) (L.Ev.ifp (by omega) ?_))
          by_cases h1 : rd l ((i - 1 : Nat) : Int) ≤ rd l (i : Int)
          · refine L.Ev.ifn (by omega) ?_
            have e : stairAt l i = true := by unfold stairAt; rw [decide_eq_true_eq]; exact ⟨h.1, h.2, fun _ => h1⟩
            rw [e, Bool.true_and]; exact ih
          · refine L.Ev.ifp (by omega) ?_
            have e : stairAt l i = false := by unfold stairAt; rw [decide_eq_false_iff_not]; intro hh; exact h1 (hh.2.2 h0)
            rw [e]; exact Ev.now _
        · refine L.Ev.ifn (by omega) ?_
          have e : stairAt l i = true := by unfold stairAt; rw [decide_eq_true_eq]; exact ⟨h.1, h.2, fun h => absurd h h0⟩
          rw [e, Bool.true_and]; exact ih
      · refine L.Ev.ifn (by simpa using h) ?_
        have e : stairAt l i = false := by unfold stairAt; rw [decide_eq_false_iff_not]; intro hh; exact h ⟨hh.1, hh.2.1⟩
        rw [e]; exact Ev.now _
  exact key 0 (by omega)
theorem specStair_ev (l : List Int) (hl : l.length ≤ 1048576) : Ev (fun k => spec_IsStair.f k l) (isStair l) :=
  Ev.congr (fun k => stairs_same_loop k l l (l.length : Int) 0) (implStair_ev l hl)
end Go.Proofs.Ytbodhioladafnaa.P

/-! ### PuStairOrder -/
/- Plain laws: the order of a stair, in the reference. -/
namespace Go.Proofs.Ytbodhioladafnaa.P
open Go.RowKit Go.Proofs.YtbodhioladafnaaW.PrintWords Go.Proofs.YtbodhioladafnaaW.PrintLast Go.Proofs.YtbodhioladafnaaW.PrintMore L
set_option linter.unusedVariables false
set_option linter.unusedSimpArgs false
/-- i is below j in the order of a stair. -/
def stairIs (l : List Int) (i j : Nat) : Bool := decide ((i : Int) < rd l (j : Int))
theorem seOrder_ev (l : List Int) (h : isStair l = true) : Ev (fun k => spec_seOrder.f k l) ((l.length : Int), L.relL l.length (stairIs l)) := by
  obtain ⟨hs, hn⟩ := (isStair_iff l).1 h
  have k1 : ∀ j, j < l.length → ∀ m : Nat, (m : Int) = rd l (j : Int) → Ev (fun k => spec_seOrder.l0 k l (l.length : Int) ((j + 1 : Nat) : Int) (l.length : Int) (L.relL l.length fun a b => decide (b < j + 1) && stairIs l a b)) ((l.length : Int), L.relL l.length (stairIs l)) →
      ∀ i, i ≤ m → Ev (fun k => spec_seOrder.l1 k (j : Int) (rd l (j : Int)) (i : Int) l (l.length : Int) (j : Int) (l.length : Int) (L.relL l.length fun a b => (decide (b < j) && stairIs l a b) || (decide (b = j) && decide (a < i)))) ((l.length : Int), L.relL l.length (stairIs l)) := by
    intro j hj m hm hk
    have hj2 := (hs j hj).2.1
    refine L.down ?_ fun i hi ih => ?_
    · refine L.Ev.succ ?_
      simp only [spec_seOrder.l1]
      refine L.Ev.ifn (by omega) ?_
      rw [L.w64n (by omega)]
      refine Ev.congr (fun k => ?_) hk
      congr 1
      refine L.relL_congr fun a b ha hb => ?_
      by_cases hb2 : b < j
      · simp [hb2, show b < j + 1 by omega, show ¬ b = j by omega]
      · by_cases hb3 : b = j
        · subst hb3
          have e : stairIs l a b = decide (a < m) := by unfold stairIs; rw [← hm]; simp only [decide_eq_decide]; omega
          simp [e]
        · simp [hb2, hb3, show ¬ b < j + 1 by omega]
    · refine L.Ev.succ ?_
      simp only [spec_seOrder.l1]
      refine L.Ev.ifp (by omega) (L.Ev.ifp (by omega) (L.Ev.ifp (by rw [L.relL_length]; omega) (L.Ev.ifp (by omega) ?_)))
      rw [Int.toNat_natCast, L.relL_mark (by omega) (by omega) hj, L.w64n (n := i) (by omega)]
      refine Ev.congr (fun k => ?_) ih
      congr 1
      refine L.relL_congr fun a b ha hb => ?_
      by_cases hb3 : b = j
      · subst hb3
        by_cases ha2 : a = i
        · subst ha2; simp
        · by_cases ha3 : a < i
          · simp [ha3, show a < i + 1 by omega]
          · simp [ha2, ha3, show ¬ a < i + 1 by omega]
      · simp [hb3]
  have k0 : ∀ j, j ≤ l.length → Ev (fun k => spec_seOrder.l0 k l (l.length : Int) (j : Int) (l.length : Int) (L.relL l.length fun a b => decide (b < j) && stairIs l a b)) ((l.length : Int), L.relL l.length (stairIs l)) := by
    refine L.down ?_ fun j hj ih => ?_
    · refine L.Ev.succ ?_
      simp only [spec_seOrder.l0]
      have e : L.relL l.length (fun a b => decide (b < l.length) && stairIs l a b) = L.relL l.length (stairIs l) := L.relL_congr fun a b ha hb => by simp [hb]
      rw [e]
      exact L.Ev.ifn (by omega) (Ev.now _)
    · refine L.Ev.succ ?_
      simp only [spec_seOrder.l0]
      obtain ⟨m, hm⟩ := Int.eq_ofNat_of_zero_le (hs j hj).1
      refine L.Ev.ifp (by omega) (L.Ev.ifp (by omega) (L.Ev.ifp (by omega) ?_))
      refine Ev.congr (fun k => ?_) (k1 j hj m hm.symm ih 0 (by omega))
      congr 1
      refine L.relL_congr fun a b ha hb => by simp
  unfold spec_seOrder.f
  refine L.Ev.ifp (by omega) (L.Ev.ifp (by omega) ?_)
  rw [Int.toNat_natCast, ← L.relL_none]
  refine Ev.congr (fun k => ?_) (k0 0 (by omega))
  congr 1
end Go.Proofs.Ytbodhioladafnaa.P

/-! ### PuMirror -/
/- Plain laws: the relation turned round, in the reference. -/
namespace Go.Proofs.Ytbodhioladafnaa.P
open Go.RowKit Go.Proofs.YtbodhioladafnaaW.PrintWords Go.Proofs.YtbodhioladafnaaW.PrintLast Go.Proofs.YtbodhioladafnaaW.PrintMore L
set_option linter.unusedVariables false
set_option linter.unusedSimpArgs false
theorem orMirror_ev {m : Nat} {l : List Int} (h : isRel (m : Int) l = true) : Ev (fun k => spec_orMirror.f k (m : Int) l) ((m : Int), L.relL m fun i j => L.bitAt l j i) := by
  obtain ⟨m', hm', hm, hlm⟩ := isRel_nat h
  have key : ∀ i, i ≤ m → Ev (fun k => spec_orMirror.l0 k (l.length : Int) (i : Int) (m : Int) l (m : Int) (L.relPre m (fun i j => L.bitAt l j i) i)) ((m : Int), L.relL m fun i j => L.bitAt l j i) := by
    refine L.down ?_ fun i hi ih => ?_
    · refine L.Ev.succ ?_
      simp only [spec_orMirror.l0]
      exact L.Ev.ifn (by omega) (Ev.now _)
    · refine L.Ev.succ ?_
      simp only [spec_orMirror.l0]
      refine L.Ev.ifp (by omega) (Ev.bind (orBelow_ev h i (by omega)) (L.Ev.ifp (by rw [L.relPre_length]; omega) ?_))
      unfold belowN
      rw [L.relPre_succ m (fun i j => L.bitAt l j i) i]
      exact Ev.congr (fun k => by rw [L.w64n (by omega)]) ih
  exact key 0 (by omega)
end Go.Proofs.Ytbodhioladafnaa.P

/-! ### BoMirrorStair -/
/- What MirrorStair comes to, in the program and in the reference. -/
namespace Go.Proofs.Ytbodhioladafnaa.P
open Go.RowKit Go.Proofs.YtbodhioladafnaaW.PrintWords Go.Proofs.YtbodhioladafnaaW.PrintLast Go.Proofs.YtbodhioladafnaaW.PrintMore L
set_option linter.unusedVariables false
set_option linter.unusedSimpArgs false
set_option maxRecDepth 100000 in
theorem count_all : ∀ x : Nat, x < 1024 → impl_count.f (x : Int) = some (((membersN x).length : Nat) : Int) := by decide +kernel
theorem sortL_trace {m : Nat} (l : List Int) : sortL (L.cast ((List.range m).map (bcN l m))) = L.cast ((Srt.insAll (befB l m) (List.range m) []).map (bcN l m)) := by
  refine Srt.sorted_perm_eq _ _ ?_ ?_ ?_
  · unfold sortL
    have := List.pairwise_mergeSort (le := fun x y : Int => decide (x ≤ y)) (fun a b c h1 h2 => by simp at *; omega) (fun a b => by simp; omega) (L.cast ((List.range m).map (bcN l m)))
    exact this.imp fun h => by simpa using h
  · have h := Srt.insAll_sorted (befB_yes l m) (befB_no l m) (List.range m) [] List.Pairwise.nil
    unfold L.cast
    rw [List.map_map, List.pairwise_map]
    exact h.imp fun hh => by simp; exact hh
  · unfold sortL
    refine (List.mergeSort_perm _ _).trans ?_
    have hp := Srt.insAll_perm (befB l m) (List.range m) []
    rw [List.append_nil] at hp
    exact ((hp.symm.map (bcN l m)).map _)
theorem stairs_ev {m : Nat} {l : List Int} (h : isRel (m : Int) l = true) : Ev (fun k => impl_Order_stair.f k (m : Int) l) (L.cast ((Srt.insAll (befB l m) (List.range m) []).map (bcN l m))) := by
  obtain ⟨h1, h2⟩ := rel_two h
  have key : ∀ i, i ≤ m → Ev (fun k => impl_Order_stair.l0 k (L.cast ((List.range i).map (bcN l m))) (L.relL m fun i j => L.bitAt l j i) (m : Int) (i : Int)) (L.cast ((Srt.insAll (befB l m) (List.range m) []).map (bcN l m))) := by
    refine L.down ?_ fun i hi ih => ?_
    · refine L.Ev.succ ?_
      simp only [impl_Order_stair.l0]
      refine L.Ev.ifn (by omega) (L.Ev.bindc (a := L.cast ((Srt.insAll (befB l m) (List.range m) []).map (bcN l m))) ?_ (Ev.now _))
      unfold slices_Sort_int_int.f
      rw [if_pos (by rw [L.cast_length, List.length_map, List.length_range]; omega), sortL_trace]
    · have b1 : belowN l m i < 1024 := relRow_lt10 _ h2
      refine L.Ev.succ ?_
      simp only [impl_Order_stair.l0]
      rw [rd_mirror l hi, L.w64n (n := i) (by omega)]
      refine L.Ev.ifp (by omega) (L.Ev.ifp (by omega) (L.Ev.ifp (by rw [L.relL_length]; omega) (L.Ev.bindc (count_all _ b1) (L.Ev.ifp (by rw [L.cast_length, List.length_map, List.length_range]; omega) ?_))))
      have e2 : L.cast ((List.range i).map (bcN l m)) ++ [(((membersN (belowN l m i)).length : Nat) : Int)] = L.cast ((List.range (i + 1)).map (bcN l m)) := by
        rw [List.range_succ, List.map_append, L.cast_append]; rfl
      rw [e2]
      exact ih
  unfold impl_Order_stair.f
  refine L.Ev.bindc (mirror_eq h) ?_
  dsimp only
  rw [L.relL_length]
  exact key 0 (by omega)
theorem MirrorStair_both (l : List Int) (hl : l.length ≤ 1048576) (w0 : ∀ x ∈ l, R.wf x) :
    ∃ (r : List Int) (b : Bool), Ev (fun k => spec_MirrorStair.f k l) (r, b) ∧ Ev (fun k => impl_MirrorStair.f k l) (r, b) ∧ r.length ≤ 1048576 := by
  cases h : isStair l with
  | false =>
    refine ⟨[], false, ?_, ?_, by simp⟩
    · unfold spec_MirrorStair.f
      exact Ev.bind (specStair_ev l hl) (L.Ev.ifn (by simp [h]) (Ev.now _))
    · unfold impl_MirrorStair.f
      exact Ev.bind (implStair_ev l hl) (L.Ev.ifn (by simp [h]) (Ev.now _))
  | true =>
    obtain ⟨hs, hn⟩ := (isStair_iff l).1 h
    have r1 := isRel_relL hn (stairIs l)
    have r2 := isRel_relL hn (fun i j => L.bitAt (L.relL l.length (stairIs l)) j i)
    have e1 := L.relL_length l.length (stairIs l)
    have hlen : (Srt.insAll (befB (L.relL l.length fun i j => L.bitAt (L.relL l.length (stairIs l)) j i) l.length) (List.range l.length) []).length = l.length := by
      rw [(Srt.insAll_perm _ _ _).length_eq]; simp
    refine ⟨L.cast ((Srt.insAll (befB (L.relL l.length fun i j => L.bitAt (L.relL l.length (stairIs l)) j i) l.length) (List.range l.length) []).map (bcN (L.relL l.length fun i j => L.bitAt (L.relL l.length (stairIs l)) j i) l.length)), true, ?_, ?_, ?_⟩
    rotate_left
    · unfold impl_MirrorStair.f
      refine Ev.bind (implStair_ev l hl) (L.Ev.ifp (by simp [h]) (L.Ev.bindc (a := ((l.length : Int), L.relL l.length (stairIs l))) ?_ (L.Ev.bindc (mirror_eq r1) (Ev.bind (stairs_ev r2) (Ev.now _)))))
      unfold impl_ofStair.f
      rw [if_pos (by omega)]; rfl
    · rw [L.cast_length, List.length_map, hlen]; exact hl
    · unfold spec_MirrorStair.f
      exact Ev.bind (specStair_ev l hl) (L.Ev.ifp (by simp [h]) (Ev.bind (seOrder_ev l h) (Ev.bind (orMirror_ev r1) (Ev.bind (seStair_ev r2) (Ev.now _)))))
end Go.Proofs.Ytbodhioladafnaa.P

/-! ### PuFnExactMirrorStair -/
/- The plain law behind FnExactMirrorStair, out of what the program's and the reference's function come to. -/
namespace Go.Proofs.Ytbodhioladafnaa.P
open Go.RowKit Go.Proofs.YtbodhioladafnaaW.PrintWords Go.Proofs.YtbodhioladafnaaW.PrintLast Go.Proofs.YtbodhioladafnaaW.PrintMore L
set_option linter.unusedVariables false
set_option linter.unusedSimpArgs false
set_option maxHeartbeats 1000000 in
theorem FnExactMirrorStair_pure (l0 : List Int) (m0 : l0.length ≤ 9223372036854775807) (w0 : ∀ x ∈ l0, R.wf x) : ∃ k, laws_FnExactMirrorStair.f k l0 = some true := by
  refine Ev.rounds (r := true) ?_
  unfold laws_FnExactMirrorStair.f
  by_cases hb0 : (l0.length : Int) > 1048576
  case pos => exact L.Ev.ifp hb0 (Ev.now true)
  refine L.Ev.ifn hb0 ?_
  have hn0 : l0.length ≤ 1048576 := by omega
  obtain ⟨r0, r1, hs, hi, hl0⟩ := MirrorStair_both l0 hn0 w0
  repeat' (first
    | exact Ev.now true
    | exact Ev.now _
    | with_reducible exact rfl
    | (with_reducible refine Ev.bind hs ?_)
    | (with_reducible refine Ev.bind hi ?_)
    | (with_reducible refine Ev.bind (toIntS_ev _ ?hs1) ?_; (case hs1 => first | omega | (dsimp only; omega)))
    | (with_reducible refine Ev.bind (eqIntS_self _ ?hs1) ?_; (case hs1 => first | omega | (dsimp only; omega)))
    | (with_reducible refine Ev.bind (markIntS_ev _ _ ?hs1 ?hs2) ?_; (case hs1 => first | omega | (dsimp only; omega)); (case hs2 => first | omega | (dsimp only; omega)))
    | (with_reducible refine Ev.bind (held_marks _ _ ?hs1 ?hs2) ?_; (case hs1 => first | omega | (dsimp only; omega)); (case hs2 => first | omega | (dsimp only; omega)))
    | (refine L.Ev.ifp ?hc ?_; (case hc => first | rfl | omega | (simp; done)))
    | (refine L.Ev.ifn ?hc ?_; (case hc => first | omega | (simp; done)))
    | (refine L.Ev.succ ?_; simp only [laws_FnExactMirrorStair.j0])
    | (refine L.Ev.succ ?_; simp only [laws_FnExactMirrorStair.j1])
    | (refine L.Ev.succ ?_; simp only [laws_FnExactMirrorStair.j2])
    | (refine L.Ev.succ ?_; simp only [laws_FnExactMirrorStair.j3])
    | (refine L.Ev.succ ?_; simp only [laws_FnExactMirrorStair.j4]))
end Go.Proofs.Ytbodhioladafnaa.P
