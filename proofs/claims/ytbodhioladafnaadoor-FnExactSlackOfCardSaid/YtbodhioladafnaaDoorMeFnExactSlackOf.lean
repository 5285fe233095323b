/- The plain laws behind FnExactSlackOf, in one text (merged by wip/merge.py). -/
import Derived.Test.YtbodhioladafnaaDoorLib
import Derived.Test.YtbodhioladafnaaDoorPx1
import Derived.Test.YtbodhioladafnaaDoorPx2
import Derived.Test.YtbodhioladafnaaDoorPx7
import Derived.Test.YtbodhioladafnaaDoorPx3
import Derived.Test.YtbodhioladafnaaDoorPx41
import Derived.Test.YtbodhioladafnaaDoorPx8
import Derived.Test.YtbodhioladafnaaDoorPx9
import Derived.Test.YtbodhioladafnaaDoorPx4
import Derived.Test.YtbodhioladafnaaDoorPx5
import Derived.Test.YtbodhioladafnaaDoorPx6
import Derived.Test.YtbodhioladafnaaDoorPx10
import Derived.Test.YtbodhioladafnaaDoorPx29
import Derived.Test.YtbodhioladafnaaDoorPx13
import Derived.Test.YtbodhioladafnaaDoorPx31
import Derived.Test.YtbodhioladafnaaDoorPx26
import Derived.Test.YtbodhioladafnaaDoorRowLib
import Derived.Test.YtbodhioladafnaaDoorPx32
import Derived.Test.YtbodhioladafnaaDoorPx28
import Derived.Test.YtbodhioladafnaaDoorPx33
/-! ### PuInts -/
/- Plain laws of the copies and comparisons of rows of whole numbers; no conditions beyond the rows' lengths. -/
namespace Go.Proofs.YtbodhioladafnaaDoor.P
open Go.RowKit Go.Proofs.YtbodhioladafnaaDoorW.PrintWords Go.Proofs.YtbodhioladafnaaDoorW.PrintLast Go.Proofs.YtbodhioladafnaaDoorW.PrintMore L
set_option linter.unusedVariables false
set_option linter.unusedSimpArgs false
theorem toIntS_ev (l : List Int) (hl : l.length ≤ 35184372088832) : Ev (fun k => laws_toIntS.f k l) l := by
  have key : ∀ i, i ≤ l.length → Ev (fun k => laws_toIntS.l0 k l (l.take i ++ List.replicate (l.length - i) 0) (i : Int)) l := by
    refine L.down ?_ fun i hi ih => ?_
    · refine L.Ev.succ ?_
      simp only [laws_toIntS.l0]
      refine L.Ev.ifn (by omega) ?_
      rw [Nat.sub_self, List.take_of_length_le (Nat.le_refl _)]
      simp only [List.replicate_zero, List.append_nil]
      exact Ev.now l
    · refine L.Ev.succ ?_
      simp only [laws_toIntS.l0]
      refine L.Ev.ifp (by omega) (L.Ev.ifp (by omega) (L.Ev.ifp ?_ ?_))
      · simp only [List.length_append, List.length_take, List.length_replicate]; omega
      · have e : (l.take i ++ List.replicate (l.length - i) 0).set i (rd l (i : Int)) = l.take (i + 1) ++ List.replicate (l.length - (i + 1)) 0 := by
          rw [L.rd_get hi]
          refine List.ext_getElem? fun j => ?_
          rw [List.getElem?_set]
          by_cases hj : i = j
          · subst hj
            rw [if_pos rfl, if_pos (by simp only [List.length_append, List.length_take, List.length_replicate]; omega), List.getElem?_append_left (by simp only [List.length_take]; omega), List.getElem?_take, if_pos (by omega), List.getElem?_eq_getElem hi]
          · rw [if_neg hj]
            by_cases h1 : j < i
            · rw [List.getElem?_append_left (by simp only [List.length_take]; omega), List.getElem?_append_left (by simp only [List.length_take]; omega), List.getElem?_take, List.getElem?_take, if_pos h1, if_pos (by omega)]
            · rw [List.getElem?_append_right (by simp only [List.length_take]; omega), List.getElem?_append_right (by simp only [List.length_take]; omega)]
              simp only [List.length_take, List.getElem?_replicate]
              by_cases h2 : j < l.length
              · rw [if_pos (by omega), if_pos (by omega)]
              · rw [if_neg (by omega), if_neg (by omega)]
        refine Ev.congr (fun k => ?_) ih
        rw [L.w64n (by omega), Int.toNat_natCast, e]
  refine Ev.congr (fun k => ?_) (key 0 (by omega))
  unfold laws_toIntS.f
  rw [if_pos (by omega), if_pos (by omega)]
  simp
theorem eqIntS_ev (l m : List Int) (hl : l.length ≤ 9223372036854775806) : Ev (fun k => laws_eqIntS.f k l m) (decide (l = m)) := by
  by_cases hlen : l.length = m.length
  · have key : ∀ i, i ≤ l.length → Ev (fun k => laws_eqIntS.l0 k l m (i : Int)) (decide (l.drop i = m.drop i)) := by
      refine L.down ?_ fun i hi ih => ?_
      · refine L.Ev.succ ?_
        simp only [laws_eqIntS.l0]
        refine L.Ev.ifn (by omega) ?_
        rw [List.drop_eq_nil_of_le (Nat.le_refl _), List.drop_eq_nil_of_le (by omega)]
        exact Ev.now _
      · refine L.Ev.succ ?_
        simp only [laws_eqIntS.l0]
        refine L.Ev.ifp (by omega) (L.Ev.ifp (by omega) (L.Ev.ifp (by omega) ?_))
        rw [L.rd_get hi, L.rd_get (l := m) (by omega), List.drop_eq_getElem_cons hi, List.drop_eq_getElem_cons (l := m) (by omega)]
        by_cases e : l[i] = m[i]'(by omega)
        · refine L.Ev.ifp e ?_
          refine Ev.congr (fun k => by rw [L.w64n (by omega)]) ?_
          have e2 : (l[i] :: List.drop (i + 1) l = m[i]'(by omega) :: List.drop (i + 1) m) = (List.drop (i + 1) l = List.drop (i + 1) m) := propext ⟨fun h => (List.cons.inj h).2, fun h => by rw [e, h]⟩
          simp only [e2]
          exact ih
        · refine L.Ev.ifn e ?_
          simp only [List.cons.injEq, e, false_and, decide_false]
          exact Ev.now _
    have h := key 0 (by omega)
    refine Ev.congr (fun k => ?_) h
    unfold laws_eqIntS.f
    rw [if_pos (by omega)]; rfl
  · have e : l ≠ m := fun h => hlen (by rw [h])
    refine Ev.congr (fun k => ?_) (f := fun _ => some false) (by simp only [e, decide_false]; exact Ev.now _)
    unfold laws_eqIntS.f
    rw [if_neg (by omega)]
theorem eqIntS_self (l : List Int) (hl : l.length ≤ 9223372036854775806) : Ev (fun k => laws_eqIntS.f k l l) true := by
  have h := eqIntS_ev l l hl
  simpa using h
end Go.Proofs.YtbodhioladafnaaDoor.P

/-! ### PuOrder -/
/- Plain laws of the copies and comparisons of relations; no conditions beyond the rows' lengths. -/
namespace Go.Proofs.YtbodhioladafnaaDoor.P
open Go.RowKit Go.Proofs.YtbodhioladafnaaDoorW.PrintWords Go.Proofs.YtbodhioladafnaaDoorW.PrintLast Go.Proofs.YtbodhioladafnaaDoorW.PrintMore L
set_option linter.unusedVariables false
set_option linter.unusedSimpArgs false
theorem szIntS_eq (l : List Int) (a : Int) (ha : 0 ≤ a ∧ a ≤ 1048576) (hl : l.length ≤ 9223372036854775807) : laws_szIntS.f l a = some (if (l.length : Int) ≤ a then a - l.length else -1) := by
  unfold laws_szIntS.f
  rw [L.w64 (by omega) (by omega)]
  by_cases h : (l.length : Int) ≤ a
  · rw [if_neg (by omega), if_pos h]
  · rw [if_pos (by omega), if_neg h]
theorem szOrder_eq (n : Int) (l : List Int) (a : Int) (ha : 0 ≤ a ∧ a ≤ 1048576) (hl : l.length ≤ 9223372036854775807) : laws_szOrder.f n l a = some (if (l.length : Int) ≤ a then a - l.length else -1) := by
  unfold laws_szOrder.f
  rw [szIntS_eq l a ha hl]
  simp only [Option.bind_some]
  by_cases h : (l.length : Int) ≤ a
  · rw [if_pos h, if_neg (by omega)]
  · rw [if_neg h, if_pos (by omega)]
theorem toOrder_ev (n : Int) (l : List Int) (hl : l.length ≤ 35184372088832) : Ev (fun k => laws_toOrder.f k n l) (n, l) := by
  unfold laws_toOrder.f
  exact Ev.bind (toIntS_ev l hl) (Ev.now _)
theorem eqOrder_ev (n : Int) (l : List Int) (m : Int) (o : List Int) (hl : l.length ≤ 9223372036854775806) : Ev (fun k => laws_eqOrder.f k n l m o) (decide (n = m ∧ l = o)) := by
  unfold laws_eqOrder.f
  by_cases h : n = m
  · refine L.Ev.ifp h ?_
    refine Ev.bind (eqIntS_ev l o hl) ?_
    by_cases h2 : l = o
    · simp only [h, h2, and_self, decide_true, if_true]; exact Ev.now _
    · simp only [h2, and_false, decide_false]; exact L.Ev.ifn (by simp) (Ev.now _)
  · refine L.Ev.ifn h ?_
    simp only [h, false_and, decide_false]
    exact Ev.now _
theorem eqOrder_self (n : Int) (l : List Int) (hl : l.length ≤ 9223372036854775806) : Ev (fun k => laws_eqOrder.f k n l n l) true := by
  have h := eqOrder_ev n l n l hl
  simpa using h
end Go.Proofs.YtbodhioladafnaaDoor.P

/-! ### PuRel -/
/- Plain laws: which lists are relations, for the program and the reference alike; conditions: the numbers are 64-bit numbers. -/
namespace Go.Proofs.YtbodhioladafnaaDoor.P
open Go.RowKit Go.Proofs.YtbodhioladafnaaDoorW.PrintWords Go.Proofs.YtbodhioladafnaaDoorW.PrintLast Go.Proofs.YtbodhioladafnaaDoorW.PrintMore L
set_option linter.unusedVariables false
set_option linter.unusedSimpArgs false
theorem within_eq (a b c : Int) : impl_within.f a b c = some (decide (b ≤ a ∧ a ≤ c)) := by
  unfold impl_within.f
  by_cases h : a ≥ b
  · rw [if_pos h]; congr 1; simp; omega
  · rw [if_neg h]; congr 1; simp; omega
theorem l1In_eq (a b c : Int) : spec_l1In.f a b c = some (decide (b ≤ a ∧ a ≤ c)) := within_eq a b c
/-- all of a list lie between two numbers. -/
def allIn (l : List Int) (b c : Int) : Bool := l.all fun x => decide (b ≤ x ∧ x ≤ c)
theorem allIn_iff (l : List Int) (b c : Int) : allIn l b c = true ↔ ∀ x ∈ l, b ≤ x ∧ x ≤ c := by simp [allIn]
theorem allIn_step (l : List Int) (b c : Int) (i : Nat) (hi : i < l.length) : allIn (l.drop i) b c = (decide (b ≤ l[i] ∧ l[i] ≤ c) && allIn (l.drop (i + 1)) b c) := by
  unfold allIn; rw [List.drop_eq_getElem_cons hi, List.all_cons]
theorem allWithin_ev (l : List Int) (b c : Int) (hl : l.length ≤ 9223372036854775806) : Ev (fun k => impl_allWithin.f k l b c) (allIn l b c) := by
  have key : ∀ i, i ≤ l.length → Ev (fun k => impl_allWithin.l0 k b c l (l.length : Int) (i : Int)) (allIn (l.drop i) b c) := by
    refine L.down ?_ fun i hi ih => ?_
    · refine L.Ev.succ ?_
      simp only [impl_allWithin.l0]
      refine L.Ev.ifn (by omega) ?_
      rw [List.drop_eq_nil_of_le (Nat.le_refl _)]
      exact Ev.now _
    · refine L.Ev.succ ?_
      simp only [impl_allWithin.l0]
      refine L.Ev.ifp (by omega) (L.Ev.ifp (by omega) (L.Ev.ifp (by omega) (L.Ev.bindc (within_eq _ _ _) ?_)))
      rw [allIn_step l b c i hi, L.rd_get hi]
      by_cases h : b ≤ l[i] ∧ l[i] ≤ c
      · refine L.Ev.ifp (by simpa using h) ?_
        simp only [h, and_self, decide_true, Bool.true_and]
        exact Ev.congr (fun k => by rw [L.w64n (by omega)]) ih
      · refine L.Ev.ifn (by simpa using h) ?_
        simp only [h, decide_false, Bool.false_and]
        exact Ev.now _
  exact key 0 (by omega)
theorem l1All_same : ∀ k a b c d e, spec_l1All.l0 k a b c d e = impl_allWithin.l0 k a b c d e := by
  intro k
  induction k with
  | zero => intros; rfl
  | succ k ih => intro a b c d e; simp only [spec_l1All.l0, impl_allWithin.l0, ih, l1In_eq, within_eq]
theorem l1All_ev (l : List Int) (b c : Int) (hl : l.length ≤ 9223372036854775806) : Ev (fun k => spec_l1All.f k l b c) (allIn l b c) :=
  Ev.congr (fun k => l1All_same k b c l _ _) (allWithin_ev l b c hl)
/-- the numbers of a relation. -/
def isRel (n : Int) (l : List Int) : Bool := decide (0 ≤ n ∧ n ≤ 10 ∧ (l.length : Int) = n ∧ ∀ x ∈ l, 0 ≤ x ∧ x < 2 ^ n.toNat)
theorem isRel_iff (n : Int) (l : List Int) : isRel n l = true ↔ 0 ≤ n ∧ n ≤ 10 ∧ (l.length : Int) = n ∧ ∀ x ∈ l, 0 ≤ x ∧ x < 2 ^ n.toNat := by simp [isRel]
theorem isRel_big {n : Nat} {l : List Int} (h : isRel n l = true) : ∀ x ∈ l, 0 ≤ x ∧ x < 1024 := by
  obtain ⟨h0, h1, h2, h3⟩ := (isRel_iff _ _).1 h
  intro x hx
  obtain ⟨a, b⟩ := h3 x hx
  have : (2 : Int) ^ (n : Int).toNat ≤ 2 ^ 10 := by
    have := Nat.pow_le_pow_right (n := 2) (by decide) (show (n : Int).toNat ≤ 10 by omega)
    exact_mod_cast this
  omega
theorem isRel_ok {n : Int} {l : List Int} (h : isRel n l = true) : L.okRel n l := by
  obtain ⟨h0, h1, h2, h3⟩ := (isRel_iff _ _).1 h
  obtain ⟨m, rfl⟩ := Int.eq_ofNat_of_zero_le h0
  refine ⟨h0, by omega, h2, fun x hx => ?_⟩
  have := isRel_big h x hx
  omega
theorem IsRelation_ev (n : Int) (l : List Int) (hl : l.length ≤ 9223372036854775806) : Ev (fun k => impl_IsRelation.f k n l) (isRel n l) := by
  unfold impl_IsRelation.f
  refine L.Ev.bindc (within_eq _ _ _) ?_
  by_cases h : 0 ≤ n ∧ n ≤ 10
  · refine L.Ev.ifp (by simpa using h) ?_
    by_cases h2 : (l.length : Int) = n
    · refine L.Ev.ifp h2 (L.Ev.ifp h.1 ?_)
      obtain ⟨m, rfl⟩ := Int.eq_ofNat_of_zero_le h.1
      have e : wrap64 (shl .i64 1 (m : Int) - 1) = 2 ^ m - 1 := by
        rw [L.shl_one (by omega)]
        have h1 : (2 : Nat) ^ m ≤ 2 ^ 10 := Nat.pow_le_pow_right (by decide) (by omega)
        have e3 : ((2 ^ m : Nat) : Int) = 2 ^ m := by push_cast; rfl
        rw [← e3]
        generalize (2 : Nat) ^ m = z at *
        rw [L.w64 (by omega) (by omega)]
      have e2 : isRel (m : Int) l = allIn l 0 (2 ^ m - 1) := by
        rw [Bool.eq_iff_iff, isRel_iff, allIn_iff, Int.toNat_natCast]
        constructor
        · rintro ⟨_, _, _, h4⟩ x hx
          have := h4 x hx
          omega
        · intro h4
          refine ⟨h.1, h.2, h2, fun x hx => ?_⟩
          have := h4 x hx
          omega
      refine Ev.congr (fun k => ?_) (Ev.bind (allWithin_ev l 0 (2 ^ m - 1) hl) (f := fun _ t => some t) (r := isRel (m : Int) l) (by rw [e2]; exact Ev.now _))
      rw [e]
    · refine L.Ev.ifn h2 ?_
      have e : isRel n l = false := by
        rw [← Bool.not_eq_true, isRel_iff]; rintro ⟨_, _, h3, _⟩; exact h2 h3
      rw [e]; exact Ev.now _
  · refine L.Ev.ifn (by simpa using h) ?_
    have e : isRel n l = false := by
      rw [← Bool.not_eq_true, isRel_iff]; rintro ⟨h3, h4, _⟩; exact h ⟨h3, h4⟩
    rw [e]; exact Ev.now _
theorem orRelation_ev (n : Int) (l : List Int) (hl : l.length ≤ 9223372036854775806) : Ev (fun k => spec_orRelation.f k n l) (isRel n l) := by
  refine Ev.congr (fun k => ?_) (IsRelation_ev n l hl)
  unfold spec_orRelation.f impl_IsRelation.f
  simp only [l1In_eq, within_eq]
  have e : ∀ b c, spec_l1All.f k l b c = impl_allWithin.f k l b c := fun b c => l1All_same k b c l _ _
  simp only [e]
end Go.Proofs.YtbodhioladafnaaDoor.P

/-! ### PuRel2 -/
/- Plain laws: single elements of relations: above, below, in bounds; for the program and the reference alike. -/
namespace Go.Proofs.YtbodhioladafnaaDoor.P
open Go.RowKit Go.Proofs.YtbodhioladafnaaDoorW.PrintWords Go.Proofs.YtbodhioladafnaaDoorW.PrintLast Go.Proofs.YtbodhioladafnaaDoorW.PrintMore L
set_option linter.unusedVariables false
set_option linter.unusedSimpArgs false
theorem isRel_nat {n : Int} {l : List Int} (h : isRel n l = true) : ∃ m : Nat, n = m ∧ m ≤ 10 ∧ l.length = m := by
  obtain ⟨h0, h1, h2, h3⟩ := (isRel_iff _ _).1 h
  obtain ⟨m, rfl⟩ := Int.eq_ofNat_of_zero_le h0
  exact ⟨m, rfl, by omega, by omega⟩
theorem orHas_eq {n : Int} {l : List Int} (h : L.okRel n l) (i j : Nat) (hj : j ≤ 64) : spec_orHas.f (rd l (i : Int)) (j : Int) = some (L.bitAt l i j) := by
  unfold spec_orHas.f
  rw [if_pos (by omega), h.bitm i j hj]
def R0 (n : Int) : Prop := -9223372036854775807 ≤ n ∧ n ≤ 9223372036854775807
end Go.Proofs.YtbodhioladafnaaDoor.P

/-! ### PuRows -/
/- Plain lemmas: rows of bits that are built element by element; relations that are built row by row or mark by mark. -/
namespace Go.Proofs.YtbodhioladafnaaDoor.L
open Go.RowKit Go.Proofs.YtbodhioladafnaaDoorW.PrintWords Go.Proofs.YtbodhioladafnaaDoorW.PrintLast Go.Proofs.YtbodhioladafnaaDoorW.PrintMore
set_option linter.unusedVariables false
set_option linter.unusedSimpArgs false
theorem two_lt {j : Nat} (hj : j ≤ 60) : (2 : Nat) ^ j < 2 ^ 62 := Nat.pow_lt_pow_right (by decide) (by omega)
theorem relRow_lt62 (f : Nat → Bool) {j : Nat} (hj : j ≤ 60) : relRow f j < 2 ^ 62 := Nat.lt_trans (relRow_lt f j) (two_lt hj)
theorem row_yes {f : Nat → Bool} {j : Nat} (h : f j = true) (hj : j ≤ 60) : Go.bits .or .i64 ((relRow f j : Nat) : Int) (shl .i64 1 (j : Int)) = ((relRow f (j + 1) : Nat) : Int) := by
  rw [shl_one (by omega), or_nat (relRow_lt62 f hj) (two_lt hj)]
  show _ = ((if f j = true then _ else _ : Nat) : Int)
  rw [if_pos h]
theorem row_no {f : Nat → Bool} {j : Nat} (h : f j = false) : ((relRow f j : Nat) : Int) = ((relRow f (j + 1) : Nat) : Int) := by
  show _ = ((if f j = true then _ else _ : Nat) : Int)
  rw [if_neg (by rw [h]; simp)]
/-- the first i rows of a relation. -/
def relPre (n : Nat) (is : Nat → Nat → Bool) (i : Nat) : List Int := cast ((List.range i).map fun i => relRow (is i) n)
theorem relPre_zero (n : Nat) (is : Nat → Nat → Bool) : relPre n is 0 = [] := rfl
theorem relPre_length (n : Nat) (is : Nat → Nat → Bool) (i : Nat) : (relPre n is i).length = i := by simp [relPre, cast_length]
theorem relPre_full (n : Nat) (is : Nat → Nat → Bool) : relPre n is n = relL n is := rfl
theorem relPre_succ (n : Nat) (is : Nat → Nat → Bool) (i : Nat) : relPre n is i ++ [((relRow (is i) n : Nat) : Int)] = relPre n is (i + 1) := by
  simp [relPre, cast, List.range_succ]
theorem rd_relL (n : Nat) (is : Nat → Nat → Bool) {i : Nat} (h : i < n) : rd (relL n is) (i : Int) = ((relRow (is i) n : Nat) : Int) := by
  unfold relL; rw [rd_cast, relN_get n is h]
theorem relRow_congr {f g : Nat → Bool} {n : Nat} (h : ∀ j, j < n → f j = g j) : relRow f n = relRow g n := by
  refine Nat.eq_of_testBit_eq fun j => ?_
  rw [relRow_testBit, relRow_testBit]
  by_cases hj : j < n
  · rw [h j hj]
  · simp [hj]
theorem relRow_zero {n : Nat} : relRow (fun _ => false) n = 0 := by
  refine Nat.eq_of_testBit_eq fun j => ?_
  rw [relRow_testBit]; simp
theorem relL_none (n : Nat) : relL n (fun _ _ => false) = List.replicate n 0 := by
  refine List.ext_getElem (by simp [relL_length]) fun i h1 h2 => ?_
  have h3 : i < n := by rw [relL_length] at h1; exact h1
  have e := rd_relL n (fun _ _ => false) h3
  rw [rd_get h1, relRow_zero] at e
  rw [e]; simp
theorem relL_set {n : Nat} {is : Nat → Nat → Bool} {i : Nat} (hi : i < n) (f : Nat → Bool) : (relL n is).set i ((relRow f n : Nat) : Int) = relL n (fun a b => if a = i then f b else is a b) := by
  refine List.ext_getElem (by simp [relL_length]) fun j h1 h2 => ?_
  have h3 : j < n := by rw [relL_length] at h2; exact h2
  rw [List.getElem_set, ← rd_get h2, rd_relL n _ h3]
  by_cases e : i = j
  · subst e
    simp
  · rw [if_neg e, ← rd_get (by rw [relL_length]; exact h3), rd_relL n _ h3]
    exact congrArg (fun (x : Nat) => (x : Int)) (relRow_congr fun b _ => by show is j b = if j = i then f b else is j b; rw [if_neg (by omega)])
/-- a mark more. -/
theorem relL_mark {n : Nat} (hn : n ≤ 60) {is : Nat → Nat → Bool} {i j : Nat} (hi : i < n) (hj : j < n) : (relL n is).set i (Go.bits .or .i64 (rd (relL n is) (i : Int)) (shl .i64 1 (j : Int))) = relL n (fun a b => is a b || (decide (a = i) && decide (b = j))) := by
  rw [rd_relL n is hi, shl_one (by omega), or_nat (relRow_lt62 _ hn) (two_lt (by omega))]
  have e : relRow (is i) n ||| 2 ^ j = relRow (fun b => is i b || decide (b = j)) n := by
    refine Nat.eq_of_testBit_eq fun k => ?_
    rw [Nat.testBit_or, relRow_testBit, relRow_testBit, Nat.testBit_two_pow]
    by_cases hk : k < n
    · by_cases hkj : j = k
      · subst hkj; simp [hk]
      · simp [hk, hkj, show ¬ k = j from fun h => hkj h.symm]
    · simp [hk, show ¬ j = k by omega]
  rw [e, relL_set hi]
  refine relL_congr fun a b ha hb => ?_
  by_cases h : a = i
  · subst h; simp
  · simp [h]
/-- a row more in a row. -/
theorem relL_or {n : Nat} (hn : n ≤ 60) {is : Nat → Nat → Bool} {i k : Nat} (hi : i < n) (hk : k < n) : (relL n is).set i (Go.bits .or .i64 (rd (relL n is) (i : Int)) (rd (relL n is) (k : Int))) = relL n (fun a b => is a b || (decide (a = i) && is k b)) := by
  rw [rd_relL n is hi, rd_relL n is hk, or_nat (relRow_lt62 _ hn) (relRow_lt62 _ hn)]
  have e : relRow (is i) n ||| relRow (is k) n = relRow (fun b => is i b || is k b) n := by
    refine Nat.eq_of_testBit_eq fun j => ?_
    rw [Nat.testBit_or, relRow_testBit, relRow_testBit, relRow_testBit]
    cases decide (j < n) <;> simp
  rw [e, relL_set hi]
  refine relL_congr fun a b ha hb => ?_
  by_cases h : a = i
  · subst h; simp
  · simp [h]
/-- a relation that came in is the relation of its bits. -/
theorem okRel_eq {n : Nat} {l : List Int} (hl : l.length = n) (hn : n ≤ 60) (hb : ∀ x ∈ l, 0 ≤ x ∧ x < 2 ^ n) : l = relL n (bitAt l) := by
  refine List.ext_getElem (by rw [relL_length]; exact hl) fun i h1 h2 => ?_
  have h3 : i < n := by omega
  rw [← rd_get h2, rd_relL n _ h3]
  obtain ⟨a, b⟩ := hb l[i] (List.getElem_mem h1)
  obtain ⟨x, hx⟩ := Int.eq_ofNat_of_zero_le a
  rw [hx]
  have hlt : x < 2 ^ n := by rw [hx] at b; exact_mod_cast b
  congr 1
  refine Nat.eq_of_testBit_eq fun j => ?_
  rw [relRow_testBit]
  have e : bitAt l i j = x.testBit j := by
    unfold bitAt
    rw [List.getD_eq_getElem?_getD, List.getElem?_eq_getElem h1, Option.getD_some, hx, Int.toNat_natCast]
  rw [e]
  by_cases hj : j < n
  · simp [hj]
  · simp only [hj, decide_false, Bool.false_and]
    exact Nat.testBit_lt_two_pow (Nat.lt_of_lt_of_le hlt (Nat.pow_le_pow_right (by decide) (by omega)))
theorem rd_okRel {n : Nat} {l : List Int} (hl : l.length = n) (hn : n ≤ 60) (hb : ∀ x ∈ l, 0 ≤ x ∧ x < 2 ^ n) {i : Nat} (hi : i < n) : rd l (i : Int) = ((relRow (bitAt l i) n : Nat) : Int) := by
  have h := okRel_eq hl hn hb
  have e : rd l (i : Int) = rd (relL n (bitAt l)) (i : Int) := by rw [← h]
  rw [e, rd_relL n _ hi]
end Go.Proofs.YtbodhioladafnaaDoor.L

/-! ### PuMembers -/
/- Plain laws: the elements of a set, in the program and in the reference; sets of numbers below ten. -/
namespace Go.Proofs.YtbodhioladafnaaDoor.P
open Go.RowKit Go.Proofs.YtbodhioladafnaaDoorW.PrintWords Go.Proofs.YtbodhioladafnaaDoorW.PrintLast Go.Proofs.YtbodhioladafnaaDoorW.PrintMore L
set_option linter.unusedVariables false
set_option linter.unusedSimpArgs false
/-- the elements of a set, in order. -/
def membersN (x : Nat) : List Nat := (List.range 10).filter fun i => x.testBit i
theorem membersN_step : ∀ x : Nat, x < 1024 → x ≠ 0 → membersN x = Lib.ctz 64 x :: membersN (x &&& (x - 1)) ∧ x &&& (x - 1) < x := by decide +kernel
theorem membersN_zero : membersN 0 = [] := by decide +kernel
theorem membersN_length (x : Nat) : (membersN x).length ≤ 10 := by
  have := List.length_filter_le (fun i => x.testBit i) (List.range 10)
  rw [List.length_range] at this; exact this
theorem mem_membersN {x i : Nat} : i ∈ membersN x ↔ i < 10 ∧ x.testBit i = true := by simp [membersN]
theorem mem_members_lt {x m i : Nat} (hx : x < 2 ^ m) (h : i ∈ membersN x) : i < m := by
  have h2 := (mem_membersN.1 h).2
  by_cases hi : i < m
  · exact hi
  · rw [Nat.testBit_lt_two_pow (Nat.lt_of_lt_of_le hx (Nat.pow_le_pow_right (by decide) (by omega)))] at h2
    cases h2
theorem membersLoop_ev : ∀ x : Nat, x < 1024 → ∀ acc : List Int, acc.length + 10 < 1048576 → Ev (fun k => impl_members.l0 k (x : Int) acc) (acc ++ L.cast (membersN x)) := by
  have key : ∀ n x : Nat, x < n → x < 1024 → ∀ acc : List Int, acc.length + (membersN x).length < 1048600 → Ev (fun k => impl_members.l0 k (x : Int) acc) (acc ++ L.cast (membersN x)) := by
    intro n
    induction n with
    | zero => intro x hx; omega
    | succ n ih =>
      intro x hx h10 acc hacc
      refine L.Ev.succ ?_
      simp only [impl_members.l0]
      by_cases h0 : x = 0
      · subst h0
        rw [membersN_zero]
        refine L.Ev.ifp (by omega) ?_
        have e : acc ++ L.cast [] = acc := by simp [L.cast]
        rw [e]; exact Ev.now _
      · obtain ⟨e1, e2⟩ := membersN_step x h10 h0
        refine L.Ev.ifn (by omega) (L.Ev.bindc (a := ((Lib.ctz 64 x : Nat) : Int)) ?_ (L.Ev.ifp (by omega) ?_))
        · rw [IntKind.wrap_u64]
          unfold bits_TrailingZeros.f
          rw [if_pos (by omega)]
          congr 3; omega
        · rw [L.w64 (by omega) (by omega), show ((x : Int) - 1) = ((x - 1 : Nat) : Int) by omega, L.and_nat (by omega) (by omega), e1]
          rw [e1, List.length_cons] at hacc
          have := ih (x &&& (x - 1)) (by omega) (by omega) (acc ++ [((Lib.ctz 64 x : Nat) : Int)]) (by rw [List.length_append, List.length_singleton]; omega)
          rw [List.append_assoc] at this
          exact this
  intro x hx acc hacc
  have := membersN_length x
  exact key (x + 1) x (by omega) hx acc (by omega)
theorem members_ev (x : Nat) (hx : x < 1024) : Ev (fun k => impl_members.f k (x : Int)) (L.cast (membersN x)) := by
  have := membersLoop_ev x hx [] (by simp)
  rw [List.nil_append] at this
  exact this
theorem orHas_nat {x j : Nat} (hj : j ≤ 64) : spec_orHas.f (x : Int) (j : Int) = some (x.testBit j) := by
  unfold spec_orHas.f
  rw [if_pos (by omega), L.bit_mod hj]
theorem orList_ev (x : Nat) (hx : x < 1024) : Ev (fun k => spec_orList.f k (x : Int)) (L.cast (membersN x)) := by
  have key : ∀ i, i ≤ 10 → Ev (fun k => spec_orList.l0 k (x : Int) (L.cast ((List.range i).filter fun i => x.testBit i)) (i : Int)) (L.cast (membersN x)) := by
    refine L.down ?_ fun i hi ih => ?_
    · refine L.Ev.succ ?_
      simp only [spec_orList.l0]
      refine L.Ev.ifp (by omega) (L.Ev.ifn ?_ (Ev.now _))
      rw [L.shr_nat (by omega), Nat.shiftRight_eq_div_pow, Nat.div_eq_of_lt (by simpa using hx)]; simp
    · refine L.Ev.succ ?_
      simp only [spec_orList.l0]
      refine L.Ev.ifp (by omega) ?_
      rw [L.shr_nat (by omega)]
      by_cases h : x >>> i = 0
      · refine L.Ev.ifn (by rw [h]; simp) ?_
        have hlt : x < 2 ^ i := by
          rw [Nat.shiftRight_eq_div_pow] at h
          exact (Nat.div_eq_zero_iff_lt (Nat.two_pow_pos i)).1 h
        have e : membersN x = (List.range i).filter fun i => x.testBit i := by
          unfold membersN
          rw [show 10 = i + (10 - i) by omega, List.range_add, List.filter_append]
          have e2 : ((List.range (10 - i)).map (i + ·)).filter (fun i => x.testBit i) = [] := by
            rw [List.filter_eq_nil_iff]
            intro a ha
            obtain ⟨b, _, rfl⟩ := List.mem_map.1 ha
            rw [Nat.testBit_lt_two_pow (Nat.lt_of_lt_of_le hlt (Nat.pow_le_pow_right (by decide) (by omega)))]; simp
          rw [e2, List.append_nil]
        rw [e]; exact Ev.now _
      · refine L.Ev.ifp (by have := Nat.pos_of_ne_zero h; exact_mod_cast this) (L.Ev.bindc (orHas_nat (by omega)) ?_)
        have e : (List.range (i + 1)).filter (fun i => x.testBit i) = (List.range i).filter (fun i => x.testBit i) ++ if x.testBit i then [i] else [] := by
          rw [List.range_succ, List.filter_append]
          cases hb : x.testBit i <;> simp [hb]
        rw [e] at ih
        have hlen : ((List.range i).filter fun i => x.testBit i).length ≤ 10 := by
          have := List.length_filter_le (fun i => x.testBit i) (List.range i)
          rw [List.length_range] at this; omega
        cases hb : x.testBit i with
        | true =>
          refine L.Ev.ifp rfl (L.Ev.ifp (by rw [L.cast_length]; omega) ?_)
          rw [hb, if_pos rfl, L.cast_append] at ih
          exact Ev.congr (fun k => by rw [L.w64n (by omega)]; rfl) ih
        | false =>
          refine L.Ev.ifn (by simp) ?_
          rw [hb, if_neg (by simp), List.append_nil] at ih
          exact Ev.congr (fun k => by rw [L.w64n (by omega)]) ih
  exact key 0 (by omega)
end Go.Proofs.YtbodhioladafnaaDoor.P

/-! ### PuOrd -/
/- Plain laws: which relations are orders, for the program and the reference alike. -/
namespace Go.Proofs.YtbodhioladafnaaDoor.P
open Go.RowKit Go.Proofs.YtbodhioladafnaaDoorW.PrintWords Go.Proofs.YtbodhioladafnaaDoorW.PrintLast Go.Proofs.YtbodhioladafnaaDoorW.PrintMore L
set_option linter.unusedVariables false
set_option linter.unusedSimpArgs false
def rowN (l : List Int) (m i : Nat) : Nat := L.relRow (L.bitAt l i) m
theorem rowN_lt (l : List Int) (m i : Nat) : rowN l m i < 2 ^ m := L.relRow_lt _ _
theorem rowN_bit (l : List Int) (m i j : Nat) : (rowN l m i).testBit j = (decide (j < m) && L.bitAt l i j) := L.relRow_testBit _ _ _
theorem rel_len {m : Nat} {l : List Int} (h : isRel (m : Int) l = true) : l.length = m ∧ m ≤ 10 := by
  obtain ⟨m', hm', hm, hlm⟩ := isRel_nat h
  omega
theorem rd_rowN {m : Nat} {l : List Int} (h : isRel (m : Int) l = true) {i : Nat} (hi : i < m) : rd l (i : Int) = ((rowN l m i : Nat) : Int) := by
  have h2 := ((isRel_iff _ _).1 h).2.2.2
  rw [Int.toNat_natCast] at h2
  exact L.rd_okRel (rel_len h).1 (by have := (rel_len h).2; omega) h2 hi
theorem rowN_lt10 (l : List Int) {m : Nat} (hm : m ≤ 10) (i : Nat) : rowN l m i < 1024 :=
  Nat.lt_of_lt_of_le (rowN_lt l m i) (Nat.pow_le_pow_right (n := 2) (by decide) hm)
def ordRow (l : List Int) (m i : Nat) : Bool := (membersN (rowN l m i)).all fun j => L.diff (rowN l m j) (rowN l m i) == 0
def ordAt (l : List Int) (m i : Nat) : Bool := !L.bitAt l i i && ordRow l m i
def ordB (l : List Int) (m : Nat) : Bool := (List.range m).all (ordAt l m)
def isOrd (n : Int) (l : List Int) : Bool := isRel n l && ordB l n.toNat
theorem range_drop_step (f : Nat → Bool) (n i : Nat) (hi : i < n) : ((List.range n).drop i).all f = (f i && ((List.range n).drop (i + 1)).all f) := by
  rw [List.drop_eq_getElem_cons (by simpa using hi), List.all_cons]; simp
theorem range_drop_end (f : Nat → Bool) (n : Nat) : ((List.range n).drop n).all f = true := by rw [List.drop_eq_nil_of_le (by simp)]; rfl
theorem IsOrderLoop_ev {m : Nat} {l : List Int} (h : isRel (m : Int) l = true) : Ev (fun k => impl_IsOrder.l0 k l (l.length : Int) 0 (m : Int) l) (ordB l m) := by
  obtain ⟨h1, h2⟩ := rel_len h
  have ok := isRel_ok h
  have k1 : ∀ i, i < m → Ev (fun k => impl_IsOrder.l0 k l (l.length : Int) ((i + 1 : Nat) : Int) (m : Int) l) (((List.range m).drop (i + 1)).all (ordAt l m)) →
      ∀ j, j ≤ (membersN (rowN l m i)).length → Ev (fun k => impl_IsOrder.l1 k ((rowN l m i : Nat) : Int) l (l.length : Int) (i : Int) (L.cast (membersN (rowN l m i))) ((L.cast (membersN (rowN l m i))).length : Int) (j : Int) (m : Int) l)
        (((membersN (rowN l m i)).drop j).all (fun j => L.diff (rowN l m j) (rowN l m i) == 0) && ((List.range m).drop (i + 1)).all (ordAt l m)) := by
    intro i hi hk
    have hl10 := membersN_length (rowN l m i)
    refine L.down ?_ fun j hj ih => ?_
    · refine L.Ev.succ ?_
      simp only [impl_IsOrder.l1]
      rw [List.drop_eq_nil_of_le (Nat.le_refl _), List.all_nil, Bool.true_and]
      refine L.Ev.ifn (by rw [L.cast_length]; omega) ?_
      rw [L.w64n (by omega)]; exact hk
    · refine L.Ev.succ ?_
      simp only [impl_IsOrder.l1]
      have hmem := mem_members_lt (rowN_lt l m i) (List.getElem_mem hj)
      have e : rd (L.cast (membersN (rowN l m i))) (j : Int) = (((membersN (rowN l m i))[j] : Nat) : Int) := by
        rw [L.rd_cast, List.getD_eq_getElem?_getD, List.getElem?_eq_getElem hj]; rfl
      rw [e, rd_rowN h hmem, L.andNot_nat (by have := rowN_lt10 l h2 (membersN (rowN l m i))[j]; omega) (by have := rowN_lt10 l h2 i; omega), List.drop_eq_getElem_cons hj, List.all_cons]
      refine L.Ev.ifp (by rw [L.cast_length]; omega) (L.Ev.ifp (by omega) (L.Ev.ifp (by rw [L.cast_length]; omega) (L.Ev.ifp (by omega) (L.Ev.ifp (by omega) ?_))))
      by_cases hd : L.diff (rowN l m (membersN (rowN l m i))[j]) (rowN l m i) = 0
      · refine L.Ev.ifp (by rw [hd]; rfl) ?_
        have e2 : (L.diff (rowN l m (membersN (rowN l m i))[j]) (rowN l m i) == 0) = true := by rw [hd]; rfl
        rw [e2, Bool.true_and]
        exact Ev.congr (fun k => by rw [L.w64n (by omega)]) ih
      · refine L.Ev.ifn (by omega) ?_
        have e2 : (L.diff (rowN l m (membersN (rowN l m i))[j]) (rowN l m i) == 0) = false := by simp [hd]
        rw [e2, Bool.false_and, Bool.false_and]
        exact Ev.now _
  have k0 : ∀ i, i ≤ m → Ev (fun k => impl_IsOrder.l0 k l (l.length : Int) (i : Int) (m : Int) l) (((List.range m).drop i).all (ordAt l m)) := by
    refine L.down ?_ fun i hi ih => ?_
    · refine L.Ev.succ ?_
      simp only [impl_IsOrder.l0]
      rw [range_drop_end]
      exact L.Ev.ifn (by omega) (Ev.now _)
    · refine L.Ev.succ ?_
      simp only [impl_IsOrder.l0]
      rw [range_drop_step _ _ _ hi]
      refine L.Ev.ifp (by omega) (L.Ev.ifp (by omega) (L.Ev.ifp (by omega) (L.Ev.bindc (impl_Order_better.tells ok i i (by omega) (by omega)) ?_)))
      unfold ordAt
      cases hb : L.bitAt l i i with
      | true => exact L.Ev.ifp rfl (by simp only [Bool.not_true, Bool.false_and]; exact Ev.now _)
      | false =>
        refine L.Ev.ifn (by simp) ?_
        rw [rd_rowN h hi]
        refine Ev.bind (members_ev _ (rowN_lt10 l h2 i)) ?_
        have := k1 i hi ih 0 (by omega)
        rw [List.drop_zero] at this
        simp only [Bool.not_false, Bool.true_and]
        exact this
  have := k0 0 (by omega)
  rw [List.drop_zero] at this
  exact this
theorem orGoodLoop_ev {m : Nat} {l : List Int} (h : isRel (m : Int) l = true) : Ev (fun k => spec_orGood.l0 k l (l.length : Int) 0 (m : Int) l) (ordB l m) := by
  obtain ⟨h1, h2⟩ := rel_len h
  have ok := isRel_ok h
  have k1 : ∀ i, i < m → Ev (fun k => spec_orGood.l0 k l (l.length : Int) ((i + 1 : Nat) : Int) (m : Int) l) (((List.range m).drop (i + 1)).all (ordAt l m)) →
      ∀ j, j ≤ (membersN (rowN l m i)).length → Ev (fun k => spec_orGood.l1 k ((rowN l m i : Nat) : Int) l (l.length : Int) (i : Int) (L.cast (membersN (rowN l m i))) ((L.cast (membersN (rowN l m i))).length : Int) (j : Int) (m : Int) l)
        (((membersN (rowN l m i)).drop j).all (fun j => L.diff (rowN l m j) (rowN l m i) == 0) && ((List.range m).drop (i + 1)).all (ordAt l m)) := by
    intro i hi hk
    have hl10 := membersN_length (rowN l m i)
    refine L.down ?_ fun j hj ih => ?_
    · refine L.Ev.succ ?_
      simp only [spec_orGood.l1]
      rw [List.drop_eq_nil_of_le (Nat.le_refl _), List.all_nil, Bool.true_and]
      refine L.Ev.ifn (by rw [L.cast_length]; omega) ?_
      rw [L.w64n (by omega)]; exact hk
    · refine L.Ev.succ ?_
      simp only [spec_orGood.l1]
      have hmem := mem_members_lt (rowN_lt l m i) (List.getElem_mem hj)
      have e : rd (L.cast (membersN (rowN l m i))) (j : Int) = (((membersN (rowN l m i))[j] : Nat) : Int) := by
        rw [L.rd_cast, List.getD_eq_getElem?_getD, List.getElem?_eq_getElem hj]; rfl
      rw [e, rd_rowN h hmem, L.andNot_nat (by have := rowN_lt10 l h2 (membersN (rowN l m i))[j]; omega) (by have := rowN_lt10 l h2 i; omega), List.drop_eq_getElem_cons hj, List.all_cons]
      refine L.Ev.ifp (by rw [L.cast_length]; omega) (L.Ev.ifp (by omega) (L.Ev.ifp (by rw [L.cast_length]; omega) (L.Ev.ifp (by omega) (L.Ev.ifp (by omega) ?_))))
      by_cases hd : L.diff (rowN l m (membersN (rowN l m i))[j]) (rowN l m i) = 0
      · refine L.Ev.ifp (by rw [hd]; rfl) ?_
        have e2 : (L.diff (rowN l m (membersN (rowN l m i))[j]) (rowN l m i) == 0) = true := by rw [hd]; rfl
        rw [e2, Bool.true_and]
        exact Ev.congr (fun k => by rw [L.w64n (by omega)]) ih
      · refine L.Ev.ifn (by omega) ?_
        have e2 : (L.diff (rowN l m (membersN (rowN l m i))[j]) (rowN l m i) == 0) = false := by simp [hd]
        rw [e2, Bool.false_and, Bool.false_and]
        exact Ev.now _
  have k0 : ∀ i, i ≤ m → Ev (fun k => spec_orGood.l0 k l (l.length : Int) (i : Int) (m : Int) l) (((List.range m).drop i).all (ordAt l m)) := by
    refine L.down ?_ fun i hi ih => ?_
    · refine L.Ev.succ ?_
      simp only [spec_orGood.l0]
      rw [range_drop_end]
      exact L.Ev.ifn (by omega) (Ev.now _)
    · refine L.Ev.succ ?_
      simp only [spec_orGood.l0]
      rw [range_drop_step _ _ _ hi]
      refine L.Ev.ifp (by omega) (L.Ev.ifp (by omega) (L.Ev.ifp (by omega) (L.Ev.bindc (orHas_eq ok i i (by omega)) ?_)))
      unfold ordAt
      cases hb : L.bitAt l i i with
      | true => exact L.Ev.ifp rfl (by simp only [Bool.not_true, Bool.false_and]; exact Ev.now _)
      | false =>
        refine L.Ev.ifn (by simp) ?_
        rw [rd_rowN h hi]
        refine Ev.bind (orList_ev _ (rowN_lt10 l h2 i)) ?_
        have := k1 i hi ih 0 (by omega)
        rw [List.drop_zero] at this
        simp only [Bool.not_false, Bool.true_and]
        exact this
  have := k0 0 (by omega)
  rw [List.drop_zero] at this
  exact this
theorem IsOrder_ev (n : Int) (l : List Int) (hl : l.length ≤ 1048576) : Ev (fun k => impl_IsOrder.f k n l) (isOrd n l) := by
  unfold impl_IsOrder.f isOrd
  refine Ev.bind (IsRelation_ev n l (by omega)) ?_
  cases h : isRel n l with
  | false => exact L.Ev.ifn (by simp) (by rw [Bool.false_and]; exact Ev.now _)
  | true =>
    obtain ⟨m, rfl, hm, hlm⟩ := isRel_nat h
    refine L.Ev.ifp rfl ?_
    rw [Bool.true_and, Int.toNat_natCast]
    exact IsOrderLoop_ev h
theorem orGood_ev (n : Int) (l : List Int) (hl : l.length ≤ 1048576) : Ev (fun k => spec_orGood.f k n l) (isOrd n l) := by
  unfold spec_orGood.f isOrd
  refine Ev.bind (orRelation_ev n l (by omega)) ?_
  cases h : isRel n l with
  | false => exact L.Ev.ifn (by simp) (by rw [Bool.false_and]; exact Ev.now _)
  | true =>
    obtain ⟨m, rfl, hm, hlm⟩ := isRel_nat h
    refine L.Ev.ifp rfl ?_
    rw [Bool.true_and, Int.toNat_natCast]
    exact orGoodLoop_ev h
theorem isOrd_rel {n : Int} {l : List Int} (h : isOrd n l = true) : isRel n l = true := by
  unfold isOrd at h; rw [Bool.and_eq_true] at h; exact h.1
end Go.Proofs.YtbodhioladafnaaDoor.P

/-! ### PuBelow -/
/- Plain laws: the set below an element. -/
namespace Go.Proofs.YtbodhioladafnaaDoor.P
open Go.RowKit Go.Proofs.YtbodhioladafnaaDoorW.PrintWords Go.Proofs.YtbodhioladafnaaDoorW.PrintLast Go.Proofs.YtbodhioladafnaaDoorW.PrintMore L
set_option linter.unusedVariables false
set_option linter.unusedSimpArgs false
/-- the set of all elements below one, as a natural number. -/
def belowN (l : List Int) (m i : Nat) : Nat := L.relRow (fun j => L.bitAt l j i) m
theorem belowN_lt (l : List Int) (m i : Nat) : belowN l m i < 2 ^ m := L.relRow_lt _ _
theorem belowN_bit (l : List Int) (m i j : Nat) : (belowN l m i).testBit j = (decide (j < m) && L.bitAt l j i) := L.relRow_testBit _ _ _
theorem orBelow_ev {m : Nat} {l : List Int} (h : isRel (m : Int) l = true) (i : Nat) (hi : i ≤ 64) : Ev (fun k => spec_orBelow.f k (m : Int) l (i : Int)) ((belowN l m i : Nat) : Int) := by
  obtain ⟨m', hm', hm, hlm⟩ := isRel_nat h
  obtain rfl : m = m' := by omega
  have ok := isRel_ok h
  have key : ∀ j, j ≤ m → Ev (fun k => spec_orBelow.l0 k (i : Int) ((L.relRow (fun j => L.bitAt l j i) j : Nat) : Int) l (l.length : Int) (j : Int)) ((belowN l m i : Nat) : Int) := by
    refine L.down ?_ fun j hj ih => ?_
    · refine L.Ev.succ ?_
      simp only [spec_orBelow.l0]
      exact L.Ev.ifn (by omega) (Ev.now _)
    · refine L.Ev.succ ?_
      simp only [spec_orBelow.l0]
      have hlt : L.relRow (fun j => L.bitAt l j i) j < 2 ^ 62 := Nat.lt_of_lt_of_le (L.relRow_lt _ j) (Nat.pow_le_pow_right (by decide) (by omega))
      have hp : (2 : Nat) ^ j < 2 ^ 62 := Nat.pow_lt_pow_right (by decide) (by omega)
      refine L.Ev.ifp (by omega) (L.Ev.ifp (by omega) (L.Ev.ifp (by omega) (L.Ev.bindc (orHas_eq ok j i hi) ?_)))
      rw [L.shl_one (by omega), L.or_nat hlt hp, L.w64n (by omega)]
      have e : L.relRow (fun j => L.bitAt l j i) (j + 1) = if L.bitAt l j i then L.relRow (fun j => L.bitAt l j i) j ||| 2 ^ j else L.relRow (fun j => L.bitAt l j i) j := rfl
      rw [e] at ih
      cases hb : L.bitAt l j i with
      | true => rw [hb] at ih; exact L.Ev.ifp rfl ih
      | false => rw [hb] at ih; exact L.Ev.ifn (by simp) ih
  exact key 0 (by omega)
theorem mirror_eq {m : Nat} {l : List Int} (h : isRel (m : Int) l = true) : impl_Order_mirror.f (m : Int) l = some ((m : Int), L.relL m fun i j => L.bitAt l j i) := by
  unfold impl_Order_mirror.f
  rw [if_pos (isRel_ok h)]; rfl
theorem rd_mirror (l : List Int) {m i : Nat} (hi : i < m) : rd (L.relL m fun i j => L.bitAt l j i) (i : Int) = ((belowN l m i : Nat) : Int) := by
  unfold L.relL
  rw [L.rd_cast, L.relN_get _ _ hi]; rfl
end Go.Proofs.YtbodhioladafnaaDoor.P

/-! ### PuSets -/
/- Plain laws: sets of elements as numbers. -/
namespace Go.Proofs.YtbodhioladafnaaDoor.P
open Go.RowKit Go.Proofs.YtbodhioladafnaaDoorW.PrintWords Go.Proofs.YtbodhioladafnaaDoorW.PrintLast Go.Proofs.YtbodhioladafnaaDoorW.PrintMore L
set_option linter.unusedVariables false
set_option linter.unusedSimpArgs false
def allN (m : Nat) : Nat := 2 ^ m - 1
theorem allN_bit (m i : Nat) : (allN m).testBit i = decide (i < m) := by unfold allN; exact Nat.testBit_two_pow_sub_one ..
theorem allN_lt (m : Nat) : allN m < 2 ^ m := by unfold allN; have := Nat.two_pow_pos m; omega
theorem shl_all {m : Nat} (hm : m ≤ 60) : wrap64 ((shl .i64 1 (m : Int)) - 1) = ((allN m : Nat) : Int) := by
  rw [L.shl_one (by omega)]
  have h := L.two_lt hm
  have h0 := Nat.two_pow_pos m
  unfold allN
  rw [L.w64 (by omega) (by omega)]; omega
theorem relRow_lt10 (f : Nat → Bool) {m : Nat} (hm : m ≤ 10) : L.relRow f m < 1024 :=
  Nat.lt_of_lt_of_le (L.relRow_lt f m) (Nat.pow_le_pow_right (n := 2) (by decide) hm)
theorem two_lt10 {i : Nat} (hm : i < 10) : (2 : Nat) ^ i < 1024 := Nat.pow_lt_pow_right (by decide) hm
theorem allN_lt10 {m : Nat} (hm : m ≤ 10) : allN m < 1024 := Nat.lt_of_lt_of_le (allN_lt m) (Nat.pow_le_pow_right (n := 2) (by decide) hm)
/-- the set of the elements of a list. -/
def setN (l : List Int) : Nat := L.relRow (fun j => decide ((j : Int) ∈ l)) 10
theorem setN_lt (l : List Int) : setN l < 1024 := relRow_lt10 _ (by omega)
theorem setN_bit (l : List Int) (j : Nat) : (setN l).testBit j = (decide (j < 10) && decide ((j : Int) ∈ l)) := L.relRow_testBit _ _ _
theorem setN_nil : setN [] = 0 := by decide +kernel
theorem setN_step (l : List Int) (i x : Nat) (hi : i < l.length) (hx : l[i] = (x : Int)) (h10 : x < 10) : setN (l.take i) ||| 2 ^ x = setN (l.take (i + 1)) := by
  refine Nat.eq_of_testBit_eq fun j => ?_
  rw [Nat.testBit_or, setN_bit, setN_bit, Nat.testBit_two_pow]
  have e : l.take (i + 1) = l.take i ++ [l[i]] := by rw [List.take_add_one, List.getElem?_eq_getElem hi]; rfl
  have e2 : ((j : Int) ∈ l.take (i + 1)) = ((j : Int) ∈ l.take i ∨ x = j) := by
    rw [e, List.mem_append, List.mem_singleton, hx]
    exact propext ⟨fun h => h.imp id fun h => by omega, fun h => h.imp id fun h => by omega⟩
  simp only [e2]
  by_cases hj : j < 10
  · by_cases h1 : (j : Int) ∈ l.take i <;> by_cases h2 : x = j <;> simp [hj, h1, h2]
  · by_cases h2 : x = j
    · omega
    · simp [hj, h2]
theorem int_beq (a b : Nat) : ((a : Int) == (b : Int)) = (a == b) := by
  rw [Bool.eq_iff_iff]; simp only [beq_iff_eq]; omega
end Go.Proofs.YtbodhioladafnaaDoor.P

/-! ### PuFree0 -/
/- Plain laws: the set of those that are indifferent to an element, in the reference. -/
namespace Go.Proofs.YtbodhioladafnaaDoor.P
open Go.RowKit Go.Proofs.YtbodhioladafnaaDoorW.PrintWords Go.Proofs.YtbodhioladafnaaDoorW.PrintLast Go.Proofs.YtbodhioladafnaaDoorW.PrintMore L
set_option linter.unusedVariables false
set_option linter.unusedSimpArgs false
theorem isRel_len {m : Nat} {l : List Int} (h : isRel (m : Int) l = true) : l.length = m ∧ m ≤ 10 := by
  obtain ⟨m', hm', hm, hlm⟩ := isRel_nat h
  omega
theorem isRel_rows {m : Nat} {l : List Int} (h : isRel (m : Int) l = true) : ∀ x ∈ l, 0 ≤ x ∧ x < 2 ^ m := by
  have := ((isRel_iff _ _).1 h).2.2.2
  rwa [Int.toNat_natCast] at this
theorem rd_isRel {m : Nat} {l : List Int} (h : isRel (m : Int) l = true) {i : Nat} (hi : i < m) : rd l (i : Int) = ((L.relRow (L.bitAt l i) m : Nat) : Int) :=
  L.rd_okRel (isRel_len h).1 (by have := (isRel_len h).2; omega) (isRel_rows h) hi
/-- a relation that came in has no bits beyond its size. -/
theorem bitAt_out {m : Nat} {l : List Int} (h : isRel (m : Int) l = true) {i j : Nat} (hij : m ≤ i ∨ m ≤ j) : L.bitAt l i j = false := by
  obtain ⟨h1, h2⟩ := isRel_len h
  by_cases hi : i < m
  · have e := rd_isRel h hi
    rw [L.rd_nat] at e
    unfold L.bitAt
    rw [e, Int.toNat_natCast, L.relRow_testBit]
    simp [show ¬ j < m by omega]
  · unfold L.bitAt
    rw [List.getD_eq_getElem?_getD, List.getElem?_eq_none (by omega)]
    simp
theorem belowN_lt10 (l : List Int) {m : Nat} (hm : m ≤ 10) (i : Nat) : belowN l m i < 1024 := relRow_lt10 _ hm
/-- the set of those that are indifferent to an element. -/
def freeN (l : List Int) (m i : Nat) : Nat := L.relRow (fun j => !L.bitAt l i j && !L.bitAt l j i && !decide (j = i)) m
theorem freeN_bit (l : List Int) (m i j : Nat) : (freeN l m i).testBit j = (decide (j < m) && (!L.bitAt l i j && !L.bitAt l j i && !decide (j = i))) := L.relRow_testBit _ _ _
theorem free_spec (l : List Int) (m i : Nat) : L.diff (allN m) (L.relRow (L.bitAt l i) m ||| belowN l m i ||| 2 ^ i) = freeN l m i := by
  refine Nat.eq_of_testBit_eq fun j => ?_
  rw [L.diff_testBit, Nat.testBit_or, Nat.testBit_or, allN_bit, L.relRow_testBit, belowN_bit, Nat.testBit_two_pow, freeN_bit]
  by_cases hj : j < m
  · by_cases hij : i = j
    · subst hij; simp
    · simp [hj, hij, show ¬ j = i from fun h => hij h.symm]
  · simp [hj]
theorem free_impl (l : List Int) (m i : Nat) : L.diff (L.diff (L.diff (allN m) (L.relRow (L.bitAt l i) m)) (belowN l m i)) (2 ^ i) = freeN l m i := by
  refine Nat.eq_of_testBit_eq fun j => ?_
  rw [L.diff_testBit, L.diff_testBit, L.diff_testBit, allN_bit, L.relRow_testBit, belowN_bit, Nat.testBit_two_pow, freeN_bit]
  by_cases hj : j < m
  · by_cases hij : i = j
    · subst hij; simp
    · simp [hj, hij, show ¬ j = i from fun h => hij h.symm]
  · simp [hj]
theorem orFree_ev {m : Nat} {l : List Int} (h : isRel (m : Int) l = true) {i : Nat} (hi : i < m) : Ev (fun k => spec_orFree.f k (m : Int) l (i : Int)) ((freeN l m i : Nat) : Int) := by
  obtain ⟨h1, h2⟩ := isRel_len h
  unfold spec_orFree.f
  refine L.Ev.ifp (by omega) (L.Ev.ifp (by omega) (L.Ev.ifp (by omega) (Ev.bind (orBelow_ev h i (by omega)) ?_)))
  have b1 := relRow_lt10 (L.bitAt l i) h2
  have b2 := belowN_lt10 l h2 i
  have b3 := two_lt10 (show i < 10 by omega)
  have b4 := allN_lt10 h2
  have b5 : L.relRow (L.bitAt l i) m ||| belowN l m i < 2 ^ 10 := Nat.or_lt_two_pow b1 b2
  have b6 : L.relRow (L.bitAt l i) m ||| belowN l m i ||| 2 ^ i < 2 ^ 10 := Nat.or_lt_two_pow b5 b3
  rw [shl_all (by omega), rd_isRel h hi, L.or_nat (by omega) (by omega), L.shl_one (by omega), L.or_nat (by omega) (by omega), L.andNot_nat (by omega) (by omega), free_spec]
  exact Ev.now _
end Go.Proofs.YtbodhioladafnaaDoor.P

/-! ### PuDemand -/
/- Plain laws: the demands of a threshold, in the program and in the reference. -/
namespace Go.Proofs.YtbodhioladafnaaDoor.P
open Go.RowKit Go.Proofs.YtbodhioladafnaaDoorW.PrintWords Go.Proofs.YtbodhioladafnaaDoorW.PrintLast Go.Proofs.YtbodhioladafnaaDoorW.PrintMore L
set_option linter.unusedVariables false
set_option linter.unusedSimpArgs false
def demP (l : List Int) (m : Nat) (t : Int) (i j : Nat) : Int × Bool := if L.bitAt l i j = true then (t, true) else if (freeN l m i).testBit j = true then (1 - t, true) else (0, false)
theorem demP_small (l : List Int) (m : Nat) {t : Int} (i j : Nat) (ht : 1 ≤ t ∧ t ≤ 10) : -9 ≤ (demP l m t i j).1 ∧ (demP l m t i j).1 ≤ 10 := by
  unfold demP
  split
  · exact ⟨by dsimp only; omega, by dsimp only; omega⟩
  · split
    · exact ⟨by dsimp only; omega, by dsimp only; omega⟩
    · exact ⟨by dsimp only; omega, by dsimp only; omega⟩
theorem seDemand_ev {m : Nat} {l : List Int} (h : isRel (m : Int) l = true) {t : Int} (ht : 1 ≤ t ∧ t ≤ 10) {i j : Nat} (hi : i < m) (hj : j < m) :
    Ev (fun k => spec_seDemand.f k (m : Int) l t (i : Int) (j : Int)) (demP l m t i j) := by
  obtain ⟨h1, h2⟩ := isRel_len h
  unfold spec_seDemand.f demP
  refine L.Ev.ifp (by omega) (L.Ev.ifp (by omega) (L.Ev.bindc (orHas_eq (isRel_ok h) i j (by omega)) ?_))
  cases hb : L.bitAt l i j with
  | true => exact L.Ev.ifp rfl (by rw [if_pos rfl]; exact Ev.now _)
  | false =>
    refine L.Ev.ifn (by simp) (Ev.bind (a := (freeN l m i).testBit j) ?_ ?_)
    · unfold spec_seIndifferent.f
      exact Ev.bind (orFree_ev h hi) (L.Ev.bindc (orHas_nat (by omega)) (Ev.now _))
    · rw [if_neg Bool.false_ne_true]
      cases (freeN l m i).testBit j with
      | true => exact L.Ev.ifp rfl (by rw [if_pos rfl, L.w64 (by omega) (by omega)]; exact Ev.now _)
      | false => exact L.Ev.ifn (by simp) (by rw [if_neg Bool.false_ne_true]; exact Ev.now _)
theorem demand_eq {m : Nat} {l : List Int} (h : isRel (m : Int) l = true) {t : Int} (ht : 1 ≤ t ∧ t ≤ 10) {i j : Nat} (hi : i < m) (hj : j < m) :
    impl_Order_demand.f (m : Int) l t (i : Int) (j : Int) = some (demP l m t i j) := by
  obtain ⟨h1, h2⟩ := isRel_len h
  have ok := isRel_ok h
  unfold impl_Order_demand.f demP
  rw [impl_Order_better.tells ok i j (by omega) (by omega), impl_Order_better.tells ok j i (by omega) (by omega), freeN_bit, L.w64 (x := 1 - t) (by omega) (by omega)]
  simp only [Option.bind_some]
  have e1 : ((i : Int) = (j : Int)) ↔ j = i := by omega
  simp only [e1, show j < m from hj, decide_true, Bool.true_and]
  by_cases hij : j = i
  · subst hij
    cases L.bitAt l j j <;> simp
  · cases L.bitAt l i j <;> cases L.bitAt l j i <;> simp [hij]
end Go.Proofs.YtbodhioladafnaaDoor.P

/-! ### PuEqual -/
/- Plain laws: slices.Equal on rows of whole numbers. -/
namespace Go.Proofs.YtbodhioladafnaaDoor.P
open Go.RowKit Go.Proofs.YtbodhioladafnaaDoorW.PrintWords Go.Proofs.YtbodhioladafnaaDoorW.PrintLast Go.Proofs.YtbodhioladafnaaDoorW.PrintMore L
set_option linter.unusedVariables false
set_option linter.unusedSimpArgs false
theorem Equal_ev (x y : List Int) (hx : x.length ≤ 1048576) : Ev (fun k => slices_Equal_int_int.f k x y) (decide (x = y)) := by
  by_cases hlen : x.length = y.length
  · have key : ∀ i, i ≤ x.length → Ev (fun k => slices_Equal_int_int.l0 k x y (x.length : Int) (i : Int)) (decide (x.drop i = y.drop i)) := by
      refine L.down ?_ fun i hi ih => ?_
      · refine L.Ev.succ ?_
        simp only [slices_Equal_int_int.l0]
        refine L.Ev.ifn (by omega) ?_
        rw [List.drop_eq_nil_of_le (Nat.le_refl _), List.drop_eq_nil_of_le (by omega)]
        exact Ev.now _
      · refine L.Ev.succ ?_
        simp only [slices_Equal_int_int.l0]
        refine L.Ev.ifp (by omega) (L.Ev.ifp (by omega) (L.Ev.ifp (by omega) (L.Ev.ifp (by omega) ?_)))
        rw [L.rd_get hi, L.rd_get (l := y) (by omega), List.drop_eq_getElem_cons hi, List.drop_eq_getElem_cons (l := y) (by omega)]
        by_cases e : x[i] = y[i]'(by omega)
        · refine L.Ev.ifp e ?_
          refine Ev.congr (fun k => by rw [L.w64n (by omega)]) ?_
          have e2 : (x[i] :: List.drop (i + 1) x = y[i]'(by omega) :: List.drop (i + 1) y) = (List.drop (i + 1) x = List.drop (i + 1) y) := propext ⟨fun h => (List.cons.inj h).2, fun h => by rw [e, h]⟩
          simp only [e2]
          exact ih
        · refine L.Ev.ifn e ?_
          simp only [List.cons.injEq, e, false_and, decide_false]
          exact Ev.now _
    unfold slices_Equal_int_int.f
    exact L.Ev.ifp (by omega) (key 0 (by omega))
  · have e : x ≠ y := fun h => hlen (by rw [h])
    unfold slices_Equal_int_int.f
    exact L.Ev.ifn (by omega) (by simp only [e, decide_false]; exact Ev.now _)
end Go.Proofs.YtbodhioladafnaaDoor.P

/-! ### PuThreshold -/
/- Plain laws: thresholds, in the program. -/
namespace Go.Proofs.YtbodhioladafnaaDoor.P
open Go.RowKit Go.Proofs.YtbodhioladafnaaDoorW.PrintWords Go.Proofs.YtbodhioladafnaaDoorW.PrintLast Go.Proofs.YtbodhioladafnaaDoorW.PrintMore L
set_option linter.unusedVariables false
set_option linter.unusedSimpArgs false
theorem isThreshold_ev (n : Int) (l : List Int) (a : Int) (hl : l.length ≤ 1048576) : Ev (fun k => impl_isThreshold.f k n l a) (isOrd n l && decide (1 ≤ a ∧ a ≤ 10)) := by
  unfold impl_isThreshold.f
  refine Ev.bind (IsOrder_ev n l hl) ?_
  cases h : isOrd n l with
  | false => exact L.Ev.ifn (by simp) (by rw [Bool.false_and]; exact Ev.now _)
  | true => exact L.Ev.ifp rfl (L.Ev.bindc (within_eq _ _ _) (by rw [Bool.true_and]; exact Ev.now _))
end Go.Proofs.YtbodhioladafnaaDoor.P

/-! ### PuPlaces -/
/- Plain laws: lists that are places of an order, in the program and in the reference. -/
namespace Go.Proofs.YtbodhioladafnaaDoor.P
open Go.RowKit Go.Proofs.YtbodhioladafnaaDoorW.PrintWords Go.Proofs.YtbodhioladafnaaDoorW.PrintLast Go.Proofs.YtbodhioladafnaaDoorW.PrintMore L
set_option linter.unusedVariables false
set_option linter.unusedSimpArgs false
def placeIs (a : Int) (e : List Int) (i j : Nat) : Bool := decide (a ≤ rd e (j : Int) - rd e (i : Int))
def placesB (l : List Int) (m : Nat) (a : Int) (e : List Int) : Bool := decide (e.length = m) && (allIn e 0 1000 && decide (l = L.relL m (placeIs a e)))
theorem match_eq {m : Nat} {l : List Int} (h : isRel (m : Int) l = true) (is : Nat → Nat → Bool) : ((List.range m).all fun i => (List.range m).all fun j => L.bitAt l i j == is i j) = decide (l = L.relL m is) := by
  have h2 := ((isRel_iff _ _).1 h).2.2.2
  rw [Int.toNat_natCast] at h2
  have e := L.okRel_eq (rel_len h).1 (by have := (rel_len h).2; omega) h2
  rw [Bool.eq_iff_iff]
  simp only [List.all_eq_true, List.mem_range, beq_iff_eq, decide_eq_true_eq]
  constructor
  · intro hh
    rw [e]
    exact L.relL_congr fun i j hi hj => hh i hi j hj
  · intro hh i hi j hj
    rw [hh, L.bitAt_relL _ hi hj]
theorem place_get {e : List Int} (h : allIn e 0 1000 = true) (i : Nat) : 0 ≤ rd e (i : Int) ∧ rd e (i : Int) ≤ 1000 := by
  by_cases hi : i < e.length
  · rw [L.rd_get hi]; exact (allIn_iff e 0 1000).1 h _ (List.getElem_mem hi)
  · rw [L.rd_nat, List.getD_eq_getElem?_getD, List.getElem?_eq_none (by omega)]; simp
theorem isPlaces_ev {m : Nat} {l : List Int} (h : isRel (m : Int) l = true) (a : Int) (e : List Int) (he : e.length ≤ 1048576) : Ev (fun k => impl_Order_isPlaces.f k (m : Int) l a e) (placesB l m a e) := by
  obtain ⟨h1, h2⟩ := rel_len h
  unfold impl_Order_isPlaces.f placesB
  refine Ev.bind (allWithin_ev e 0 1000 (by omega)) ?_
  cases ha : allIn e 0 1000 with
  | false => exact L.Ev.ifn (by simp) (by rw [Bool.false_and, Bool.and_false]; exact Ev.now _)
  | true =>
    refine L.Ev.ifp rfl (L.Ev.bindc (a := ((e.length : Int), impl_placed.bigL e.length (placeIs a e))) ?_ ?_)
    · unfold impl_placed.f
      rw [if_pos ⟨by omega, (allIn_iff e 0 1000).1 ha⟩]; rfl
    · unfold impl_Order_same.f
      by_cases hm : e.length = m
      · refine Ev.bind (a := decide (l = L.relL m (placeIs a e))) (L.Ev.ifp (by dsimp only; omega) ?_) ?_
        · dsimp only
          rw [hm, impl_placed.bigL_small (by omega)]
          have e3 : decide (l = L.relL m (placeIs a e)) = decide (L.relL m (placeIs a e) = l) := decide_eq_decide.2 ⟨Eq.symm, Eq.symm⟩
          rw [e3]
          exact Ev.bind (Equal_ev _ l (by rw [L.relL_length]; omega)) (Ev.now _)
        · have e2 : decide (e.length = m) = true := decide_eq_true hm
          rw [e2, Bool.true_and, Bool.true_and]; exact Ev.now _
      · refine Ev.bind (a := false) (L.Ev.ifn (by dsimp only; omega) (Ev.now _)) ?_
        have e2 : decide (e.length = m) = false := decide_eq_false hm
        rw [e2, Bool.false_and]; exact Ev.now _
theorem sePlaces_ev {m : Nat} {l : List Int} (h : isRel (m : Int) l = true) (a : Int) (ha10 : 1 ≤ a ∧ a ≤ 10) (e : List Int) (he : e.length ≤ 1048576) : Ev (fun k => spec_sePlaces.f k (m : Int) l a e) (placesB l m a e) := by
  obtain ⟨h1, h2⟩ := rel_len h
  have ok := isRel_ok h
  unfold spec_sePlaces.f placesB
  by_cases hm : e.length = m
  · have e2 : decide (e.length = m) = true := decide_eq_true hm
    rw [e2, Bool.true_and]
    refine L.Ev.ifp (by omega) (Ev.bind (l1All_ev e 0 1000 (by omega)) (L.Ev.succ ?_))
    simp only [spec_sePlaces.j0]
    cases ha : allIn e 0 1000 with
    | false => exact L.Ev.ifp (by simp) (by rw [Bool.false_and]; exact Ev.now _)
    | true =>
      refine L.Ev.ifn (by simp) ?_
      rw [Bool.true_and, ← match_eq h]
      have k1 : ∀ i, i < m → Ev (fun k => spec_sePlaces.l0 k a e e (e.length : Int) ((i + 1 : Nat) : Int) (m : Int) l) (((List.range m).drop (i + 1)).all fun i => (List.range m).all fun j => L.bitAt l i j == placeIs a e i j) →
          ∀ j, j ≤ m → Ev (fun k => spec_sePlaces.l1 k a e (i : Int) (rd e (i : Int)) e (e.length : Int) (i : Int) e (e.length : Int) (j : Int) (m : Int) l)
            (((List.range m).drop j).all (fun j => L.bitAt l i j == placeIs a e i j) && ((List.range m).drop (i + 1)).all fun i => (List.range m).all fun j => L.bitAt l i j == placeIs a e i j) := by
        intro i hi hk
        refine L.down ?_ fun j hj ih => ?_
        · refine L.Ev.succ ?_
          simp only [spec_sePlaces.l1]
          rw [range_drop_end, Bool.true_and]
          refine L.Ev.ifn (by omega) ?_
          rw [L.w64n (by omega)]; exact hk
        · refine L.Ev.succ ?_
          simp only [spec_sePlaces.l1]
          have g1 := place_get ha i
          have g2 := place_get ha j
          rw [range_drop_step _ _ _ hj]
          refine L.Ev.ifp (by omega) (L.Ev.ifp (by omega) (L.Ev.ifp (by omega) (L.Ev.ifp (by omega) (L.Ev.ifp (by omega) (L.Ev.bindc (orHas_eq ok i j (by omega)) ?_)))))
          rw [L.w64n (n := j) (by omega), L.w64 (x := rd e (i : Int) + a) (by omega) (by omega)]
          have ed : decide (rd e (j : Int) ≥ rd e (i : Int) + a) = placeIs a e i j := by unfold placeIs; rw [decide_eq_decide]; omega
          rw [ed]
          cases hb : (L.bitAt l i j == placeIs a e i j) with
          | true => exact L.Ev.ifn (by simp [bne, hb]) (by rw [Bool.true_and]; exact ih)
          | false => exact L.Ev.ifp (by simp [bne, hb]) (by rw [Bool.false_and, Bool.false_and]; exact Ev.now _)
      have k0 : ∀ i, i ≤ m → Ev (fun k => spec_sePlaces.l0 k a e e (e.length : Int) (i : Int) (m : Int) l) (((List.range m).drop i).all fun i => (List.range m).all fun j => L.bitAt l i j == placeIs a e i j) := by
        refine L.down ?_ fun i hi ih => ?_
        · refine L.Ev.succ ?_
          simp only [spec_sePlaces.l0]
          rw [range_drop_end]
          exact L.Ev.ifn (by omega) (Ev.now _)
        · refine L.Ev.succ ?_
          simp only [spec_sePlaces.l0]
          rw [range_drop_step _ _ _ hi]
          have := k1 i hi ih 0 (by omega)
          rw [List.drop_zero] at this
          exact L.Ev.ifp (by omega) (L.Ev.ifp (by omega) (L.Ev.ifp (by omega) this))
      have := k0 0 (by omega)
      rw [List.drop_zero] at this
      exact this
  · have e2 : decide (e.length = m) = false := decide_eq_false hm
    rw [e2, Bool.false_and]
    refine L.Ev.ifn (by omega) (L.Ev.succ ?_)
    simp only [spec_sePlaces.j0]
    exact L.Ev.ifp (by simp) (Ev.now _)
end Go.Proofs.YtbodhioladafnaaDoor.P

/-! ### PuTrans -/
/- Plain laws: an order's relation is transitive and never of an element with itself. -/
namespace Go.Proofs.YtbodhioladafnaaDoor.P
open Go.RowKit Go.Proofs.YtbodhioladafnaaDoorW.PrintWords Go.Proofs.YtbodhioladafnaaDoorW.PrintLast Go.Proofs.YtbodhioladafnaaDoorW.PrintMore L
set_option linter.unusedVariables false
set_option linter.unusedSimpArgs false
theorem isOrd_ordB {m : Nat} {l : List Int} (h : isOrd (m : Int) l = true) : ordB l m = true := by
  unfold isOrd at h; rw [Bool.and_eq_true, Int.toNat_natCast] at h; exact h.2
theorem bit_lt {m : Nat} {l : List Int} (h : isRel (m : Int) l = true) {i j : Nat} (hb : L.bitAt l i j = true) : i < m ∧ j < m := by
  obtain ⟨h1, h2⟩ := rel_len h
  by_cases hi : i < m
  · refine ⟨hi, ?_⟩
    have e := rd_rowN h hi
    rw [L.rd_nat] at e
    unfold L.bitAt at hb
    rw [e, Int.toNat_natCast, rowN_bit] at hb
    simp at hb; exact hb.1
  · unfold L.bitAt at hb
    rw [List.getD_eq_getElem?_getD, List.getElem?_eq_none (by omega)] at hb
    simp at hb
theorem ord_irrefl {m : Nat} {l : List Int} (h : isOrd (m : Int) l = true) (i : Nat) : L.bitAt l i i = false := by
  cases hb : L.bitAt l i i with
  | false => rfl
  | true =>
    have hi := (bit_lt (isOrd_rel h) hb).1
    have ho := isOrd_ordB h
    unfold ordB at ho
    have := List.all_eq_true.1 ho i (List.mem_range.2 hi)
    unfold ordAt at this
    rw [hb] at this; simp at this
theorem ord_trans {m : Nat} {l : List Int} (h : isOrd (m : Int) l = true) {i j k : Nat} (h1 : L.bitAt l i j = true) (h2 : L.bitAt l j k = true) : L.bitAt l i k = true := by
  have hr := isOrd_rel h
  have hij := bit_lt hr h1
  have hjk := bit_lt hr h2
  have h10 := (rel_len hr).2
  have ho := isOrd_ordB h
  unfold ordB at ho
  have ha := List.all_eq_true.1 ho i (List.mem_range.2 hij.1)
  unfold ordAt at ha
  rw [Bool.and_eq_true] at ha
  have hb := List.all_eq_true.1 ha.2 j (mem_membersN.2 ⟨by omega, by rw [rowN_bit]; simp [hij.2, h1]⟩)
  rw [beq_iff_eq] at hb
  have hc : (L.diff (rowN l m j) (rowN l m i)).testBit k = false := by rw [hb]; simp
  rw [L.diff_testBit, rowN_bit, rowN_bit] at hc
  simp only [hjk.2, decide_true, Bool.true_and, h2] at hc
  simpa using hc
end Go.Proofs.YtbodhioladafnaaDoor.P

/-! ### PuSlack -/
/- Plain laws: by how much the demands are exceeded. -/
namespace Go.Proofs.YtbodhioladafnaaDoor.P
open Go.RowKit Go.Proofs.YtbodhioladafnaaDoorW.PrintWords Go.Proofs.YtbodhioladafnaaDoorW.PrintLast Go.Proofs.YtbodhioladafnaaDoorW.PrintMore L
set_option linter.unusedVariables false
set_option linter.unusedSimpArgs false
def slackV (l : List Int) (m : Nat) (t : Int) (e : List Int) (i j : Nat) : Option Int := if (demP l m t i j).2 = true then some (rd e (j : Int) - rd e (i : Int) - (demP l m t i j).1) else none
def slackRow (l : List Int) (m : Nat) (t : Int) (e : List Int) (i : Nat) (js : List Nat) : List Int := js.filterMap (slackV l m t e i)
def slackAll (l : List Int) (m : Nat) (t : Int) (e : List Int) (is : List Nat) : List Int := is.flatMap fun i => slackRow l m t e i (List.range m)
def leastI (b x : Int) : Int := if b < x then b else x
theorem slackRow_yes {l : List Int} {m : Nat} {t : Int} {e : List Int} {i j : Nat} (js : List Nat) (h : (demP l m t i j).2 = true) : slackRow l m t e i (j :: js) = (rd e (j : Int) - rd e (i : Int) - (demP l m t i j).1) :: slackRow l m t e i js := by
  unfold slackRow slackV
  rw [List.filterMap_cons, if_pos h]
theorem slackRow_no {l : List Int} {m : Nat} {t : Int} {e : List Int} {i j : Nat} (js : List Nat) (h : ¬ (demP l m t i j).2 = true) : slackRow l m t e i (j :: js) = slackRow l m t e i js := by
  unfold slackRow slackV
  rw [List.filterMap_cons, if_neg h]
theorem slackAll_cons (l : List Int) (m : Nat) (t : Int) (e : List Int) (i : Nat) (is : List Nat) : slackAll l m t e (i :: is) = slackRow l m t e i (List.range m) ++ slackAll l m t e is := by
  unfold slackAll; rw [List.flatMap_cons]
theorem slackRow_length (l : List Int) (m : Nat) (t : Int) (e : List Int) (i : Nat) (js : List Nat) : (slackRow l m t e i js).length ≤ js.length := List.length_filterMap_le _ _
theorem slackAll_length (l : List Int) {m : Nat} (hm : m ≤ 10) (t : Int) (e : List Int) : ∀ is : List Nat, (slackAll l m t e is).length ≤ 10 * is.length
  | [] => by simp [slackAll]
  | i :: is => by
    rw [slackAll_cons, List.length_append, List.length_cons]
    have h1 := slackRow_length l m t e i (List.range m)
    rw [List.length_range] at h1
    have h2 := slackAll_length l hm t e is
    omega
theorem slack_small {l : List Int} {m : Nat} {t : Int} (ht : 1 ≤ t ∧ t ≤ 10) {e : List Int} (he : allIn e 0 1000 = true) : ∀ x ∈ slackAll l m t e (List.range m), -1010 ≤ x ∧ x ≤ 1010 := by
  intro x hx
  obtain ⟨i, hi, hx⟩ := List.mem_flatMap.1 hx
  obtain ⟨j, hj, hx⟩ := List.mem_filterMap.1 hx
  unfold slackV at hx
  have g1 := place_get he i
  have g2 := place_get he j
  have hd := demP_small l m i j ht
  split at hx
  · obtain rfl := Option.some.inj hx; omega
  · cases hx
theorem foldl_least_le : ∀ (xs : List Int) (b : Int), xs.foldl leastI b ≤ b
  | [], b => by simp
  | x :: xs, b => by
    rw [List.foldl_cons]
    have := foldl_least_le xs (leastI b x)
    have h2 : leastI b x ≤ b := by unfold leastI; split <;> omega
    exact Int.le_trans this h2
theorem slack_some {m : Nat} {l : List Int} (h : isOrd (m : Int) l = true) (h2 : 2 ≤ m) (t : Int) (e : List Int) : slackAll l m t e (List.range m) ≠ [] := by
  have key : ∀ i j, i < m → j < m → (demP l m t i j).2 = true → slackAll l m t e (List.range m) ≠ [] := by
    intro i j hi hj hd hn
    have : (rd e (j : Int) - rd e (i : Int) - (demP l m t i j).1) ∈ slackAll l m t e (List.range m) :=
      List.mem_flatMap.2 ⟨i, List.mem_range.2 hi, List.mem_filterMap.2 ⟨j, List.mem_range.2 hj, by unfold slackV; rw [if_pos hd]⟩⟩
    rw [hn] at this
    exact absurd this (by simp)
  by_cases h10 : L.bitAt l 1 0 = true
  · exact key 1 0 (by omega) (by omega) (by unfold demP; rw [if_pos h10])
  · refine key 0 1 (by omega) (by omega) ?_
    unfold demP
    by_cases h01 : L.bitAt l 0 1 = true
    · rw [if_pos h01]
    · rw [if_neg h01, if_pos]
      rw [freeN_bit]
      simp at h10 h01
      simp [h10, h01]; omega
theorem slack_none {m : Nat} {l : List Int} (h : isOrd (m : Int) l = true) (h2 : m < 2) (t : Int) (e : List Int) : slackAll l m t e (List.range m) = [] := by
  refine List.eq_nil_iff_forall_not_mem.2 fun x hx => ?_
  obtain ⟨i, hi, hx⟩ := List.mem_flatMap.1 hx
  obtain ⟨j, hj, hx⟩ := List.mem_filterMap.1 hx
  have hi := List.mem_range.1 hi
  have hj := List.mem_range.1 hj
  obtain rfl : i = 0 := by omega
  obtain rfl : j = 0 := by omega
  have e0 : (demP l m t 0 0).2 = false := by unfold demP; rw [if_neg (by rw [ord_irrefl h]; simp), if_neg (by rw [freeN_bit]; simp)]
  unfold slackV at hx
  rw [e0] at hx
  simp at hx
end Go.Proofs.YtbodhioladafnaaDoor.P

/-! ### BoSlackOf -/
/- What SlackOf comes to, in the program and in the reference. -/
namespace Go.Proofs.YtbodhioladafnaaDoor.P
open Go.RowKit Go.Proofs.YtbodhioladafnaaDoorW.PrintWords Go.Proofs.YtbodhioladafnaaDoorW.PrintLast Go.Proofs.YtbodhioladafnaaDoorW.PrintMore L
set_option linter.unusedVariables false
set_option linter.unusedSimpArgs false
theorem range_dropc {m i : Nat} (h : i < m) : (List.range m).drop i = i :: (List.range m).drop (i + 1) := by
  rw [List.drop_eq_getElem_cons (by simpa using h), List.getElem_range]
theorem range_dropn (m : Nat) : (List.range m).drop m = [] := List.drop_eq_nil_of_le (by simp)
theorem min_ev (x : Int) (xs : List Int) (hl : (x :: xs).length ≤ 1048576) : Ev (fun k => slices_Min_int_int.f k (x :: xs)) (xs.foldl leastI x) := by
  have key : ∀ i, i ≤ xs.length → ∀ b : Int, Ev (fun k => slices_Min_int_int.l0 k (x :: xs) b ((i + 1 : Nat) : Int)) ((xs.drop i).foldl leastI b) := by
    refine L.down ?_ fun i hi ih => ?_
    · intro b
      refine L.Ev.succ ?_
      simp only [slices_Min_int_int.l0]
      rw [List.drop_eq_nil_of_le (Nat.le_refl _)]
      exact L.Ev.ifn (by rw [List.length_cons]; omega) (Ev.now _)
    · intro b
      refine L.Ev.succ ?_
      simp only [slices_Min_int_int.l0]
      rw [List.length_cons] at hl
      have e1 : rd (x :: xs) ((i + 1 : Nat) : Int) = xs[i] := by
        rw [L.rd_get (i := i + 1) (by rw [List.length_cons]; omega)]; rfl
      have e2 : mn b xs[i] = leastI b xs[i] := by
        unfold leastI mn
        split <;> split <;> omega
      rw [e1, e2, L.w64n (n := i + 1) (by omega), List.drop_eq_getElem_cons hi, List.foldl_cons]
      exact L.Ev.ifp (by rw [List.length_cons]; omega) (L.Ev.ifp (by omega) (ih _))
  unfold slices_Min_int_int.f
  refine L.Ev.ifn (by rw [List.length_cons]; omega) (L.Ev.succ ?_)
  simp only [slices_Min_int_int.j0]
  have := key 0 (by omega) x
  rw [List.drop_zero] at this
  exact L.Ev.ifp (by rw [List.length_cons]; omega) this
section
variable {m : Nat} {l : List Int} (hr : isRel (m : Int) l = true) {t : Int} (ht : 1 ≤ t ∧ t ≤ 10) {e : List Int} (he : allIn e 0 1000 = true) (hem : e.length = m)
include hr ht he hem
theorem imSlackRow {i : Nat} (hi : i < m) (Q : Int × Bool) : ∀ j, j ≤ m → ∀ acc : List Int, acc.length + (m - j) ≤ 1000000 →
    Ev (fun k => impl_SlackOf.l0 k t e (acc ++ slackRow l m t e i ((List.range m).drop j)) (m : Int) ((i + 1 : Nat) : Int) (m : Int) l) Q →
    Ev (fun k => impl_SlackOf.l1 k t e acc (i : Int) (m : Int) (i : Int) (m : Int) (j : Int) (m : Int) l) Q := by
  obtain ⟨h1, h2⟩ := rel_len hr
  refine L.down ?_ fun j hj ih => ?_
  · intro acc ha hk
    refine L.Ev.succ ?_
    simp only [impl_SlackOf.l1]
    rw [range_dropn] at hk
    refine L.Ev.ifn (by omega) ?_
    rw [L.w64n (n := i) (by omega)]
    simpa [slackRow] using hk
  · intro acc ha hk
    rw [range_dropc hj] at hk
    have g1 := place_get he i
    have g2 := place_get he j
    have hd := demP_small l m i j ht
    refine L.Ev.succ ?_
    simp only [impl_SlackOf.l1]
    rw [L.w64n (n := j) (by omega)]
    refine L.Ev.ifp (by omega) (L.Ev.bindc (demand_eq hr ht hi hj) ?_)
    rw [L.w64 (x := rd e (j : Int) - rd e (i : Int)) (by omega) (by omega), L.w64 (x := rd e (j : Int) - rd e (i : Int) - (demP l m t i j).1) (by omega) (by omega)]
    by_cases hc : (demP l m t i j).2 = true
    · rw [slackRow_yes _ hc] at hk
      refine L.Ev.ifp hc (L.Ev.ifp (by omega) (L.Ev.ifp (by omega) (L.Ev.ifp (by omega) (L.Ev.ifp (by omega) (L.Ev.ifp (by omega) ?_)))))
      refine ih _ (by rw [List.length_append]; simp; omega) ?_
      rw [List.append_assoc]
      exact hk
    · rw [slackRow_no _ hc] at hk
      exact L.Ev.ifn hc (ih acc (by omega) hk)
theorem imSlackAll (Q : Int × Bool) : ∀ i, i ≤ m → ∀ acc : List Int, acc.length + 100 * (m - i) ≤ 900000 →
    Ev (fun k => (slices_Min_int_int.f k (acc ++ slackAll l m t e ((List.range m).drop i))).bind fun x => some (x, true)) Q →
    Ev (fun k => impl_SlackOf.l0 k t e acc (m : Int) (i : Int) (m : Int) l) Q := by
  obtain ⟨h1, h2⟩ := rel_len hr
  refine L.down ?_ fun i hi ih => ?_
  · intro acc ha hk
    refine L.Ev.succ ?_
    simp only [impl_SlackOf.l0]
    rw [range_dropn] at hk
    refine L.Ev.ifn (by omega) ?_
    simpa [slackAll] using hk
  · intro acc ha hk
    rw [range_dropc hi, slackAll_cons, ← List.append_assoc] at hk
    have hl := slackRow_length l m t e i (List.range m)
    rw [List.length_range] at hl
    refine L.Ev.succ ?_
    simp only [impl_SlackOf.l0]
    refine L.Ev.ifp (by omega) ?_
    refine imSlackRow hr ht he hem hi Q 0 (by omega) acc (by omega) ?_
    rw [List.drop_zero]
    exact ih _ (by rw [List.length_append]; omega) hk
theorem spSlackRow {i : Nat} (hi : i < m) (Q : Int × Bool) : ∀ j, j ≤ m → ∀ b : Int,
    Ev (fun k => spec_SlackOf.l0 k t e ((slackRow l m t e i ((List.range m).drop j)).foldl leastI b) (m : Int) ((i + 1 : Nat) : Int) (m : Int) l) Q →
    Ev (fun k => spec_SlackOf.l1 k t e b (i : Int) (m : Int) (i : Int) (m : Int) (j : Int) (m : Int) l) Q := by
  obtain ⟨h1, h2⟩ := rel_len hr
  refine L.down ?_ fun j hj ih => ?_
  · intro b hk
    refine L.Ev.succ ?_
    simp only [spec_SlackOf.l1]
    rw [range_dropn] at hk
    refine L.Ev.ifn (by omega) ?_
    rw [L.w64n (n := i) (by omega)]
    simpa [slackRow] using hk
  · intro b hk
    rw [range_dropc hj] at hk
    have g1 := place_get he i
    have g2 := place_get he j
    have hd := demP_small l m i j ht
    refine L.Ev.succ ?_
    simp only [spec_SlackOf.l1]
    rw [L.w64n (n := j) (by omega)]
    refine L.Ev.ifp (by omega) (Ev.bind (seDemand_ev hr ht hi hj) ?_)
    rw [L.w64 (x := rd e (j : Int) - rd e (i : Int)) (by omega) (by omega), L.w64 (x := rd e (j : Int) - rd e (i : Int) - (demP l m t i j).1) (by omega) (by omega)]
    by_cases hc : (demP l m t i j).2 = true
    · rw [slackRow_yes _ hc, List.foldl_cons] at hk
      refine L.Ev.ifp hc (L.Ev.ifp (by omega) (L.Ev.ifp (by omega) (L.Ev.ifp (by omega) (L.Ev.ifp (by omega) ?_))))
      refine L.Ev.bindc (a := leastI b (rd e (j : Int) - rd e (i : Int) - (demP l m t i j).1)) ?_ (ih _ hk)
      unfold spec_l1Least.f leastI
      split <;> rfl
    · rw [slackRow_no _ hc] at hk
      exact L.Ev.ifn hc (ih b hk)
theorem spSlackAll (Q : Int × Bool) : ∀ i, i ≤ m → ∀ b : Int,
    Ev (fun k : Nat => if (slackAll l m t e ((List.range m).drop i)).foldl leastI b = 5000 then some (0, false) else some ((slackAll l m t e ((List.range m).drop i)).foldl leastI b, true)) Q →
    Ev (fun k => spec_SlackOf.l0 k t e b (m : Int) (i : Int) (m : Int) l) Q := by
  obtain ⟨h1, h2⟩ := rel_len hr
  refine L.down ?_ fun i hi ih => ?_
  · intro b hk
    refine L.Ev.succ ?_
    simp only [spec_SlackOf.l0]
    rw [range_dropn] at hk
    refine L.Ev.ifn (by omega) ?_
    simpa [slackAll] using hk
  · intro b hk
    rw [range_dropc hi, slackAll_cons, List.foldl_append] at hk
    refine L.Ev.succ ?_
    simp only [spec_SlackOf.l0]
    rw [hem]
    refine L.Ev.ifp (by omega) ?_
    refine spSlackRow hr ht he hem hi Q 0 (by omega) b ?_
    rw [List.drop_zero]
    exact ih _ hk
end
theorem SlackOf_both (n : Int) (l : List Int) (wn : R.wf n) (hl : l.length ≤ 1048576) (w0 : ∀ x ∈ l, R.wf x) (a : Int) (wa : R.wf a) (e : List Int) (he : e.length ≤ 1048576) (w1 : ∀ x ∈ e, R.wf x) :
    ∃ (r : Int) (b : Bool), Ev (fun k => spec_SlackOf.f k n l a e) (r, b) ∧ Ev (fun k => impl_SlackOf.f k n l a e) (r, b) := by
  cases h : isOrd n l with
  | false =>
    refine ⟨0, false, ?_, ?_⟩
    · unfold spec_SlackOf.f
      refine Ev.bind (orGood_ev n l hl) (L.Ev.ifn (by simp [h]) (L.Ev.succ ?_))
      simp only [spec_SlackOf.j0]
      exact L.Ev.ifp trivial (Ev.now _)
    · unfold impl_SlackOf.f
      refine Ev.bind (isThreshold_ev n l a hl) (L.Ev.ifn (by simp [h]) (L.Ev.succ ?_))
      simp only [impl_SlackOf.j0]
      exact L.Ev.ifp trivial (Ev.now _)
  | true =>
    have hr := isOrd_rel h
    obtain ⟨m, rfl, hm, hlm⟩ := isRel_nat hr
    by_cases ha : 1 ≤ a ∧ a ≤ 10
    case neg =>
      refine ⟨0, false, ?_, ?_⟩
      · unfold spec_SlackOf.f
        refine Ev.bind (orGood_ev _ l hl) (L.Ev.ifp h (L.Ev.bindc (by unfold spec_seThreshold.f; rw [l1In_eq]; rfl) (L.Ev.ifn (by simpa using ha) (L.Ev.succ ?_))))
        simp only [spec_SlackOf.j0]
        exact L.Ev.ifp trivial (Ev.now _)
      · unfold impl_SlackOf.f
        refine Ev.bind (isThreshold_ev _ l a hl) (L.Ev.ifn (by simpa [h] using ha) (L.Ev.succ ?_))
        simp only [impl_SlackOf.j0]
        exact L.Ev.ifp trivial (Ev.now _)
    cases hp : placesB l m a e with
    | false =>
      refine ⟨0, false, ?_, ?_⟩
      · unfold spec_SlackOf.f
        refine Ev.bind (orGood_ev _ l hl) (L.Ev.ifp h (L.Ev.bindc (by unfold spec_seThreshold.f; rw [l1In_eq]; rfl) (L.Ev.ifp (by simpa using ha) (Ev.bind (sePlaces_ev hr a ha e he) (L.Ev.succ ?_)))))
        simp only [spec_SlackOf.j0]
        exact L.Ev.ifp (by simp [hp]) (Ev.now _)
      · unfold impl_SlackOf.f
        refine Ev.bind (isThreshold_ev _ l a hl) (L.Ev.ifp (by simpa [h] using ha) (Ev.bind (isPlaces_ev hr a e he) (L.Ev.ifn (by simp [hp]) (L.Ev.succ ?_))))
        simp only [impl_SlackOf.j0]
        exact L.Ev.ifp trivial (Ev.now _)
    | true =>
    have hp' := hp
    unfold placesB at hp'
    simp only [Bool.and_eq_true, decide_eq_true_eq] at hp'
    obtain ⟨hem, hin, _⟩ := hp'
    have sp : ∀ {Q : Int × Bool}, Ev (fun k => spec_SlackOf.l0 k a e 5000 (m : Int) ((0 : Nat) : Int) (m : Int) l) Q → Ev (fun k => spec_SlackOf.f k (m : Int) l a e) Q := by
      intro Q hQ
      unfold spec_SlackOf.f
      refine Ev.bind (orGood_ev _ l hl) (L.Ev.ifp h (L.Ev.bindc (by unfold spec_seThreshold.f; rw [l1In_eq]; rfl) (L.Ev.ifp (by simpa using ha) (Ev.bind (sePlaces_ev hr a ha e he) (L.Ev.succ ?_)))))
      simp only [spec_SlackOf.j0]
      rw [hem]
      exact L.Ev.ifn (by simp [hp]) hQ
    have small := slack_small (l := l) (m := m) ha hin
    by_cases h2 : m < 2
    · refine ⟨0, false, sp (spSlackAll hr ha hin hem _ 0 (by omega) 5000 ?_), ?_⟩
      · rw [List.drop_zero, slack_none h h2]
        exact L.Ev.ifp rfl (Ev.now _)
      · unfold impl_SlackOf.f
        refine Ev.bind (isThreshold_ev _ l a hl) (L.Ev.ifp (by simpa [h] using ha) (Ev.bind (isPlaces_ev hr a e he) (L.Ev.ifp hp (L.Ev.succ ?_))))
        simp only [impl_SlackOf.j0]
        exact L.Ev.ifp (by simp; omega) (Ev.now _)
    · have hne := slack_some h (by omega) a e
      have hlen := slackAll_length l hm a e (List.range m)
      rw [List.length_range] at hlen
      obtain ⟨x, xs, ex⟩ := List.exists_cons_of_ne_nil hne
      have sx := small x (by rw [ex]; exact List.mem_cons_self ..)
      have e5 : leastI 5000 x = x := by unfold leastI; rw [if_neg (by omega)]
      have hle := foldl_least_le xs x
      refine ⟨xs.foldl leastI x, true, sp (spSlackAll hr ha hin hem _ 0 (by omega) 5000 ?_), ?_⟩
      · rw [List.drop_zero, ex, List.foldl_cons, e5]
        exact L.Ev.ifn (by omega) (Ev.now _)
      · unfold impl_SlackOf.f
        refine Ev.bind (isThreshold_ev _ l a hl) (L.Ev.ifp (by simpa [h] using ha) (Ev.bind (isPlaces_ev hr a e he) (L.Ev.ifp hp (L.Ev.succ ?_))))
        simp only [impl_SlackOf.j0]
        refine L.Ev.ifn (by simp; omega) ?_
        refine imSlackAll hr ha hin hem _ 0 (by omega) [] (by simp; omega) ?_
        rw [List.drop_zero, List.nil_append, ex]
        exact Ev.bind (min_ev x xs (by rw [← ex]; omega)) (Ev.now _)
end Go.Proofs.YtbodhioladafnaaDoor.P

/-! ### PuFnExactSlackOf -/
/- The plain law behind FnExactSlackOf, out of what the program's and the reference's function come to. -/
namespace Go.Proofs.YtbodhioladafnaaDoor.P
open Go.RowKit Go.Proofs.YtbodhioladafnaaDoorW.PrintWords Go.Proofs.YtbodhioladafnaaDoorW.PrintLast Go.Proofs.YtbodhioladafnaaDoorW.PrintMore L
set_option linter.unusedVariables false
set_option linter.unusedSimpArgs false
set_option maxHeartbeats 1000000 in
theorem FnExactSlackOf_pure (a0 : Int) (l0 : List Int) (w0a : R.wf a0) (m0 : l0.length ≤ 9223372036854775807) (w0 : ∀ x ∈ l0, R.wf x) (a1 : Int) (w1 : R.wf a1) (l2 : List Int) (m2 : l2.length ≤ 9223372036854775807) (w2 : ∀ x ∈ l2, R.wf x) : ∃ k, laws_FnExactSlackOf.f k a0 l0 a1 l2 = some true := by
  refine Ev.rounds (r := true) ?_
  unfold laws_FnExactSlackOf.f
  by_cases hb2 : (l2.length : Int) > 1048576
  case pos => exact L.Ev.ifp hb2 (Ev.now true)
  refine L.Ev.ifn hb2 ?_
  have hn2 : l2.length ≤ 1048576 := by omega
  refine L.Ev.bindc (szOrder_eq a0 l0 1048576 (by omega) m0) ?_
  by_cases hb0 : (l0.length : Int) ≤ 1048576
  case neg => rw [if_neg hb0]; exact L.Ev.ifp (by omega) (Ev.now true)
  rw [if_pos hb0]
  refine L.Ev.ifn (by omega) ?_
  have hn0 : l0.length ≤ 1048576 := by omega
  obtain ⟨r0, r1, hs, hi⟩ := SlackOf_both a0 l0 w0a hn0 w0 a1 w1 l2 hn2 w2
  repeat' (first
    | exact Ev.now true
    | exact Ev.now _
    | with_reducible exact rfl
    | (with_reducible refine Ev.bind hs ?_)
    | (with_reducible refine Ev.bind hi ?_)
    | (with_reducible refine Ev.bind (toIntS_ev _ ?hs1) ?_; (case hs1 => first | omega | (dsimp only; omega)))
    | (with_reducible refine Ev.bind (eqIntS_self _ ?hs1) ?_; (case hs1 => first | omega | (dsimp only; omega)))
    | (with_reducible refine Ev.bind (toOrder_ev _ _ ?hs1) ?_; (case hs1 => first | omega | (dsimp only; omega)))
    | (with_reducible refine Ev.bind (eqOrder_self _ _ ?hs1) ?_; (case hs1 => first | omega | (dsimp only; omega)))
    | (refine L.Ev.ifp ?hc ?_; (case hc => first | rfl | omega | (simp; done)))
    | (refine L.Ev.ifn ?hc ?_; (case hc => first | omega | (simp; done)))
    | (refine L.Ev.succ ?_; simp only [laws_FnExactSlackOf.j0])
    | (refine L.Ev.succ ?_; simp only [laws_FnExactSlackOf.j1])
    | (refine L.Ev.succ ?_; simp only [laws_FnExactSlackOf.j2])
    | (refine L.Ev.succ ?_; simp only [laws_FnExactSlackOf.j3])
    | (refine L.Ev.succ ?_; simp only [laws_FnExactSlackOf.j4]))
end Go.Proofs.YtbodhioladafnaaDoor.P
