/- The plain laws behind FnExactFindPattern, in one text (merged by wip/merge.py). -/
import Derived.Test.YtcjphppldjghiaaLib
import Derived.Test.YtcjphppldjghiaaPx3
import Derived.Test.YtcjphppldjghiaaPx2
import Derived.Test.YtcjphppldjghiaaPx10
import Derived.Test.YtcjphppldjghiaaPx12
import Derived.Test.YtcjphppldjghiaaPx1
import Derived.Test.YtcjphppldjghiaaPx7
import Derived.Test.YtcjphppldjghiaaPx4
import Derived.Test.YtcjphppldjghiaaPx9
import Derived.Test.YtcjphppldjghiaaPx6
import Derived.Test.YtcjphppldjghiaaPx5
import Derived.Test.YtcjphppldjghiaaPx8
import Derived.Test.YtcjphppldjghiaaRowLib
import Derived.Test.YtcjphppldjghiaaPx13
/-! ### PuInts -/
/- Plain laws of the copies and comparisons of rows of whole numbers; no conditions beyond the rows' lengths. -/
namespace Go.Proofs.Ytcjphppldjghiaa.P
open Go.RowKit Go.Proofs.YtcjphppldjghiaaW.PrintWords Go.Proofs.YtcjphppldjghiaaW.PrintLast Go.Proofs.YtcjphppldjghiaaW.PrintMore L
set_option linter.unusedVariables false
set_option linter.unusedSimpArgs false
theorem toIntS_ev (l : List Int) (hl : l.length ≤ 35184372088832) : Ev (fun k => laws_toIntS.f k l) l := by
  have key : ∀ i, i ≤ l.length → Ev (fun k => laws_toIntS.l0 k l (l.take i ++ List.replicate (l.length - i) 0) (i : Int)) l := by
    refine L.down ?_ fun i hi ih => ?_
    · refine L.Ev.succ ?_
      simp only [laws_toIntS.l0]
      refine L.Ev.ifn (by omega) ?_
      rw [Nat.sub_self, List.take_of_length_le (Nat.le_refl _)]
      simp only [List.replicate_zero, List.append_nil]
      exact Ev.now l
    · refine L.Ev.succ ?_
      simp only [laws_toIntS.l0]
      refine L.Ev.ifp (by omega) (L.Ev.ifp (by omega) (L.Ev.ifp ?_ ?_))
      · simp only [List.length_append, List.length_take, List.length_replicate]; omega
      · have e : (l.take i ++ List.replicate (l.length - i) 0).set i (rd l (i : Int)) = l.take (i + 1) ++ List.replicate (l.length - (i + 1)) 0 := by
          rw [L.rd_get hi]
          refine List.ext_getElem? fun j => ?_
          rw [List.getElem?_set]
          by_cases hj : i = j
          · subst hj
            rw [if_pos rfl, if_pos (by simp only [List.length_append, List.length_take, List.length_replicate]; omega), List.getElem?_append_left (by simp only [List.length_take]; omega), List.getElem?_take, if_pos (by omega), List.getElem?_eq_getElem hi]
          · rw [if_neg hj]
            by_cases h1 : j < i
            · rw [List.getElem?_append_left (by simp only [List.length_take]; omega), List.getElem?_append_left (by simp only [List.length_take]; omega), List.getElem?_take, List.getElem?_take, if_pos h1, if_pos (by omega)]
            · rw [List.getElem?_append_right (by simp only [List.length_take]; omega), List.getElem?_append_right (by simp only [List.length_take]; omega)]
              simp only [List.length_take, List.getElem?_replicate]
              by_cases h2 : j < l.length
              · rw [if_pos (by omega), if_pos (by omega)]
              · rw [if_neg (by omega), if_neg (by omega)]
        refine Ev.congr (fun k => ?_) ih
        rw [L.w64n (by omega), Int.toNat_natCast, e]
  refine Ev.congr (fun k => ?_) (key 0 (by omega))
  unfold laws_toIntS.f
  rw [if_pos (by omega), if_pos (by omega)]
  simp
theorem eqIntS_ev (l m : List Int) (hl : l.length ≤ 9223372036854775806) : Ev (fun k => laws_eqIntS.f k l m) (decide (l = m)) := by
  by_cases hlen : l.length = m.length
  · have key : ∀ i, i ≤ l.length → Ev (fun k => laws_eqIntS.l0 k l m (i : Int)) (decide (l.drop i = m.drop i)) := by
      refine L.down ?_ fun i hi ih => ?_
      · refine L.Ev.succ ?_
        simp only [laws_eqIntS.l0]
        refine L.Ev.ifn (by omega) ?_
        rw [List.drop_eq_nil_of_le (Nat.le_refl _), List.drop_eq_nil_of_le (by omega)]
        exact Ev.now _
      · refine L.Ev.succ ?_
        simp only [laws_eqIntS.l0]
        refine L.Ev.ifp (by omega) (L.Ev.ifp (by omega) (L.Ev.ifp (by omega) ?_))
        rw [L.rd_get hi, L.rd_get (l := m) (by omega), List.drop_eq_getElem_cons hi, List.drop_eq_getElem_cons (l := m) (by omega)]
        by_cases e : l[i] = m[i]'(by omega)
        · refine L.Ev.ifp e ?_
          refine Ev.congr (fun k => by rw [L.w64n (by omega)]) ?_
          have e2 : (l[i] :: List.drop (i + 1) l = m[i]'(by omega) :: List.drop (i + 1) m) = (List.drop (i + 1) l = List.drop (i + 1) m) := propext ⟨fun h => (List.cons.inj h).2, fun h => by rw [e, h]⟩
          simp only [e2]
          exact ih
        · refine L.Ev.ifn e ?_
          simp only [List.cons.injEq, e, false_and, decide_false]
          exact Ev.now _
    have h := key 0 (by omega)
    refine Ev.congr (fun k => ?_) h
    unfold laws_eqIntS.f
    rw [if_pos (by omega)]; rfl
  · have e : l ≠ m := fun h => hlen (by rw [h])
    refine Ev.congr (fun k => ?_) (f := fun _ => some false) (by simp only [e, decide_false]; exact Ev.now _)
    unfold laws_eqIntS.f
    rw [if_neg (by omega)]
theorem eqIntS_self (l : List Int) (hl : l.length ≤ 9223372036854775806) : Ev (fun k => laws_eqIntS.f k l l) true := by
  have h := eqIntS_ev l l hl
  simpa using h
end Go.Proofs.Ytcjphppldjghiaa.P

/-! ### PuOrder -/
/- Plain laws of the copies and comparisons of relations; no conditions beyond the rows' lengths. -/
namespace Go.Proofs.Ytcjphppldjghiaa.P
open Go.RowKit Go.Proofs.YtcjphppldjghiaaW.PrintWords Go.Proofs.YtcjphppldjghiaaW.PrintLast Go.Proofs.YtcjphppldjghiaaW.PrintMore L
set_option linter.unusedVariables false
set_option linter.unusedSimpArgs false
theorem szIntS_eq (l : List Int) (a : Int) (ha : 0 ≤ a ∧ a ≤ 1048576) (hl : l.length ≤ 9223372036854775807) : laws_szIntS.f l a = some (if (l.length : Int) ≤ a then a - l.length else -1) := by
  unfold laws_szIntS.f
  rw [L.w64 (by omega) (by omega)]
  by_cases h : (l.length : Int) ≤ a
  · rw [if_neg (by omega), if_pos h]
  · rw [if_pos (by omega), if_neg h]
theorem szOrder_eq (n : Int) (l : List Int) (a : Int) (ha : 0 ≤ a ∧ a ≤ 1048576) (hl : l.length ≤ 9223372036854775807) : laws_szOrder.f n l a = some (if (l.length : Int) ≤ a then a - l.length else -1) := by
  unfold laws_szOrder.f
  rw [szIntS_eq l a ha hl]
  simp only [Option.bind_some]
  by_cases h : (l.length : Int) ≤ a
  · rw [if_pos h, if_neg (by omega)]
  · rw [if_neg h, if_pos (by omega)]
theorem toOrder_ev (n : Int) (l : List Int) (hl : l.length ≤ 35184372088832) : Ev (fun k => laws_toOrder.f k n l) (n, l) := by
  unfold laws_toOrder.f
  exact Ev.bind (toIntS_ev l hl) (Ev.now _)
theorem eqOrder_ev (n : Int) (l : List Int) (m : Int) (o : List Int) (hl : l.length ≤ 9223372036854775806) : Ev (fun k => laws_eqOrder.f k n l m o) (decide (n = m ∧ l = o)) := by
  unfold laws_eqOrder.f
  by_cases h : n = m
  · refine L.Ev.ifp h ?_
    refine Ev.bind (eqIntS_ev l o hl) ?_
    by_cases h2 : l = o
    · simp only [h, h2, and_self, decide_true, if_true]; exact Ev.now _
    · simp only [h2, and_false, decide_false]; exact L.Ev.ifn (by simp) (Ev.now _)
  · refine L.Ev.ifn h ?_
    simp only [h, false_and, decide_false]
    exact Ev.now _
theorem eqOrder_self (n : Int) (l : List Int) (hl : l.length ≤ 9223372036854775806) : Ev (fun k => laws_eqOrder.f k n l n l) true := by
  have h := eqOrder_ev n l n l hl
  simpa using h
end Go.Proofs.Ytcjphppldjghiaa.P

/-! ### PuMark -/
/- Plain laws of the marks that are laid into rows of whole numbers and looked for again; no conditions beyond the rows' lengths. -/
namespace Go.Proofs.Ytcjphppldjghiaa.P
open Go.RowKit Go.Proofs.YtcjphppldjghiaaW.PrintWords Go.Proofs.YtcjphppldjghiaaW.PrintLast Go.Proofs.YtcjphppldjghiaaW.PrintMore L
set_option linter.unusedVariables false
set_option linter.unusedSimpArgs false
/-- a, a + 1, .. -/
def marks (a : Int) (n : Nat) : List Int := (List.range n).map fun (i : Nat) => a + (i : Int)
theorem marks_length (a : Int) (n : Nat) : (marks a n).length = n := by simp [marks]
theorem markIntS_ev (l : List Int) (a : Int) (ha : 0 ≤ a ∧ a ≤ 4194304) (hl : l.length ≤ 1048576) : Ev (fun k => laws_markIntS.f k l a) (a + l.length, marks a l.length) := by
  have key : ∀ i, i ≤ l.length → Ev (fun k => laws_markIntS.l0 k (marks a i ++ l.drop i) (a + i) (i : Int)) (a + l.length, marks a l.length) := by
    refine L.down ?_ fun i hi ih => ?_
    · refine L.Ev.succ ?_
      simp only [laws_markIntS.l0]
      rw [List.drop_eq_nil_of_le (Nat.le_refl _), List.append_nil]
      refine L.Ev.ifn (by rw [marks_length]; omega) ?_
      exact Ev.now _
    · refine L.Ev.succ ?_
      simp only [laws_markIntS.l0]
      refine L.Ev.ifp (by rw [List.length_append, marks_length, List.length_drop]; omega) (L.Ev.ifp (by omega) ?_)
      have e : (marks a i ++ l.drop i).set i (a + i) = marks a (i + 1) ++ l.drop (i + 1) := by
        refine List.ext_getElem? fun j => ?_
        rw [List.getElem?_set]
        by_cases hj : i = j
        · subst hj
          rw [if_pos rfl, if_pos (by rw [List.length_append, marks_length, List.length_drop]; omega), List.getElem?_append_left (by rw [marks_length]; omega)]
          simp [marks]
        · rw [if_neg hj]
          by_cases h1 : j < i
          · rw [List.getElem?_append_left (by rw [marks_length]; omega), List.getElem?_append_left (by rw [marks_length]; omega)]
            simp [marks, h1, show j < i + 1 by omega]
          · rw [List.getElem?_append_right (by rw [marks_length]; omega), List.getElem?_append_right (by rw [marks_length]; omega), marks_length, marks_length, List.getElem?_drop, List.getElem?_drop]
            congr 1; omega
      refine Ev.congr (fun k => ?_) ih
      rw [L.w64n (n := i) (by omega), L.w64 (x := a + i + 1) (by omega) (by omega), Int.toNat_natCast, e]
      congr 1; omega
  refine Ev.congr (fun k => ?_) (key 0 (by omega))
  unfold laws_markIntS.f
  simp [marks]
theorem heldIntS_ev (l : List Int) (a : Int) (ha : 0 ≤ a ∧ a ≤ 4194304) (hl : l.length ≤ 1048576) : Ev (fun k => laws_heldIntS.f k l a) (if l = marks a l.length then a + l.length else -1) := by
  by_cases hm : l = marks a l.length
  · rw [if_pos hm]
    have key : ∀ i, i ≤ l.length → Ev (fun k => laws_heldIntS.l0 k l (a + i) (i : Int)) (a + l.length) := by
      refine L.down ?_ fun i hi ih => ?_
      · refine L.Ev.succ ?_
        simp only [laws_heldIntS.l0]
        refine L.Ev.ifn (by omega) ?_
        exact Ev.now _
      · refine L.Ev.succ ?_
        simp only [laws_heldIntS.l0]
        refine L.Ev.ifp (by omega) (L.Ev.ifp (by omega) (L.Ev.ifp ?_ ?_))
        · rw [L.rd_nat]
          have e : l.getD i 0 = (marks a l.length).getD i 0 := by rw [← hm]
          rw [e, List.getD_eq_getElem?_getD]
          simp [marks, hi]
        · refine Ev.congr (fun k => ?_) ih
          rw [L.w64n (n := i) (by omega), L.w64 (x := a + i + 1) (by omega) (by omega)]
          congr 1; omega
    exact Ev.congr (fun k => by unfold laws_heldIntS.f; simp) (key 0 (by omega))
  · rw [if_neg hm]
    have key : ∀ i, i ≤ l.length → (∀ j, j < i → l.getD j 0 = a + j) → Ev (fun k => laws_heldIntS.l0 k l (a + i) (i : Int)) (-1) := by
      refine L.down ?_ fun i hi ih => ?_
      · intro h
        refine absurd ?_ hm
        refine List.ext_getElem? fun j => ?_
        by_cases hj : j < l.length
        · have := h j hj
          rw [List.getD_eq_getElem?_getD, List.getElem?_eq_getElem hj] at this
          rw [List.getElem?_eq_getElem hj]
          simp only [Option.getD_some] at this
          simp [marks, hj, this]
        · rw [List.getElem?_eq_none (by omega), List.getElem?_eq_none (by rw [marks_length]; omega)]
      · intro h
        refine L.Ev.succ ?_
        simp only [laws_heldIntS.l0]
        refine L.Ev.ifp (by omega) (L.Ev.ifp (by omega) ?_)
        by_cases e : rd l (i : Int) = a + i
        · refine L.Ev.ifp e ?_
          refine Ev.congr (fun k => ?_) (ih fun j hj => ?_)
          · rw [L.w64n (n := i) (by omega), L.w64 (x := a + i + 1) (by omega) (by omega)]
            congr 1; omega
          · by_cases hji : j = i
            · rw [hji, ← L.rd_nat]; exact e
            · exact h j (by omega)
        · exact L.Ev.ifn e (Ev.now _)
    exact Ev.congr (fun k => by unfold laws_heldIntS.f; simp) (key 0 (by omega) (by omega))
theorem held_marks (a : Int) (n : Nat) (ha : 0 ≤ a ∧ a ≤ 4194304) (hn : n ≤ 1048576) : Ev (fun k => laws_heldIntS.f k (marks a n) a) (a + n) := by
  have h := heldIntS_ev (marks a n) a ha (by rw [marks_length]; omega)
  rw [marks_length, if_pos rfl] at h
  exact h
end Go.Proofs.Ytcjphppldjghiaa.P

/-! ### PuMarkO -/
/- Plain laws of the marks that are laid into relations and looked for again; no conditions beyond the rows' lengths. -/
namespace Go.Proofs.Ytcjphppldjghiaa.P
open Go.RowKit Go.Proofs.YtcjphppldjghiaaW.PrintWords Go.Proofs.YtcjphppldjghiaaW.PrintLast Go.Proofs.YtcjphppldjghiaaW.PrintMore L
set_option linter.unusedVariables false
set_option linter.unusedSimpArgs false
theorem markOrder_ev (n : Int) (l : List Int) (a : Int) (ha : 0 ≤ a ∧ a ≤ 4194304) (hl : l.length ≤ 1048576) : Ev (fun k => laws_markOrder.f k n l a) (a + l.length, marks a l.length) := by
  unfold laws_markOrder.f
  exact Ev.bind (markIntS_ev l a ha hl) (Ev.now _)
end Go.Proofs.Ytcjphppldjghiaa.P

/-! ### PuRel0 -/
/- Plain laws: which lists are relations. -/
namespace Go.Proofs.Ytcjphppldjghiaa.P
open Go.RowKit Go.Proofs.YtcjphppldjghiaaW.PrintWords Go.Proofs.YtcjphppldjghiaaW.PrintLast Go.Proofs.YtcjphppldjghiaaW.PrintMore L
set_option linter.unusedVariables false
set_option linter.unusedSimpArgs false
/-- the numbers of a relation. -/
def isRel (n : Int) (l : List Int) : Bool := decide (0 ≤ n ∧ n ≤ 10 ∧ (l.length : Int) = n ∧ ∀ x ∈ l, 0 ≤ x ∧ x < 2 ^ n.toNat)
theorem isRel_iff (n : Int) (l : List Int) : isRel n l = true ↔ 0 ≤ n ∧ n ≤ 10 ∧ (l.length : Int) = n ∧ ∀ x ∈ l, 0 ≤ x ∧ x < 2 ^ n.toNat := by simp [isRel]
theorem isRel_big {n : Nat} {l : List Int} (h : isRel n l = true) : ∀ x ∈ l, 0 ≤ x ∧ x < 1024 := by
  obtain ⟨h0, h1, h2, h3⟩ := (isRel_iff _ _).1 h
  intro x hx
  obtain ⟨a, b⟩ := h3 x hx
  have : (2 : Int) ^ (n : Int).toNat ≤ 2 ^ 10 := by
    have := Nat.pow_le_pow_right (n := 2) (by decide) (show (n : Int).toNat ≤ 10 by omega)
    exact_mod_cast this
  omega
theorem isRel_ok {n : Int} {l : List Int} (h : isRel n l = true) : L.okRel n l := by
  obtain ⟨h0, h1, h2, h3⟩ := (isRel_iff _ _).1 h
  obtain ⟨m, rfl⟩ := Int.eq_ofNat_of_zero_le h0
  refine ⟨h0, by omega, h2, fun x hx => ?_⟩
  have := isRel_big h x hx
  omega
end Go.Proofs.Ytcjphppldjghiaa.P

/-! ### PuWithin -/
/- Plain laws: numbers between two numbers, in the program and in the reference. -/
namespace Go.Proofs.Ytcjphppldjghiaa.P
open Go.RowKit Go.Proofs.YtcjphppldjghiaaW.PrintWords Go.Proofs.YtcjphppldjghiaaW.PrintLast Go.Proofs.YtcjphppldjghiaaW.PrintMore L
set_option linter.unusedVariables false
set_option linter.unusedSimpArgs false
theorem within_eq (a b c : Int) : impl_within.f a b c = some (decide (b ≤ a ∧ a ≤ c)) := by
  unfold impl_within.f
  by_cases h : a ≥ b
  · rw [if_pos h]; congr 1; simp; omega
  · rw [if_neg h]; congr 1; simp; omega
theorem l1In_eq (a b c : Int) : spec_l1In.f a b c = some (decide (b ≤ a ∧ a ≤ c)) := within_eq a b c
end Go.Proofs.Ytcjphppldjghiaa.P

/-! ### PuRel -/
/- Plain laws: which lists are relations, for the program and the reference alike; conditions: the numbers are 64-bit numbers. -/
namespace Go.Proofs.Ytcjphppldjghiaa.P
open Go.RowKit Go.Proofs.YtcjphppldjghiaaW.PrintWords Go.Proofs.YtcjphppldjghiaaW.PrintLast Go.Proofs.YtcjphppldjghiaaW.PrintMore L
set_option linter.unusedVariables false
set_option linter.unusedSimpArgs false
/-- all of a list lie between two numbers. -/
def allIn (l : List Int) (b c : Int) : Bool := l.all fun x => decide (b ≤ x ∧ x ≤ c)
theorem allIn_iff (l : List Int) (b c : Int) : allIn l b c = true ↔ ∀ x ∈ l, b ≤ x ∧ x ≤ c := by simp [allIn]
theorem allIn_step (l : List Int) (b c : Int) (i : Nat) (hi : i < l.length) : allIn (l.drop i) b c = (decide (b ≤ l[i] ∧ l[i] ≤ c) && allIn (l.drop (i + 1)) b c) := by
  unfold allIn; rw [List.drop_eq_getElem_cons hi, List.all_cons]
theorem allWithin_ev (l : List Int) (b c : Int) (hl : l.length ≤ 9223372036854775806) : Ev (fun k => impl_allWithin.f k l b c) (allIn l b c) := by
  have key : ∀ i, i ≤ l.length → Ev (fun k => impl_allWithin.l0 k b c l (l.length : Int) (i : Int)) (allIn (l.drop i) b c) := by
    refine L.down ?_ fun i hi ih => ?_
    · refine L.Ev.succ ?_
      simp only [impl_allWithin.l0]
      refine L.Ev.ifn (by omega) ?_
      rw [List.drop_eq_nil_of_le (Nat.le_refl _)]
      exact Ev.now _
    · refine L.Ev.succ ?_
      simp only [impl_allWithin.l0]
      refine L.Ev.ifp (by omega) (L.Ev.ifp (by omega) (L.Ev.ifp (by omega) (L.Ev.bindc (within_eq _ _ _) ?_)))
      rw [allIn_step l b c i hi, L.rd_get hi]
      by_cases h : b ≤ l[i] ∧ l[i] ≤ c
      · refine L.Ev.ifp (by simpa using h) ?_
        simp only [h, and_self, decide_true, Bool.true_and]
        exact Ev.congr (fun k => by rw [L.w64n (by omega)]) ih
      · refine L.Ev.ifn (by simpa using h) ?_
        simp only [h, decide_false, Bool.false_and]
        exact Ev.now _
  exact key 0 (by omega)
theorem l1All_same : ∀ k a b c d e, spec_l1All.l0 k a b c d e = impl_allWithin.l0 k a b c d e := by
  intro k
  induction k with
  | zero => intros; rfl
  | succ k ih => intro a b c d e; simp only [spec_l1All.l0, impl_allWithin.l0, ih, l1In_eq, within_eq]
theorem l1All_ev (l : List Int) (b c : Int) (hl : l.length ≤ 9223372036854775806) : Ev (fun k => spec_l1All.f k l b c) (allIn l b c) :=
  Ev.congr (fun k => l1All_same k b c l _ _) (allWithin_ev l b c hl)
theorem IsRelation_ev (n : Int) (l : List Int) (hl : l.length ≤ 9223372036854775806) : Ev (fun k => impl_IsRelation.f k n l) (isRel n l) := by
  unfold impl_IsRelation.f
  refine L.Ev.bindc (within_eq _ _ _) ?_
  by_cases h : 0 ≤ n ∧ n ≤ 10
  · refine L.Ev.ifp (by simpa using h) ?_
    by_cases h2 : (l.length : Int) = n
    · refine L.Ev.ifp h2 (L.Ev.ifp h.1 ?_)
      obtain ⟨m, rfl⟩ := Int.eq_ofNat_of_zero_le h.1
      have e : wrap64 (shl .i64 1 (m : Int) - 1) = 2 ^ m - 1 := by
        rw [L.shl_one (by omega)]
        have h1 : (2 : Nat) ^ m ≤ 2 ^ 10 := Nat.pow_le_pow_right (by decide) (by omega)
        have e3 : ((2 ^ m : Nat) : Int) = 2 ^ m := by push_cast; rfl
        rw [← e3]
        generalize (2 : Nat) ^ m = z at *
        rw [L.w64 (by omega) (by omega)]
      have e2 : isRel (m : Int) l = allIn l 0 (2 ^ m - 1) := by
        rw [Bool.eq_iff_iff, isRel_iff, allIn_iff, Int.toNat_natCast]
        constructor
        · rintro ⟨_, _, _, h4⟩ x hx
          have := h4 x hx
          omega
        · intro h4
          refine ⟨h.1, h.2, h2, fun x hx => ?_⟩
          have := h4 x hx
          omega
      refine Ev.congr (fun k => ?_) (Ev.bind (allWithin_ev l 0 (2 ^ m - 1) hl) (f := fun _ t => some t) (r := isRel (m : Int) l) (by rw [e2]; exact Ev.now _))
      rw [e]
    · refine L.Ev.ifn h2 ?_
      have e : isRel n l = false := by
        rw [← Bool.not_eq_true, isRel_iff]; rintro ⟨_, _, h3, _⟩; exact h2 h3
      rw [e]; exact Ev.now _
  · refine L.Ev.ifn (by simpa using h) ?_
    have e : isRel n l = false := by
      rw [← Bool.not_eq_true, isRel_iff]; rintro ⟨h3, h4, _⟩; exact h ⟨h3, h4⟩
    rw [e]; exact Ev.now _
theorem orRelation_ev (n : Int) (l : List Int) (hl : l.length ≤ 9223372036854775806) : Ev (fun k => spec_orRelation.f k n l) (isRel n l) := by
  refine Ev.congr (fun k => ?_) (IsRelation_ev n l hl)
  unfold spec_orRelation.f impl_IsRelation.f
  simp only [l1In_eq, within_eq]
  have e : ∀ b c, spec_l1All.f k l b c = impl_allWithin.f k l b c := fun b c => l1All_same k b c l _ _
  simp only [e]
end Go.Proofs.Ytcjphppldjghiaa.P

/-! ### PuSearch -/
/- Plain laws: the first list of numbers that fit one behind the other; it is found if there is one. -/
namespace Go.Proofs.Ytcjphppldjghiaa.Srch
set_option linter.unusedVariables false
set_option linter.unusedSimpArgs false
/-- the first list that goes on another one, each number less than w, fitting behind those ahead of it. -/
def go (fits : List Nat → Nat → Bool) (w : Nat) : Nat → List Nat → Option (List Nat)
  | 0, l => some l
  | d + 1, l => (List.range w).findSome? fun k => if fits l k = true then go fits w d (l ++ [k]) else none
theorem go_succ (fits : List Nat → Nat → Bool) (w d : Nat) (l : List Nat) : go fits w (d + 1) l = (List.range w).findSome? fun k => if fits l k = true then go fits w d (l ++ [k]) else none := rfl
theorem go_len (fits : List Nat → Nat → Bool) (w : Nat) : ∀ d l r, go fits w d l = some r → r.length = l.length + d
  | 0, l, r, h => by cases h; rfl
  | d + 1, l, r, h => by
    rw [go_succ] at h
    obtain ⟨k, _, h2⟩ := List.exists_of_findSome?_eq_some h
    split at h2
    · have := go_len fits w d _ r h2
      simp at this; omega
    · cases h2
theorem go_mem (fits : List Nat → Nat → Bool) (w : Nat) : ∀ d l r, (∀ x ∈ l, x < w) → go fits w d l = some r → ∀ x ∈ r, x < w
  | 0, l, r, hl, h => by cases h; exact hl
  | d + 1, l, r, hl, h => by
    rw [go_succ] at h
    obtain ⟨k, hk, h2⟩ := List.exists_of_findSome?_eq_some h
    split at h2
    · exact go_mem fits w d _ r (fun x hx => by
        rcases List.mem_append.1 hx with hx | hx
        · exact hl x hx
        · have : x = k := by simpa using hx
          subst this; exact List.mem_range.1 hk) h2
    · cases h2
theorem go_some {fits : List Nat → Nat → Bool} {w : Nat} (c : Nat → Nat) (m : Nat) (hc : ∀ i, i < m → c i < w ∧ fits ((List.range i).map c) (c i) = true) :
    ∀ d i, i + d = m → (go fits w d ((List.range i).map c)).isSome = true
  | 0, i, _ => rfl
  | d + 1, i, h => by
    obtain ⟨h1, h2⟩ := hc i (by omega)
    have ih := go_some c m hc d (i + 1) (by omega)
    rw [List.range_succ, List.map_append] at ih
    rw [go_succ, List.findSome?_isSome_iff]
    exact ⟨c i, List.mem_range.2 h1, by rw [if_pos h2]; exact ih⟩
end Go.Proofs.Ytcjphppldjghiaa.Srch

/-! ### PuPattern -/
/- Plain laws: the first list of elements that are as a pattern, in the program and in the reference. -/
namespace Go.Proofs.Ytcjphppldjghiaa.P
open Go.RowKit Go.Proofs.YtcjphppldjghiaaW.PrintWords Go.Proofs.YtcjphppldjghiaaW.PrintLast Go.Proofs.YtcjphppldjghiaaW.PrintMore L
set_option linter.unusedVariables false
set_option linter.unusedSimpArgs false
theorem pat_nat {n : Int} {l : List Int} (h : isRel n l = true) : ∃ m : Nat, n = m ∧ m ≤ 10 ∧ l.length = m := by
  obtain ⟨h0, h1, h2, h3⟩ := (isRel_iff _ _).1 h
  obtain ⟨m, rfl⟩ := Int.eq_ofNat_of_zero_le h0
  exact ⟨m, rfl, by omega, by omega⟩
theorem has_bit {n : Int} {l : List Int} (h : L.okRel n l) (i j : Nat) (hj : j ≤ 64) : spec_orHas.f (rd l (i : Int)) (j : Int) = some (L.bitAt l i j) := by
  unfold spec_orHas.f
  rw [if_pos (by omega), h.bitm i j hj]
theorem better_bit {n : Int} {l : List Int} (h : L.okRel n l) (i j : Nat) (hi : i < l.length) (hj : j ≤ 64) : impl_Order_better.f n l (i : Int) (j : Int) = some (L.bitAt l i j) := by
  unfold impl_Order_better.f
  rw [if_pos (by omega), if_pos (by omega), if_pos (by omega), h.bit i j hj]
/-- an element beside one of the list is as in the pattern. -/
def fitsG (lo lp : List Int) (s : List Nat) (i a : Nat) : Bool := (L.bitAt lo i (s.getD a 0) == L.bitAt lp s.length a) && (L.bitAt lo (s.getD a 0) i == L.bitAt lp a s.length)
def fitsA (lo lp : List Int) (s : List Nat) (i a : Nat) : Bool := !decide (s.getD a 0 = i) && fitsG lo lp s i a
def fitsE (lo lp : List Int) (s : List Nat) (i : Nat) : Bool := L.bitAt lo i i == L.bitAt lp s.length s.length
def fitsP (lo lp : List Int) (s : List Nat) (i : Nat) : Bool := (List.range s.length).all (fitsA lo lp s i) && fitsE lo lp s i
theorem pat_drop (f : Nat → Bool) (n i : Nat) (hi : i < n) : ((List.range n).drop i).all f = (f i && ((List.range n).drop (i + 1)).all f) := by
  rw [List.drop_eq_getElem_cons (by simpa using hi), List.all_cons]; simp
theorem pat_end (f : Nat → Bool) (n : Nat) : ((List.range n).drop n).all f = true := by rw [List.drop_eq_nil_of_le (by simp)]; rfl
theorem fits_apart (lo lp : List Int) (s : List Nat) (i : Nat) : fitsP lo lp s i = ((!decide (i ∈ s) && fitsE lo lp s i) && (List.range s.length).all (fitsG lo lp s i)) := by
  have e : (List.range s.length).all (fitsA lo lp s i) = (!decide (i ∈ s) && (List.range s.length).all (fitsG lo lp s i)) := by
    rw [Bool.eq_iff_iff]
    simp only [List.all_eq_true, List.mem_range, fitsA, Bool.and_eq_true, Bool.not_eq_true', decide_eq_false_iff_not]
    constructor
    · intro h
      refine ⟨fun hm => ?_, fun a ha => (h a ha).2⟩
      obtain ⟨a, ha, e⟩ := List.mem_iff_getElem.1 hm
      refine (h a ha).1 ?_
      rw [List.getD_eq_getElem?_getD, List.getElem?_eq_getElem ha]; exact e
    · rintro ⟨h1, h2⟩ a ha
      refine ⟨fun e => h1 ?_, h2 a ha⟩
      rw [List.getD_eq_getElem?_getD, List.getElem?_eq_getElem ha] at e
      have e : s[a] = i := e
      rw [← e]; exact List.getElem_mem ha
  unfold fitsP
  rw [e, Bool.and_right_comm]
theorem getD_lt {s : List Nat} {n a : Nat} (hs : ∀ x ∈ s, x < n) (ha : a < s.length) : s.getD a 0 < n := by
  rw [List.getD_eq_getElem?_getD, List.getElem?_eq_getElem ha]; exact hs _ (List.getElem_mem ha)
section
variable {n m : Nat} {lo lp : List Int} (ho : L.okRel (n : Int) lo) (hp : L.okRel (m : Int) lp) (hn : n ≤ 10) (hm : m ≤ 10)
include ho hp hn hm
theorem orFits_ev (s : List Nat) (i : Nat) (hs : ∀ x ∈ s, x < n) (hi : i < n) (hl : s.length < m) :
    Ev (fun k => spec_orFits.f k (n : Int) lo (m : Int) lp (L.cast s) (i : Int)) (fitsP lo lp s i) := by
  have hno : (lo.length : Int) = n := ho.len
  have hnp : (lp.length : Int) = m := hp.len
  have hc : (L.cast s).length = s.length := L.cast_length s
  have key : ∀ a, a ≤ s.length → Ev (fun k => spec_orFits.l0 k (i : Int) (s.length : Int) (L.cast s) (s.length : Int) (a : Int) (n : Int) lo (m : Int) lp) (((List.range s.length).drop a).all (fitsA lo lp s i) && fitsE lo lp s i) := by
    refine L.down ?_ fun a ha ih => ?_
    · refine L.Ev.succ ?_
      simp only [spec_orFits.l0]
      refine L.Ev.ifn (by omega) (L.Ev.ifp (by omega) (L.Ev.ifp (by omega) (L.Ev.bindc (has_bit ho i i (by omega)) (L.Ev.ifp (by omega) (L.Ev.ifp (by omega) (L.Ev.bindc (has_bit hp s.length s.length (by omega)) ?_))))))
      rw [pat_end, Bool.true_and]
      exact Ev.now _
    · refine L.Ev.succ ?_
      simp only [spec_orFits.l0]
      refine L.Ev.ifp (by omega) (L.Ev.ifp (by omega) (L.Ev.ifp (by omega) ?_))
      rw [pat_drop _ _ a ha, L.rd_cast]
      have hy := getD_lt hs ha
      unfold fitsA fitsG at *
      generalize s.getD a 0 = y at *
      by_cases e : y = i
      · refine L.Ev.ifp (by omega) ?_
        simp only [e, decide_true, Bool.not_true, Bool.false_and]
        exact Ev.now _
      · refine L.Ev.ifn (by omega) (L.Ev.ifp (by omega) (L.Ev.ifp (by omega) (L.Ev.bindc (has_bit ho y i (by omega)) (L.Ev.ifp (by omega) (L.Ev.bindc (has_bit hp a s.length (by omega)) ?_)))))
        simp only [e, decide_false, Bool.not_false, Bool.true_and]
        by_cases e1 : L.bitAt lo y i = L.bitAt lp a s.length
        · refine L.Ev.ifn (by rw [e1]; simp) (L.Ev.ifp (by omega) (L.Ev.ifp (by omega) (L.Ev.bindc (has_bit ho i y (by omega)) (L.Ev.ifp (by omega) (L.Ev.ifp (by omega) (L.Ev.bindc (has_bit hp s.length a (by omega)) ?_))))))
          rw [e1]
          by_cases e2 : L.bitAt lo i y = L.bitAt lp s.length a
          · refine L.Ev.ifn (by rw [e2]; simp) ?_
            rw [e2]
            simp only [beq_self_eq_true, Bool.and_self, Bool.true_and]
            exact Ev.congr (fun k => by rw [L.w64n (by omega)]) ih
          · refine L.Ev.ifp (by simpa using e2) ?_
            rw [beq_eq_false_iff_ne.2 e2, Bool.false_and, Bool.false_and, Bool.false_and]
            exact Ev.now _
        · refine L.Ev.ifp (by simpa using e1) ?_
          rw [beq_eq_false_iff_ne.2 e1, Bool.and_false, Bool.false_and, Bool.false_and]
          exact Ev.now _
  refine Ev.congr (fun k => ?_) (key 0 (by omega))
  unfold spec_orFits.f
  rw [hc]; rfl
/-- what is found, as a list. -/
def outL : Option (List Nat) → List Int
  | none => []
  | some r => L.cast r
omit ho hp hn hm in
theorem cast_snoc (s : List Nat) (i : Nat) : L.cast s ++ [(i : Int)] = L.cast (s ++ [i]) := by simp [L.cast]
omit ho hp hn hm in
theorem own_pat (l : List Int) (hl : l.length ≤ 1048576) : spec_l1Own.f l = some l := by
  unfold spec_l1Own.f
  simp only [Option.bind_some, List.length_nil, List.nil_append]
  rw [if_pos (by omega)]
omit ho hp hn hm in
theorem clone_pat (l : List Int) (hl : l.length ≤ 1048576) : slices_Clone_int_int.f l = some l := by
  unfold slices_Clone_int_int.f
  rw [if_pos (by omega)]
omit ho hp hn hm in
theorem find_drop {α : Type} (f : Nat → Option α) (n i : Nat) (hi : i < n) : ((List.range n).drop i).findSome? f = ((f i).or (((List.range n).drop (i + 1)).findSome? f)) := by
  rw [List.drop_eq_getElem_cons (by simpa using hi), List.findSome?_cons]
  simp only [List.getElem_range]
  cases f i <;> rfl
omit ho hp hn hm in
theorem find_end {α : Type} (f : Nat → Option α) (n : Nat) : ((List.range n).drop n).findSome? f = none := by rw [List.drop_eq_nil_of_le (by simp)]; rfl
theorem orFind_ev : ∀ (d : Nat) (s : List Nat), s.length + d = m → (∀ x ∈ s, x < n) →
    Ev (fun k => spec_orFind.f k (n : Int) lo (m : Int) lp (L.cast s)) (outL (Srch.go (fitsP lo lp) n d s), (Srch.go (fitsP lo lp) n d s).isSome) := by
  intro d
  induction d with
  | zero =>
    intro s hs _
    refine L.Ev.succ ?_
    simp only [spec_orFind.f]
    refine L.Ev.ifp (by rw [L.cast_length]; omega) (Ev.now _)
  | succ d ih =>
    intro s hs hx
    refine L.Ev.succ ?_
    simp only [spec_orFind.f]
    refine L.Ev.ifn (by rw [L.cast_length]; omega) ?_
    rw [Srch.go_succ]
    have key : ∀ i, i ≤ n → Ev (fun k => spec_orFind.l0 k (L.cast s) (i : Int) (n : Int) lo (m : Int) lp)
        (outL (((List.range n).drop i).findSome? fun k => if fitsP lo lp s k = true then Srch.go (fitsP lo lp) n d (s ++ [k]) else none), (((List.range n).drop i).findSome? fun k => if fitsP lo lp s k = true then Srch.go (fitsP lo lp) n d (s ++ [k]) else none).isSome) := by
      refine L.down ?_ fun i hi ih2 => ?_
      · refine L.Ev.succ ?_
        simp only [spec_orFind.l0]
        rw [find_end]
        exact L.Ev.ifn (by omega) (Ev.now _)
      · refine L.Ev.succ ?_
        simp only [spec_orFind.l0]
        rw [find_drop _ _ i hi]
        refine L.Ev.ifp (by omega) (Ev.bind (orFits_ev ho hp hn hm s i hx hi (by omega)) ?_)
        by_cases hf : fitsP lo lp s i = true
        · rw [if_pos hf]
          refine L.Ev.ifp hf (L.Ev.bindc (own_pat _ (by rw [L.cast_length]; omega)) ?_)
          simp only [Option.bind_some]
          refine L.Ev.ifp (by rw [L.cast_length]; simp; omega) ?_
          rw [cast_snoc]
          refine Ev.bind (ih (s ++ [i]) (by simp; omega) (fun x h => ?_)) ?_
          · rcases List.mem_append.1 h with h | h
            · exact hx x h
            · have : x = i := by simpa using h
              omega
          cases hg : Srch.go (fitsP lo lp) n d (s ++ [i]) with
          | none =>
            refine L.Ev.ifn (by simp) ?_
            simp only [Option.none_or]
            exact Ev.congr (fun k => by rw [L.w64n (by omega)]) ih2
          | some r =>
            refine L.Ev.ifp (by simp) ?_
            simp only [Option.some_or]
            exact Ev.now _
        · rw [if_neg hf]
          refine L.Ev.ifn hf ?_
          simp only [Option.none_or]
          exact Ev.congr (fun k => by rw [L.w64n (by omega)]) ih2
    exact key 0 (by omega)
omit ho hp hn hm in
theorem contains_ev (s : List Nat) (i : Nat) (hl : s.length ≤ 1048576) : Ev (fun k => slices_Contains_int_int.f k (L.cast s) (i : Int)) (decide (i ∈ s)) := by
  have hc : (L.cast s).length = s.length := L.cast_length s
  have key : ∀ a, a ≤ s.length → ∃ r : Int, Ev (fun k => slices_Index_int_int.l0 k (L.cast s) (i : Int) (s.length : Int) (a : Int)) r ∧ (decide (r ≥ 0) = decide (i ∈ s.drop a)) := by
    refine L.down ?_ fun a ha ih => ?_
    · refine ⟨-1, ?_, by simp⟩
      refine L.Ev.succ ?_
      simp only [slices_Index_int_int.l0]
      exact L.Ev.ifn (by omega) (Ev.now _)
    · by_cases e : s[a] = i
      · refine ⟨a, ?_, by rw [List.drop_eq_getElem_cons ha]; simp [e]⟩
        refine L.Ev.succ ?_
        simp only [slices_Index_int_int.l0]
        refine L.Ev.ifp (by omega) (L.Ev.ifp (by omega) (L.Ev.ifp (by omega) (L.Ev.ifp ?_ (Ev.now _))))
        rw [L.rd_cast, List.getD_eq_getElem?_getD, List.getElem?_eq_getElem ha]
        simp [e]
      · obtain ⟨r, hr, hd⟩ := ih
        refine ⟨r, ?_, ?_⟩
        · refine L.Ev.succ ?_
          simp only [slices_Index_int_int.l0]
          refine L.Ev.ifp (by omega) (L.Ev.ifp (by omega) (L.Ev.ifp (by omega) (L.Ev.ifn ?_ ?_)))
          · rw [L.rd_cast, List.getD_eq_getElem?_getD, List.getElem?_eq_getElem ha]
            simp only [Option.getD_some]; omega
          · exact Ev.congr (fun k => by rw [L.w64n (by omega)]) hr
        · have : ¬ i = s[a] := fun h => e h.symm
          rw [hd, decide_eq_decide, List.drop_eq_getElem_cons ha, List.mem_cons]
          simp [this]
  obtain ⟨r, hr, hd⟩ := key 0 (by omega)
  rw [List.drop_zero] at hd
  unfold slices_Contains_int_int.f slices_Index_int_int.f
  rw [hc, ← hd]
  exact Ev.bind hr (Ev.now _)
/-- the loop over the list, with what comes behind it. -/
theorem inner_ev (s : List Nat) (i : Nat) (z : Int) (r : List Int) (hs : ∀ x ∈ s, x < n) (hi : i < n) (hl : s.length < m) (F : Bool)
    (hend : Ev (fun k => impl_Order_pattern_1.l1 k (L.cast s) (s.length : Int) (i : Int) F (n : Int) (i : Int) (L.cast s) (s.length : Int) (s.length : Int) (m : Int) lp (n : Int) lo z) r) :
    ∀ a, a ≤ s.length → ∀ b : Bool, (b && ((List.range s.length).drop a).all (fitsG lo lp s i)) = F → Ev (fun k => impl_Order_pattern_1.l1 k (L.cast s) (s.length : Int) (i : Int) b (n : Int) (i : Int) (L.cast s) (s.length : Int) (a : Int) (m : Int) lp (n : Int) lo z) r := by
  have hno : (lo.length : Int) = n := ho.len
  have hnp : (lp.length : Int) = m := hp.len
  have hc : (L.cast s).length = s.length := L.cast_length s
  refine L.down ?_ fun a ha ih => ?_
  · intro b hb
    rw [pat_end, Bool.and_true] at hb
    rw [hb]; exact hend
  · intro b hb
    rw [pat_drop _ _ a ha] at hb
    refine L.Ev.succ ?_
    simp only [impl_Order_pattern_1.l1]
    refine L.Ev.ifp (by omega) (L.Ev.ifp (by omega) (L.Ev.ifp (by omega) ?_))
    rw [L.rd_cast]
    have hy := getD_lt hs ha
    unfold fitsG at hb ih
    generalize s.getD a 0 = y at *
    cases b with
    | false =>
      refine L.Ev.ifn (by simp) ?_
      rw [Bool.false_and] at hb
      exact Ev.congr (fun k => by rw [L.w64n (by omega)]) (ih false (by rw [Bool.false_and]; exact hb))
    | true =>
      rw [Bool.true_and] at hb
      refine L.Ev.ifp rfl (L.Ev.bindc (better_bit ho i y (by omega) (by omega)) (L.Ev.bindc (better_bit hp s.length a (by omega) (by omega)) ?_))
      by_cases e : (L.bitAt lo i y == L.bitAt lp s.length a) = true
      · refine L.Ev.ifp e (L.Ev.bindc (better_bit ho y i (by omega) (by omega)) (L.Ev.bindc (better_bit hp a s.length (by omega) (by omega)) ?_))
        rw [e, Bool.true_and] at hb
        exact Ev.congr (fun k => by rw [L.w64n (by omega)]) (ih _ hb)
      · refine L.Ev.ifn e ?_
        rw [Bool.not_eq_true] at e
        rw [e, Bool.false_and, Bool.false_and] at hb
        exact Ev.congr (fun k => by rw [L.w64n (by omega)]) (ih false (by rw [Bool.false_and]; exact hb))
theorem pattern_ev (z : Int) : ∀ (d : Nat) (s : List Nat), s.length + d = m → (∀ x ∈ s, x < n) →
    Ev (fun k => impl_Order_pattern_1.f k (L.cast s) (m : Int) lp (n : Int) lo z) (outL (Srch.go (fitsP lo lp) n d s)) := by
  have hno : (lo.length : Int) = n := ho.len
  have hnp : (lp.length : Int) = m := hp.len
  intro d
  induction d with
  | zero =>
    intro s hs _
    refine L.Ev.succ ?_
    simp only [impl_Order_pattern_1.f]
    refine L.Ev.ifp (by rw [L.cast_length]; omega) (Ev.now _)
  | succ d ih =>
    intro s hs hx
    have hc : (L.cast s).length = s.length := L.cast_length s
    refine L.Ev.succ ?_
    simp only [impl_Order_pattern_1.f]
    refine L.Ev.ifn (by rw [L.cast_length]; omega) ?_
    rw [Srch.go_succ, hc]
    have key : ∀ i, i ≤ n → Ev (fun k => impl_Order_pattern_1.l0 k (L.cast s) (s.length : Int) (n : Int) (i : Int) (m : Int) lp (n : Int) lo z)
        (outL (((List.range n).drop i).findSome? fun k => if fitsP lo lp s k = true then Srch.go (fitsP lo lp) n d (s ++ [k]) else none)) := by
      refine L.down ?_ fun i hi ih2 => ?_
      · refine L.Ev.succ ?_
        simp only [impl_Order_pattern_1.l0]
        rw [find_end]
        exact L.Ev.ifn (by omega) (Ev.now _)
      · rw [find_drop _ _ i hi]
        have hend : Ev (fun k => impl_Order_pattern_1.l1 k (L.cast s) (s.length : Int) (i : Int) (fitsP lo lp s i) (n : Int) (i : Int) (L.cast s) (s.length : Int) (s.length : Int) (m : Int) lp (n : Int) lo z)
            (outL (Option.or (if fitsP lo lp s i = true then Srch.go (fitsP lo lp) n d (s ++ [i]) else none) (((List.range n).drop (i + 1)).findSome? fun k => if fitsP lo lp s k = true then Srch.go (fitsP lo lp) n d (s ++ [k]) else none))) := by
          refine L.Ev.succ ?_
          simp only [impl_Order_pattern_1.l1]
          refine L.Ev.ifn (by omega) ?_
          by_cases hf : fitsP lo lp s i = true
          · rw [if_pos hf]
            refine L.Ev.ifp hf (L.Ev.bindc (clone_pat _ (by rw [hc]; omega)) ?_)
            simp only [Option.bind_some]
            refine L.Ev.ifp (by rw [hc]; simp; omega) ?_
            rw [cast_snoc]
            refine Ev.bind (ih (s ++ [i]) (by simp; omega) (fun x h => ?_)) ?_
            · rcases List.mem_append.1 h with h | h
              · exact hx x h
              · have : x = i := by simpa using h
                omega
            cases hg : Srch.go (fitsP lo lp) n d (s ++ [i]) with
            | none =>
              have hd : d ≠ 0 := by rintro rfl; simp [Srch.go] at hg
              have hne : ((((L.cast (s ++ [i])).length : Nat) : Int) == (m : Int)) = false := by
                rw [beq_eq_false_iff_ne, L.cast_length, List.length_append, List.length_singleton]; omega
              refine L.Ev.ifn (by rw [hne]; simp [outL]) ?_
              simp only [Option.none_or]
              exact Ev.congr (fun k => by rw [L.w64n (by omega)]) ih2
            | some q =>
              have hq := Srch.go_len _ _ _ _ _ hg
              rw [List.length_append, List.length_singleton] at hq
              have hne : (outL (some q)).isEmpty = false := by
                cases q with
                | nil => simp at hq; omega
                | cons => rfl
              refine L.Ev.ifp (by rw [hne]; rfl) ?_
              simp only [Option.some_or]
              exact Ev.now _
          · rw [if_neg hf]
            refine L.Ev.ifn hf ?_
            simp only [Option.none_or]
            exact Ev.congr (fun k => by rw [L.w64n (by omega)]) ih2
        have hin := inner_ev ho hp hn hm s i z _ hx hi (by omega) _ hend
        refine L.Ev.succ ?_
        simp only [impl_Order_pattern_1.l0]
        refine L.Ev.ifp (by omega) (Ev.bind (contains_ev s i (by omega)) ?_)
        have hfa := fits_apart lo lp s i
        by_cases hmem : i ∈ s
        · refine L.Ev.ifp (by simpa using hmem) (L.Ev.succ ?_)
          simp only [impl_Order_pattern_1.j1]
          rw [hc]
          refine hin 0 (by omega) false ?_
          rw [hfa]; simp [hmem]
        · refine L.Ev.ifn (by simpa using hmem) (L.Ev.bindc (better_bit ho i i (by omega) (by omega)) (L.Ev.bindc (better_bit hp s.length s.length (by omega) (by omega)) (L.Ev.succ ?_)))
          simp only [impl_Order_pattern_1.j1]
          rw [hc]
          refine hin 0 (by omega) (fitsE lo lp s i) ?_
          rw [hfa]; simp [hmem]
    exact key 0 (by omega)
theorem patternW_ev : Ev (fun k => impl_Order_pattern.f k (n : Int) lo (m : Int) lp) (outL (Srch.go (fitsP lo lp) n m [])) := by
  unfold impl_Order_pattern.f
  exact Ev.bind (pattern_ev ho hp hn hm 77 m [] (by simp) (by simp)) (Ev.now _)
omit ho hp hn hm in
theorem out_nil : (!((outL (Srch.go (fitsP lo lp) n m [])).isEmpty && !((0 : Int) == (m : Int)))) = (Srch.go (fitsP lo lp) n m []).isSome := by
  cases hg : Srch.go (fitsP lo lp) n m [] with
  | none =>
    have hd : m ≠ 0 := by rintro rfl; simp [Srch.go] at hg
    have : ((0 : Int) == (m : Int)) = false := by rw [beq_eq_false_iff_ne]; omega
    rw [this]; rfl
  | some q =>
    have hq := Srch.go_len _ _ _ _ _ hg
    cases q with
    | nil =>
      have : m = 0 := by simpa using hq.symm
      subst this; rfl
    | cons => rfl
end
end Go.Proofs.Ytcjphppldjghiaa.P

/-! ### BoFindPattern -/
/- What FindPattern comes to, in the program and in the reference. -/
namespace Go.Proofs.Ytcjphppldjghiaa.P
open Go.RowKit Go.Proofs.YtcjphppldjghiaaW.PrintWords Go.Proofs.YtcjphppldjghiaaW.PrintLast Go.Proofs.YtcjphppldjghiaaW.PrintMore L
set_option linter.unusedVariables false
set_option linter.unusedSimpArgs false
theorem FindPattern_both (a0 : Int) (l0 : List Int) (w0a : R.wf a0) (m0 : l0.length ≤ 1048576) (w0 : ∀ x ∈ l0, R.wf x) (a1 : Int) (l1 : List Int) (w1a : R.wf a1) (m1 : l1.length ≤ 1048576) (w1 : ∀ x ∈ l1, R.wf x) :
    ∃ (r : List Int) (b : Bool), Ev (fun k => spec_FindPattern.f k a0 l0 a1 l1) (r, b) ∧ Ev (fun k => impl_FindPattern.f k a0 l0 a1 l1) (r, b) ∧ r.length ≤ 1048576 := by
  have e0 : ∀ {P : Prop}, (Ev (fun k => spec_FindPattern.f k a0 l0 a1 l1) ([], false) ∧ Ev (fun k => impl_FindPattern.f k a0 l0 a1 l1) ([], false)) → ∃ (r : List Int) (b : Bool), Ev (fun k => spec_FindPattern.f k a0 l0 a1 l1) (r, b) ∧ Ev (fun k => impl_FindPattern.f k a0 l0 a1 l1) (r, b) ∧ r.length ≤ 1048576 := fun h => ⟨[], false, h.1, h.2, by simp⟩
  unfold spec_FindPattern.f impl_FindPattern.f at *
  by_cases h0 : isRel a0 l0 = true
  case neg => exact e0 (P := True) ⟨Ev.bind (orRelation_ev a0 l0 (by omega)) (L.Ev.ifn h0 (Ev.now _)), Ev.bind (IsRelation_ev a0 l0 (by omega)) (L.Ev.ifn h0 (Ev.now _))⟩
  by_cases h1 : isRel a1 l1 = true
  case neg => exact e0 (P := True) ⟨Ev.bind (orRelation_ev a0 l0 (by omega)) (L.Ev.ifp h0 (Ev.bind (orRelation_ev a1 l1 (by omega)) (L.Ev.ifn h1 (Ev.now _)))), Ev.bind (IsRelation_ev a0 l0 (by omega)) (L.Ev.ifp h0 (Ev.bind (IsRelation_ev a1 l1 (by omega)) (L.Ev.ifn h1 (Ev.now _))))⟩
  by_cases h6 : a1 > 6
  · exact e0 (P := True) ⟨Ev.bind (orRelation_ev a0 l0 (by omega)) (L.Ev.ifp h0 (Ev.bind (orRelation_ev a1 l1 (by omega)) (L.Ev.ifp h1 (L.Ev.ifp h6 (Ev.now _))))), Ev.bind (IsRelation_ev a0 l0 (by omega)) (L.Ev.ifp h0 (Ev.bind (IsRelation_ev a1 l1 (by omega)) (L.Ev.ifp h1 (L.Ev.ifp h6 (Ev.now _)))))⟩
  have ho := isRel_ok h0
  have hp := isRel_ok h1
  have r0 := orRelation_ev a0 l0 (by omega)
  have r1 := orRelation_ev a1 l1 (by omega)
  have i0 := IsRelation_ev a0 l0 (by omega)
  have i1 := IsRelation_ev a1 l1 (by omega)
  rw [h0] at r0 i0
  rw [h1] at r1 i1
  obtain ⟨n, rfl, hn, _⟩ := pat_nat h0
  obtain ⟨m, rfl, hm, _⟩ := pat_nat h1
  refine ⟨outL (Srch.go (fitsP l0 l1) n m []), (Srch.go (fitsP l0 l1) n m []).isSome, ?_, ?_, ?_⟩
  · refine Ev.bind r0 (L.Ev.ifp rfl (Ev.bind r1 (L.Ev.ifp rfl (L.Ev.ifn h6 ?_))))
    exact Ev.bind (orFind_ev ho hp hn hm m [] (by simp) (by simp)) (Ev.now _)
  · refine Ev.bind i0 (L.Ev.ifp rfl (Ev.bind i1 (L.Ev.ifp rfl (L.Ev.ifn h6 (Ev.bind (patternW_ev ho hp hn hm) ?_)))))
    rw [out_nil]; exact Ev.now _
  · cases hg : Srch.go (fitsP l0 l1) n m [] with
    | none => simp [outL]
    | some q =>
      have hq := Srch.go_len _ _ _ _ _ hg
      rw [outL, L.cast_length, hq]; simp; omega
end Go.Proofs.Ytcjphppldjghiaa.P

/-! ### PuFnExactFindPattern -/
/- The plain law behind FnExactFindPattern, out of what the program's and the reference's function come to. -/
namespace Go.Proofs.Ytcjphppldjghiaa.P
open Go.RowKit Go.Proofs.YtcjphppldjghiaaW.PrintWords Go.Proofs.YtcjphppldjghiaaW.PrintLast Go.Proofs.YtcjphppldjghiaaW.PrintMore L
set_option linter.unusedVariables false
set_option linter.unusedSimpArgs false
set_option maxHeartbeats 1000000 in
theorem FnExactFindPattern_pure (a0 : Int) (l0 : List Int) (w0a : R.wf a0) (m0 : l0.length ≤ 9223372036854775807) (w0 : ∀ x ∈ l0, R.wf x) (a1 : Int) (l1 : List Int) (w1a : R.wf a1) (m1 : l1.length ≤ 9223372036854775807) (w1 : ∀ x ∈ l1, R.wf x) : ∃ k, laws_FnExactFindPattern.f k a0 l0 a1 l1 = some true := by
  refine Ev.rounds (r := true) ?_
  unfold laws_FnExactFindPattern.f
  refine L.Ev.bindc (szOrder_eq a0 l0 1048576 (by omega) m0) ?_
  by_cases hb0 : (l0.length : Int) ≤ 1048576
  case neg => rw [if_neg hb0]; exact L.Ev.ifp (by omega) (Ev.now true)
  rw [if_pos hb0]
  refine L.Ev.ifn (by omega) ?_
  have hn0 : l0.length ≤ 1048576 := by omega
  refine L.Ev.bindc (szOrder_eq a1 l1 (1048576 - l0.length) (by omega) m1) ?_
  by_cases hb1 : (l1.length : Int) ≤ 1048576 - l0.length
  case neg => rw [if_neg hb1]; exact L.Ev.ifp (by omega) (Ev.now true)
  rw [if_pos hb1]
  refine L.Ev.ifn (by omega) ?_
  have hn1 : l1.length ≤ 1048576 := by omega
  obtain ⟨r0, r1, hs, hi, hl0⟩ := FindPattern_both a0 l0 w0a hn0 w0 a1 l1 w1a hn1 w1
  repeat' (first
    | exact Ev.now true
    | exact Ev.now _
    | with_reducible exact rfl
    | (with_reducible refine Ev.bind hs ?_)
    | (with_reducible refine Ev.bind hi ?_)
    | (with_reducible refine Ev.bind (toIntS_ev _ ?hs1) ?_; (case hs1 => first | omega | (dsimp only; omega)))
    | (with_reducible refine Ev.bind (eqIntS_self _ ?hs1) ?_; (case hs1 => first | omega | (dsimp only; omega)))
    | (with_reducible refine Ev.bind (toOrder_ev _ _ ?hs1) ?_; (case hs1 => first | omega | (dsimp only; omega)))
    | (with_reducible refine Ev.bind (eqOrder_self _ _ ?hs1) ?_; (case hs1 => first | omega | (dsimp only; omega)))
    | (with_reducible refine Ev.bind (markIntS_ev _ _ ?hs1 ?hs2) ?_; (case hs1 => first | omega | (dsimp only; omega)); (case hs2 => first | omega | (dsimp only; omega)))
    | (with_reducible refine Ev.bind (held_marks _ _ ?hs1 ?hs2) ?_; (case hs1 => first | omega | (dsimp only; omega)); (case hs2 => first | omega | (dsimp only; omega)))
    | (with_reducible refine Ev.bind (markOrder_ev _ _ _ ?hs1 ?hs2) ?_; (case hs1 => first | omega | (dsimp only; omega)); (case hs2 => first | omega | (dsimp only; omega)))
    | (refine L.Ev.ifp ?hc ?_; (case hc => first | rfl | omega | (simp; done)))
    | (refine L.Ev.ifn ?hc ?_; (case hc => first | omega | (simp; done)))
    | (refine L.Ev.succ ?_; simp only [laws_FnExactFindPattern.j0])
    | (refine L.Ev.succ ?_; simp only [laws_FnExactFindPattern.j1])
    | (refine L.Ev.succ ?_; simp only [laws_FnExactFindPattern.j2])
    | (refine L.Ev.succ ?_; simp only [laws_FnExactFindPattern.j3])
    | (refine L.Ev.succ ?_; simp only [laws_FnExactFindPattern.j4]))
end Go.Proofs.Ytcjphppldjghiaa.P
