/- The plain laws behind FnExactChainNumbers, in one text (merged by wip/merge.py). -/
import Derived.Test.YtjbloapoaphgjaaDoorLib
import Derived.Test.YtjbloapoaphgjaaDoorPx1
import Derived.Test.YtjbloapoaphgjaaDoorPx2
import Derived.Test.YtjbloapoaphgjaaDoorPx3
import Derived.Test.YtjbloapoaphgjaaDoorPx8
import Derived.Test.YtjbloapoaphgjaaDoorPx11
import Derived.Test.YtjbloapoaphgjaaDoorPx12
import Derived.Test.YtjbloapoaphgjaaDoorPx13
import Derived.Test.YtjbloapoaphgjaaDoorPx14
import Derived.Test.YtjbloapoaphgjaaDoorPx6
import Derived.Test.YtjbloapoaphgjaaDoorPx4
import Derived.Test.YtjbloapoaphgjaaDoorPx5
import Derived.Test.YtjbloapoaphgjaaDoorPx9
import Derived.Test.YtjbloapoaphgjaaDoorPx7
import Derived.Test.YtjbloapoaphgjaaDoorPx20
import Derived.Test.YtjbloapoaphgjaaDoorPx18
import Derived.Test.YtjbloapoaphgjaaDoorPx19
import Derived.Test.YtjbloapoaphgjaaDoorPx27
import Derived.Test.YtjbloapoaphgjaaDoorPx26
import Derived.Test.YtjbloapoaphgjaaDoorPx24
import Derived.Test.YtjbloapoaphgjaaDoorPx23
import Derived.Test.YtjbloapoaphgjaaDoorPx25
import Derived.Test.YtjbloapoaphgjaaDoorRowLib
import Derived.Test.YtjbloapoaphgjaaDoorPx28
/-! ### PuInts -/
/- Plain laws of the copies and comparisons of rows of whole numbers; no conditions beyond the rows' lengths. -/
namespace Go.Proofs.YtjbloapoaphgjaaDoor.P
open Go.RowKit Go.Proofs.YtjbloapoaphgjaaDoorW.PrintWords Go.Proofs.YtjbloapoaphgjaaDoorW.PrintLast Go.Proofs.YtjbloapoaphgjaaDoorW.PrintMore L
set_option linter.unusedVariables false
set_option linter.unusedSimpArgs false
theorem toIntS_ev (l : List Int) (hl : l.length ≤ 35184372088832) : Ev (fun k => laws_toIntS.f k l) l := by
  have key : ∀ i, i ≤ l.length → Ev (fun k => laws_toIntS.l0 k l (l.take i ++ List.replicate (l.length - i) 0) (i : Int)) l := by
    refine L.down ?_ fun i hi ih => ?_
    · refine L.Ev.succ ?_
      simp only [laws_toIntS.l0]
      refine L.Ev.ifn (by omega) ?_
      rw [Nat.sub_self, List.take_of_length_le (Nat.le_refl _)]
      simp only [List.replicate_zero, List.append_nil]
      exact Ev.now l
    · refine L.Ev.succ ?_
      simp only [laws_toIntS.l0]
      refine L.Ev.ifp (by omega) (L.Ev.ifp (by omega) (L.Ev.ifp ?_ ?_))
      · simp only [List.length_append, List.length_take, List.length_replicate]; omega
      · have e : (l.take i ++ List.replicate (l.length - i) 0).set i (rd l (i : Int)) = l.take (i + 1) ++ List.replicate (l.length - (i + 1)) 0 := by
          rw [L.rd_get hi]
          refine List.ext_getElem? fun j => ?_
          rw [List.getElem?_set]
          by_cases hj : i = j
          · subst hj
            rw [if_pos rfl, if_pos (by simp only [List.length_append, List.length_take, List.length_replicate]; omega), List.getElem?_append_left (by simp only [List.length_take]; omega), List.getElem?_take, if_pos (by omega), List.getElem?_eq_getElem hi]
          · rw [if_neg hj]
            by_cases h1 : j < i
            · rw [List.getElem?_append_left (by simp only [List.length_take]; omega), List.getElem?_append_left (by simp only [List.length_take]; omega), List.getElem?_take, List.getElem?_take, if_pos h1, if_pos (by omega)]
            · rw [List.getElem?_append_right (by simp only [List.length_take]; omega), List.getElem?_append_right (by simp only [List.length_take]; omega)]
              simp only [List.length_take, List.getElem?_replicate]
              by_cases h2 : j < l.length
              · rw [if_pos (by omega), if_pos (by omega)]
              · rw [if_neg (by omega), if_neg (by omega)]
        refine Ev.congr (fun k => ?_) ih
        rw [L.w64n (by omega), Int.toNat_natCast, e]
  refine Ev.congr (fun k => ?_) (key 0 (by omega))
  unfold laws_toIntS.f
  rw [if_pos (by omega), if_pos (by omega)]
  simp
theorem eqIntS_ev (l m : List Int) (hl : l.length ≤ 9223372036854775806) : Ev (fun k => laws_eqIntS.f k l m) (decide (l = m)) := by
  by_cases hlen : l.length = m.length
  · have key : ∀ i, i ≤ l.length → Ev (fun k => laws_eqIntS.l0 k l m (i : Int)) (decide (l.drop i = m.drop i)) := by
      refine L.down ?_ fun i hi ih => ?_
      · refine L.Ev.succ ?_
        simp only [laws_eqIntS.l0]
        refine L.Ev.ifn (by omega) ?_
        rw [List.drop_eq_nil_of_le (Nat.le_refl _), List.drop_eq_nil_of_le (by omega)]
        exact Ev.now _
      · refine L.Ev.succ ?_
        simp only [laws_eqIntS.l0]
        refine L.Ev.ifp (by omega) (L.Ev.ifp (by omega) (L.Ev.ifp (by omega) ?_))
        rw [L.rd_get hi, L.rd_get (l := m) (by omega), List.drop_eq_getElem_cons hi, List.drop_eq_getElem_cons (l := m) (by omega)]
        by_cases e : l[i] = m[i]'(by omega)
        · refine L.Ev.ifp e ?_
          refine Ev.congr (fun k => by rw [L.w64n (by omega)]) ?_
          have e2 : (l[i] :: List.drop (i + 1) l = m[i]'(by omega) :: List.drop (i + 1) m) = (List.drop (i + 1) l = List.drop (i + 1) m) := propext ⟨fun h => (List.cons.inj h).2, fun h => by rw [e, h]⟩
          simp only [e2]
          exact ih
        · refine L.Ev.ifn e ?_
          simp only [List.cons.injEq, e, false_and, decide_false]
          exact Ev.now _
    have h := key 0 (by omega)
    refine Ev.congr (fun k => ?_) h
    unfold laws_eqIntS.f
    rw [if_pos (by omega)]; rfl
  · have e : l ≠ m := fun h => hlen (by rw [h])
    refine Ev.congr (fun k => ?_) (f := fun _ => some false) (by simp only [e, decide_false]; exact Ev.now _)
    unfold laws_eqIntS.f
    rw [if_neg (by omega)]
theorem eqIntS_self (l : List Int) (hl : l.length ≤ 9223372036854775806) : Ev (fun k => laws_eqIntS.f k l l) true := by
  have h := eqIntS_ev l l hl
  simpa using h
end Go.Proofs.YtjbloapoaphgjaaDoor.P

/-! ### PuOrder -/
/- Plain laws of the copies and comparisons of relations; no conditions beyond the rows' lengths. -/
namespace Go.Proofs.YtjbloapoaphgjaaDoor.P
open Go.RowKit Go.Proofs.YtjbloapoaphgjaaDoorW.PrintWords Go.Proofs.YtjbloapoaphgjaaDoorW.PrintLast Go.Proofs.YtjbloapoaphgjaaDoorW.PrintMore L
set_option linter.unusedVariables false
set_option linter.unusedSimpArgs false
theorem szIntS_eq (l : List Int) (a : Int) (ha : 0 ≤ a ∧ a ≤ 1048576) (hl : l.length ≤ 9223372036854775807) : laws_szIntS.f l a = some (if (l.length : Int) ≤ a then a - l.length else -1) := by
  unfold laws_szIntS.f
  rw [L.w64 (by omega) (by omega)]
  by_cases h : (l.length : Int) ≤ a
  · rw [if_neg (by omega), if_pos h]
  · rw [if_pos (by omega), if_neg h]
theorem szOrder_eq (n : Int) (l : List Int) (a : Int) (ha : 0 ≤ a ∧ a ≤ 1048576) (hl : l.length ≤ 9223372036854775807) : laws_szOrder.f n l a = some (if (l.length : Int) ≤ a then a - l.length else -1) := by
  unfold laws_szOrder.f
  rw [szIntS_eq l a ha hl]
  simp only [Option.bind_some]
  by_cases h : (l.length : Int) ≤ a
  · rw [if_pos h, if_neg (by omega)]
  · rw [if_neg h, if_pos (by omega)]
theorem toOrder_ev (n : Int) (l : List Int) (hl : l.length ≤ 35184372088832) : Ev (fun k => laws_toOrder.f k n l) (n, l) := by
  unfold laws_toOrder.f
  exact Ev.bind (toIntS_ev l hl) (Ev.now _)
theorem eqOrder_ev (n : Int) (l : List Int) (m : Int) (o : List Int) (hl : l.length ≤ 9223372036854775806) : Ev (fun k => laws_eqOrder.f k n l m o) (decide (n = m ∧ l = o)) := by
  unfold laws_eqOrder.f
  by_cases h : n = m
  · refine L.Ev.ifp h ?_
    refine Ev.bind (eqIntS_ev l o hl) ?_
    by_cases h2 : l = o
    · simp only [h, h2, and_self, decide_true, if_true]; exact Ev.now _
    · simp only [h2, and_false, decide_false]; exact L.Ev.ifn (by simp) (Ev.now _)
  · refine L.Ev.ifn h ?_
    simp only [h, false_and, decide_false]
    exact Ev.now _
theorem eqOrder_self (n : Int) (l : List Int) (hl : l.length ≤ 9223372036854775806) : Ev (fun k => laws_eqOrder.f k n l n l) true := by
  have h := eqOrder_ev n l n l hl
  simpa using h
end Go.Proofs.YtjbloapoaphgjaaDoor.P

/-! ### PuMark -/
/- Plain laws of the marks that are laid into rows of whole numbers and looked for again; no conditions beyond the rows' lengths. -/
namespace Go.Proofs.YtjbloapoaphgjaaDoor.P
open Go.RowKit Go.Proofs.YtjbloapoaphgjaaDoorW.PrintWords Go.Proofs.YtjbloapoaphgjaaDoorW.PrintLast Go.Proofs.YtjbloapoaphgjaaDoorW.PrintMore L
set_option linter.unusedVariables false
set_option linter.unusedSimpArgs false
/-- a, a + 1, .. -/
def marks (a : Int) (n : Nat) : List Int := (List.range n).map fun (i : Nat) => a + (i : Int)
theorem marks_length (a : Int) (n : Nat) : (marks a n).length = n := by simp [marks]
theorem markIntS_ev (l : List Int) (a : Int) (ha : 0 ≤ a ∧ a ≤ 4194304) (hl : l.length ≤ 1048576) : Ev (fun k => laws_markIntS.f k l a) (a + l.length, marks a l.length) := by
  have key : ∀ i, i ≤ l.length → Ev (fun k => laws_markIntS.l0 k (marks a i ++ l.drop i) (a + i) (i : Int)) (a + l.length, marks a l.length) := by
    refine L.down ?_ fun i hi ih => ?_
    · refine L.Ev.succ ?_
      simp only [laws_markIntS.l0]
      rw [List.drop_eq_nil_of_le (Nat.le_refl _), List.append_nil]
      refine L.Ev.ifn (by rw [marks_length]; omega) ?_
      exact Ev.now _
    · refine L.Ev.succ ?_
      simp only [laws_markIntS.l0]
      refine L.Ev.ifp (by rw [List.length_append, marks_length, List.length_drop]; omega) (L.Ev.ifp (by omega) ?_)
      have e : (marks a i ++ l.drop i).set i (a + i) = marks a (i + 1) ++ l.drop (i + 1) := by
        refine List.ext_getElem? fun j => ?_
        rw [List.getElem?_set]
        by_cases hj : i = j
        · subst hj
          rw [if_pos rfl, if_pos (by rw [List.length_append, marks_length, List.length_drop]; omega), List.getElem?_append_left (by rw [marks_length]; omega)]
          simp [marks]
        · rw [if_neg hj]
          by_cases h1 : j < i
          · rw [List.getElem?_append_left (by rw [marks_length]; omega), List.getElem?_append_left (by rw [marks_length]; omega)]
            simp [marks, h1, show j < i + 1 by omega]
          · rw [List.getElem?_append_right (by rw [marks_length]; omega), List.getElem?_append_right (by rw [marks_length]; omega), marks_length, marks_length, List.getElem?_drop, List.getElem?_drop]
            congr 1; omega
      refine Ev.congr (fun k => ?_) ih
      rw [L.w64n (n := i) (by omega), L.w64 (x := a + i + 1) (by omega) (by omega), Int.toNat_natCast, e]
      congr 1; omega
  refine Ev.congr (fun k => ?_) (key 0 (by omega))
  unfold laws_markIntS.f
  simp [marks]
theorem heldIntS_ev (l : List Int) (a : Int) (ha : 0 ≤ a ∧ a ≤ 4194304) (hl : l.length ≤ 1048576) : Ev (fun k => laws_heldIntS.f k l a) (if l = marks a l.length then a + l.length else -1) := by
  by_cases hm : l = marks a l.length
  · rw [if_pos hm]
    have key : ∀ i, i ≤ l.length → Ev (fun k => laws_heldIntS.l0 k l (a + i) (i : Int)) (a + l.length) := by
      refine L.down ?_ fun i hi ih => ?_
      · refine L.Ev.succ ?_
        simp only [laws_heldIntS.l0]
        refine L.Ev.ifn (by omega) ?_
        exact Ev.now _
      · refine L.Ev.succ ?_
        simp only [laws_heldIntS.l0]
        refine L.Ev.ifp (by omega) (L.Ev.ifp (by omega) (L.Ev.ifp ?_ ?_))
        · rw [L.rd_nat]
          have e : l.getD i 0 = (marks a l.length).getD i 0 := by rw [← hm]
          rw [e, List.getD_eq_getElem?_getD]
          simp [marks, hi]
        · refine Ev.congr (fun k => ?_) ih
          rw [L.w64n (n := i) (by omega), L.w64 (x := a + i + 1) (by omega) (by omega)]
          congr 1; omega
    exact Ev.congr (fun k => by unfold laws_heldIntS.f; simp) (key 0 (by omega))
  · rw [if_neg hm]
    have key : ∀ i, i ≤ l.length → (∀ j, j < i → l.getD j 0 = a + j) → Ev (fun k => laws_heldIntS.l0 k l (a + i) (i : Int)) (-1) := by
      refine L.down ?_ fun i hi ih => ?_
      · intro h
        refine absurd ?_ hm
        refine List.ext_getElem? fun j => ?_
        by_cases hj : j < l.length
        · have := h j hj
          rw [List.getD_eq_getElem?_getD, List.getElem?_eq_getElem hj] at this
          rw [List.getElem?_eq_getElem hj]
          simp only [Option.getD_some] at this
          simp [marks, hj, this]
        · rw [List.getElem?_eq_none (by omega), List.getElem?_eq_none (by rw [marks_length]; omega)]
      · intro h
        refine L.Ev.succ ?_
        simp only [laws_heldIntS.l0]
        refine L.Ev.ifp (by omega) (L.Ev.ifp (by omega) ?_)
        by_cases e : rd l (i : Int) = a + i
        · refine L.Ev.ifp e ?_
          refine Ev.congr (fun k => ?_) (ih fun j hj => ?_)
          · rw [L.w64n (n := i) (by omega), L.w64 (x := a + i + 1) (by omega) (by omega)]
            congr 1; omega
          · by_cases hji : j = i
            · rw [hji, ← L.rd_nat]; exact e
            · exact h j (by omega)
        · exact L.Ev.ifn e (Ev.now _)
    exact Ev.congr (fun k => by unfold laws_heldIntS.f; simp) (key 0 (by omega) (by omega))
theorem held_marks (a : Int) (n : Nat) (ha : 0 ≤ a ∧ a ≤ 4194304) (hn : n ≤ 1048576) : Ev (fun k => laws_heldIntS.f k (marks a n) a) (a + n) := by
  have h := heldIntS_ev (marks a n) a ha (by rw [marks_length]; omega)
  rw [marks_length, if_pos rfl] at h
  exact h
end Go.Proofs.YtjbloapoaphgjaaDoor.P

/-! ### PuMarkO -/
/- Plain laws of the marks that are laid into relations and looked for again; no conditions beyond the rows' lengths. -/
namespace Go.Proofs.YtjbloapoaphgjaaDoor.P
open Go.RowKit Go.Proofs.YtjbloapoaphgjaaDoorW.PrintWords Go.Proofs.YtjbloapoaphgjaaDoorW.PrintLast Go.Proofs.YtjbloapoaphgjaaDoorW.PrintMore L
set_option linter.unusedVariables false
set_option linter.unusedSimpArgs false
theorem markOrder_ev (n : Int) (l : List Int) (a : Int) (ha : 0 ≤ a ∧ a ≤ 4194304) (hl : l.length ≤ 1048576) : Ev (fun k => laws_markOrder.f k n l a) (a + l.length, marks a l.length) := by
  unfold laws_markOrder.f
  exact Ev.bind (markIntS_ev l a ha hl) (Ev.now _)
end Go.Proofs.YtjbloapoaphgjaaDoor.P

/-! ### PuAnti -/
/- Plain laws: the first one of the largest antichains in a list, found by recursion or by looking through all sets; for every such list. -/
namespace Go.Proofs.YtjbloapoaphgjaaDoor.Anti
set_option linter.unusedVariables false
set_option linter.unusedSimpArgs false
theorem sublist_filter {A xs : List Nat} {p : Nat → Bool} (h : A.Sublist xs) (hp : ∀ y ∈ A, p y = true) : A.Sublist (xs.filter p) := by
  have := h.filter p
  rwa [List.filter_eq_self.2 hp] at this
/-- lexicographically less. -/
def lexlt : List Nat → List Nat → Bool
  | [], [] => false
  | [], _ :: _ => true
  | _ :: _, [] => false
  | a :: l, b :: k => if a < b then true else if b < a then false else lexlt l k
theorem lexlt_irrefl : ∀ l, lexlt l l = false
  | [] => rfl
  | a :: l => by simp [lexlt, lexlt_irrefl l]
theorem lexlt_trans : ∀ a b c : List Nat, lexlt a b = true → lexlt b c = true → lexlt a c = true
  | [], [], c, h, _ => by simp [lexlt] at h
  | [], b :: l, [], _, h => by simp [lexlt] at h
  | [], b :: l, c :: k, _, _ => rfl
  | a :: l, [], c, h, _ => by simp [lexlt] at h
  | a :: l, b :: k, [], _, h => by simp [lexlt] at h
  | a :: l, b :: k, c :: m, h1, h2 => by
    have ih := lexlt_trans l k m
    simp only [lexlt] at h1 h2 ⊢
    split at h1
    · split at h2
      · rw [if_pos (by omega)]
      · split at h2
        · cases h2
        · rw [if_pos (by omega)]
    · split at h1
      · cases h1
      · split at h2
        · rw [if_pos (by omega)]
        · split at h2
          · cases h2
          · rw [if_neg (by omega), if_neg (by omega)]; exact ih h1 h2
theorem lexlt_total : ∀ a b : List Nat, lexlt a b = false → lexlt b a = false → a = b
  | [], [], _, _ => rfl
  | [], _ :: _, h, _ => by simp [lexlt] at h
  | _ :: _, [], _, h => by simp [lexlt] at h
  | a :: l, b :: k, h1, h2 => by
    simp only [lexlt] at h1 h2
    split at h1
    · cases h1
    · split at h1
      · rw [if_pos (by assumption)] at h2; cases h2
      · rw [if_neg (by assumption), if_neg (by assumption)] at h2
        rw [lexlt_total l k h1 h2, show a = b by omega]
/-- A beats B: longer, or as long and not later. -/
def beats (A B : List Nat) : Prop := B.length < A.length ∨ (B.length = A.length ∧ lexlt B A = false)
theorem beats_refl (A : List Nat) : beats A A := .inr ⟨rfl, lexlt_irrefl A⟩
theorem beats_antisymm {A B : List Nat} (h : beats A B) (k : beats B A) : A = B := by
  rcases h with h | ⟨h, h2⟩
  · rcases k with k | ⟨k, _⟩ <;> omega
  · rcases k with k | ⟨_, k2⟩
    · omega
    · exact lexlt_total A B k2 h2
theorem beats_trans {A B C : List Nat} (h : beats A B) (k : beats B C) : beats A C := by
  rcases h with h | ⟨h, h2⟩
  · rcases k with k | ⟨k, _⟩
    · left; omega
    · left; omega
  · rcases k with k | ⟨k, k2⟩
    · left; omega
    · right
      refine ⟨by omega, ?_⟩
      cases hc : lexlt C A with
      | false => rfl
      | true =>
        cases hab : lexlt A B with
        | true => rw [lexlt_trans C A B hc hab] at k2; cases k2
        | false => rw [lexlt_total A B hab h2] at hc; rw [hc] at k2; cases k2
/-- no two of a list are comparable: each is free of all that follow. -/
def pw (f : Nat → Nat → Bool) : List Nat → Bool
  | [] => true
  | x :: xs => xs.all (f x) && pw f xs
theorem pw_sublist {f : Nat → Nat → Bool} {A B : List Nat} (h : A.Sublist B) (hB : pw f B = true) : pw f A = true := by
  induction h with
  | slnil => rfl
  | cons a h ih => simp only [pw, Bool.and_eq_true] at hB; exact ih hB.2
  | cons_cons a h ih =>
    simp only [pw, Bool.and_eq_true] at hB ⊢
    refine ⟨?_, ih hB.2⟩
    rw [List.all_eq_true] at hB ⊢
    exact fun x hx => hB.1 x (h.subset hx)
/-- the first one of the largest antichains in a list. -/
def lgL (f : Nat → Nat → Bool) : List Nat → List Nat
  | [] => []
  | x :: xs => if (x :: lgL f (xs.filter (f x))).length < (lgL f xs).length then lgL f xs else x :: lgL f (xs.filter (f x))
termination_by l => l.length
decreasing_by
  all_goals simp only [List.length_cons]
  · have := List.length_filter_le (f x) xs
    have e : (List.filter (fun y : { y // y ∈ xs } => f x y.1) xs.attach).unattach = xs.filter (f x) := by
      rw [List.unattach_filter, List.unattach_attach]; exact fun _ _ => rfl
    rw [e]; omega
  · omega
theorem lgL_nil (f : Nat → Nat → Bool) : lgL f [] = [] := by rw [lgL]
theorem lgL_cons (f : Nat → Nat → Bool) (x : Nat) (xs : List Nat) : lgL f (x :: xs) = if (x :: lgL f (xs.filter (f x))).length < (lgL f xs).length then lgL f xs else x :: lgL f (xs.filter (f x)) := by rw [lgL]
theorem lgL_props (f : Nat → Nat → Bool) : ∀ (d : Nat) (xs : List Nat), xs.length ≤ d → xs.Pairwise (· < ·) →
    (lgL f xs).Sublist xs ∧ pw f (lgL f xs) = true ∧ ∀ A : List Nat, A.Sublist xs → pw f A = true → beats (lgL f xs) A := by
  intro d
  induction d with
  | zero =>
    intro xs hd _
    obtain rfl : xs = [] := List.eq_nil_of_length_eq_zero (by omega)
    rw [lgL_nil]
    refine ⟨List.Sublist.refl _, rfl, fun A hA _ => ?_⟩
    obtain rfl : A = [] := List.sublist_nil.1 hA
    exact beats_refl _
  | succ d ih =>
    intro xs hd hs
    cases xs with
    | nil =>
      rw [lgL_nil]
      refine ⟨List.Sublist.refl _, rfl, fun A hA _ => ?_⟩
      obtain rfl : A = [] := List.sublist_nil.1 hA
      exact beats_refl _
    | cons x xs =>
      obtain ⟨hx, hxs⟩ := List.pairwise_cons.1 hs
      have hfl := List.length_filter_le (f x) xs
      rw [List.length_cons] at hd
      obtain ⟨c1, c2, c3⟩ := ih (xs.filter (f x)) (by omega) (hxs.filter _)
      obtain ⟨d1, d2, d3⟩ := ih xs (by omega) hxs
      have hcs : (x :: lgL f (xs.filter (f x))).Sublist (x :: xs) := (c1.trans List.filter_sublist).cons_cons x
      have hcp : pw f (x :: lgL f (xs.filter (f x))) = true := by
        simp only [pw, Bool.and_eq_true, List.all_eq_true]
        exact ⟨fun y hy => (List.mem_filter.1 (c1.subset hy)).2, c2⟩
      have hA : ∀ A : List Nat, A.Sublist (x :: xs) → pw f A = true → (A.Sublist xs ∧ beats (lgL f xs) A) ∨ (beats (x :: lgL f (xs.filter (f x))) A) := by
        intro A hA hp
        cases hA with
        | cons _ h => exact .inl ⟨h, d3 A h hp⟩
        | cons_cons _ h =>
          rename_i l1
          right
          simp only [pw, Bool.and_eq_true, List.all_eq_true] at hp
          rcases c3 l1 (sublist_filter h hp.1) hp.2 with k | ⟨k, k2⟩
          · left; simp; omega
          · right; refine ⟨by simp [k], ?_⟩
            simp only [lexlt]; rw [if_neg (by omega), if_neg (by omega)]; exact k2
      rw [lgL_cons]
      by_cases hc : (x :: lgL f (xs.filter (f x))).length < (lgL f xs).length
      · rw [if_pos hc]
        refine ⟨d1.cons x, d2, fun A h1 h2 => ?_⟩
        rcases hA A h1 h2 with ⟨_, h⟩ | h
        · exact h
        · refine beats_trans ?_ h
          left; exact hc
      · rw [if_neg hc]
        refine ⟨hcs, hcp, fun A h1 h2 => ?_⟩
        rcases hA A h1 h2 with ⟨h0, h⟩ | h
        · rcases h with h | ⟨h, _⟩
          · left; omega
          · by_cases he : A.length < (x :: lgL f (xs.filter (f x))).length
            · left; exact he
            · right
              refine ⟨by omega, ?_⟩
              cases A with
              | nil => simp at he
              | cons y A =>
                have := hx y (h0.subset (List.mem_cons_self ..))
                simp only [lexlt]; rw [if_neg (by omega), if_pos (by omega)]
        · exact h
/-- what the program keeps: the better one of two. -/
def keep (best A : List Nat) : List Nat := if A.length > best.length ∨ (A.length = best.length ∧ lexlt A best = true) then A else best
theorem keep_props (best A : List Nat) : beats (keep best A) best ∧ beats (keep best A) A := by
  unfold keep
  by_cases h : A.length > best.length ∨ (A.length = best.length ∧ lexlt A best = true)
  · rw [if_pos h]
    refine ⟨?_, beats_refl A⟩
    rcases h with h | ⟨h, h2⟩
    · left; exact h
    · right; refine ⟨h.symm, ?_⟩
      cases hc : lexlt best A with
      | false => rfl
      | true => have := lexlt_trans _ _ _ h2 hc; rw [lexlt_irrefl] at this; cases this
  · rw [if_neg h]
    refine ⟨beats_refl _, ?_⟩
    by_cases h1 : A.length < best.length
    · left; exact h1
    · right
      refine ⟨by omega, ?_⟩
      cases hc : lexlt A best with
      | false => rfl
      | true => exact absurd (.inr ⟨by omega, hc⟩) h
def best (ok : Nat → Bool) (g : Nat → List Nat) (s : Nat) : List Nat := (List.range s).foldl (fun b i => if ok i then keep b (g i) else b) []
theorem best_succ (ok : Nat → Bool) (g : Nat → List Nat) (s : Nat) : best ok g (s + 1) = if ok s then keep (best ok g s) (g s) else best ok g s := by
  unfold best; rw [List.range_succ, List.foldl_append]; rfl
theorem best_props (ok : Nat → Bool) (g : Nat → List Nat) : ∀ s, (best ok g s = [] ∨ ∃ i, i < s ∧ ok i = true ∧ best ok g s = g i) ∧ ∀ i, i < s → ok i = true → beats (best ok g s) (g i)
  | 0 => ⟨.inl rfl, fun i h => by omega⟩
  | s + 1 => by
    obtain ⟨h1, h2⟩ := best_props ok g s
    rw [best_succ]
    cases ho : ok s with
    | false =>
      rw [if_neg (by simp)]
      refine ⟨?_, fun i hi hk => h2 i (by have : i ≠ s := fun e => by rw [e, ho] at hk; cases hk
                                          omega) hk⟩
      rcases h1 with h | ⟨i, a, b, c⟩
      · exact .inl h
      · exact .inr ⟨i, by omega, b, c⟩
    | true =>
      rw [if_pos rfl]
      obtain ⟨k1, k2⟩ := keep_props (best ok g s) (g s)
      refine ⟨?_, fun i hi hk => ?_⟩
      · unfold keep
        split
        · exact .inr ⟨s, by omega, ho, rfl⟩
        · rcases h1 with h | ⟨i, a, b, c⟩
          · exact .inl h
          · exact .inr ⟨i, by omega, b, c⟩
      · by_cases e : i = s
        · subst e; exact k2
        · exact beats_trans k1 (h2 i (by omega) hk)
/-- the program's and the reference's largest antichain. -/
theorem best_eq {f : Nat → Nat → Bool} {xs : List Nat} (hs : xs.Pairwise (· < ·)) (ok : Nat → Bool) (g : Nat → List Nat) (s : Nat)
    (h1 : ∀ i, i < s → ok i = true → (g i).Sublist xs ∧ pw f (g i) = true) (h2 : ∀ A : List Nat, A.Sublist xs → pw f A = true → ∃ i, i < s ∧ ok i = true ∧ g i = A) : best ok g s = lgL f xs := by
  obtain ⟨p1, p2, p3⟩ := lgL_props f _ xs (Nat.le_refl _) hs
  obtain ⟨q1, q2⟩ := best_props ok g s
  obtain ⟨i, hi, ho, e⟩ := h2 _ p1 p2
  have b1 := q2 i hi ho
  rw [e] at b1
  refine beats_antisymm b1 ?_
  rcases q1 with h | ⟨j, hj, hk, e2⟩
  · rw [h]; exact p3 [] (List.nil_sublist _) rfl
  · rw [e2]; exact p3 _ (h1 j hj hk).1 (h1 j hj hk).2
end Go.Proofs.YtjbloapoaphgjaaDoor.Anti

/-! ### PuRel0 -/
/- Plain laws: which lists are relations. -/
namespace Go.Proofs.YtjbloapoaphgjaaDoor.P
open Go.RowKit Go.Proofs.YtjbloapoaphgjaaDoorW.PrintWords Go.Proofs.YtjbloapoaphgjaaDoorW.PrintLast Go.Proofs.YtjbloapoaphgjaaDoorW.PrintMore L
set_option linter.unusedVariables false
set_option linter.unusedSimpArgs false
/-- the numbers of a relation. -/
def isRel (n : Int) (l : List Int) : Bool := decide (0 ≤ n ∧ n ≤ 10 ∧ (l.length : Int) = n ∧ ∀ x ∈ l, 0 ≤ x ∧ x < 2 ^ n.toNat)
theorem isRel_iff (n : Int) (l : List Int) : isRel n l = true ↔ 0 ≤ n ∧ n ≤ 10 ∧ (l.length : Int) = n ∧ ∀ x ∈ l, 0 ≤ x ∧ x < 2 ^ n.toNat := by simp [isRel]
theorem isRel_big {n : Nat} {l : List Int} (h : isRel n l = true) : ∀ x ∈ l, 0 ≤ x ∧ x < 1024 := by
  obtain ⟨h0, h1, h2, h3⟩ := (isRel_iff _ _).1 h
  intro x hx
  obtain ⟨a, b⟩ := h3 x hx
  have : (2 : Int) ^ (n : Int).toNat ≤ 2 ^ 10 := by
    have := Nat.pow_le_pow_right (n := 2) (by decide) (show (n : Int).toNat ≤ 10 by omega)
    exact_mod_cast this
  omega
theorem isRel_ok {n : Int} {l : List Int} (h : isRel n l = true) : L.okRel n l := by
  obtain ⟨h0, h1, h2, h3⟩ := (isRel_iff _ _).1 h
  obtain ⟨m, rfl⟩ := Int.eq_ofNat_of_zero_le h0
  refine ⟨h0, by omega, h2, fun x hx => ?_⟩
  have := isRel_big h x hx
  omega
end Go.Proofs.YtjbloapoaphgjaaDoor.P

/-! ### PuRel20 -/
/- Plain laws: single elements of relations: above, below, in bounds; for the program and the reference alike. -/
namespace Go.Proofs.YtjbloapoaphgjaaDoor.P
open Go.RowKit Go.Proofs.YtjbloapoaphgjaaDoorW.PrintWords Go.Proofs.YtjbloapoaphgjaaDoorW.PrintLast Go.Proofs.YtjbloapoaphgjaaDoorW.PrintMore L
set_option linter.unusedVariables false
set_option linter.unusedSimpArgs false
theorem isRel_nat {n : Int} {l : List Int} (h : isRel n l = true) : ∃ m : Nat, n = m ∧ m ≤ 10 ∧ l.length = m := by
  obtain ⟨h0, h1, h2, h3⟩ := (isRel_iff _ _).1 h
  obtain ⟨m, rfl⟩ := Int.eq_ofNat_of_zero_le h0
  exact ⟨m, rfl, by omega, by omega⟩
theorem orHas_eq {n : Int} {l : List Int} (h : L.okRel n l) (i j : Nat) (hj : j ≤ 64) : spec_orHas.f (rd l (i : Int)) (j : Int) = some (L.bitAt l i j) := by
  unfold spec_orHas.f
  rw [if_pos (by omega), h.bitm i j hj]
def R0 (n : Int) : Prop := -9223372036854775807 ≤ n ∧ n ≤ 9223372036854775807
end Go.Proofs.YtjbloapoaphgjaaDoor.P

/-! ### PuBelow -/
/- Plain laws: the set below an element. -/
namespace Go.Proofs.YtjbloapoaphgjaaDoor.P
open Go.RowKit Go.Proofs.YtjbloapoaphgjaaDoorW.PrintWords Go.Proofs.YtjbloapoaphgjaaDoorW.PrintLast Go.Proofs.YtjbloapoaphgjaaDoorW.PrintMore L
set_option linter.unusedVariables false
set_option linter.unusedSimpArgs false
/-- the set of all elements below one, as a natural number. -/
def belowN (l : List Int) (m i : Nat) : Nat := L.relRow (fun j => L.bitAt l j i) m
theorem belowN_lt (l : List Int) (m i : Nat) : belowN l m i < 2 ^ m := L.relRow_lt _ _
theorem belowN_bit (l : List Int) (m i j : Nat) : (belowN l m i).testBit j = (decide (j < m) && L.bitAt l j i) := L.relRow_testBit _ _ _
theorem orBelow_ev {m : Nat} {l : List Int} (h : isRel (m : Int) l = true) (i : Nat) (hi : i ≤ 64) : Ev (fun k => spec_orBelow.f k (m : Int) l (i : Int)) ((belowN l m i : Nat) : Int) := by
  obtain ⟨m', hm', hm, hlm⟩ := isRel_nat h
  obtain rfl : m = m' := by omega
  have ok := isRel_ok h
  have key : ∀ j, j ≤ m → Ev (fun k => spec_orBelow.l0 k (i : Int) ((L.relRow (fun j => L.bitAt l j i) j : Nat) : Int) l (l.length : Int) (j : Int)) ((belowN l m i : Nat) : Int) := by
    refine L.down ?_ fun j hj ih => ?_
    · refine L.Ev.succ ?_
      simp only [spec_orBelow.l0]
      exact L.Ev.ifn (by omega) (Ev.now _)
    · refine L.Ev.succ ?_
      simp only [spec_orBelow.l0]
      have hlt : L.relRow (fun j => L.bitAt l j i) j < 2 ^ 62 := Nat.lt_of_lt_of_le (L.relRow_lt _ j) (Nat.pow_le_pow_right (by decide) (by omega))
      have hp : (2 : Nat) ^ j < 2 ^ 62 := Nat.pow_lt_pow_right (by decide) (by omega)
      refine L.Ev.ifp (by omega) (L.Ev.ifp (by omega) (L.Ev.ifp (by omega) (L.Ev.bindc (orHas_eq ok j i hi) ?_)))
      rw [L.shl_one (by omega), L.or_nat hlt hp, L.w64n (by omega)]
      have e : L.relRow (fun j => L.bitAt l j i) (j + 1) = if L.bitAt l j i then L.relRow (fun j => L.bitAt l j i) j ||| 2 ^ j else L.relRow (fun j => L.bitAt l j i) j := rfl
      rw [e] at ih
      cases hb : L.bitAt l j i with
      | true => rw [hb] at ih; exact L.Ev.ifp rfl ih
      | false => rw [hb] at ih; exact L.Ev.ifn (by simp) ih
  exact key 0 (by omega)
theorem mirror_eq {m : Nat} {l : List Int} (h : isRel (m : Int) l = true) : impl_Order_mirror.f (m : Int) l = some ((m : Int), L.relL m fun i j => L.bitAt l j i) := by
  unfold impl_Order_mirror.f
  rw [if_pos (isRel_ok h)]; rfl
theorem rd_mirror (l : List Int) {m i : Nat} (hi : i < m) : rd (L.relL m fun i j => L.bitAt l j i) (i : Int) = ((belowN l m i : Nat) : Int) := by
  unfold L.relL
  rw [L.rd_cast, L.relN_get _ _ hi]; rfl
end Go.Proofs.YtjbloapoaphgjaaDoor.P

/-! ### PuRows -/
/- Plain lemmas: rows of bits that are built element by element; relations that are built row by row or mark by mark. -/
namespace Go.Proofs.YtjbloapoaphgjaaDoor.L
open Go.RowKit Go.Proofs.YtjbloapoaphgjaaDoorW.PrintWords Go.Proofs.YtjbloapoaphgjaaDoorW.PrintLast Go.Proofs.YtjbloapoaphgjaaDoorW.PrintMore
set_option linter.unusedVariables false
set_option linter.unusedSimpArgs false
theorem two_lt {j : Nat} (hj : j ≤ 60) : (2 : Nat) ^ j < 2 ^ 62 := Nat.pow_lt_pow_right (by decide) (by omega)
theorem relRow_lt62 (f : Nat → Bool) {j : Nat} (hj : j ≤ 60) : relRow f j < 2 ^ 62 := Nat.lt_trans (relRow_lt f j) (two_lt hj)
theorem row_yes {f : Nat → Bool} {j : Nat} (h : f j = true) (hj : j ≤ 60) : Go.bits .or .i64 ((relRow f j : Nat) : Int) (shl .i64 1 (j : Int)) = ((relRow f (j + 1) : Nat) : Int) := by
  rw [shl_one (by omega), or_nat (relRow_lt62 f hj) (two_lt hj)]
  show _ = ((if f j = true then _ else _ : Nat) : Int)
  rw [if_pos h]
theorem row_no {f : Nat → Bool} {j : Nat} (h : f j = false) : ((relRow f j : Nat) : Int) = ((relRow f (j + 1) : Nat) : Int) := by
  show _ = ((if f j = true then _ else _ : Nat) : Int)
  rw [if_neg (by rw [h]; simp)]
/-- the first i rows of a relation. -/
def relPre (n : Nat) (is : Nat → Nat → Bool) (i : Nat) : List Int := cast ((List.range i).map fun i => relRow (is i) n)
theorem relPre_zero (n : Nat) (is : Nat → Nat → Bool) : relPre n is 0 = [] := rfl
theorem relPre_length (n : Nat) (is : Nat → Nat → Bool) (i : Nat) : (relPre n is i).length = i := by simp [relPre, cast_length]
theorem relPre_full (n : Nat) (is : Nat → Nat → Bool) : relPre n is n = relL n is := rfl
theorem relPre_succ (n : Nat) (is : Nat → Nat → Bool) (i : Nat) : relPre n is i ++ [((relRow (is i) n : Nat) : Int)] = relPre n is (i + 1) := by
  simp [relPre, cast, List.range_succ]
theorem rd_relL (n : Nat) (is : Nat → Nat → Bool) {i : Nat} (h : i < n) : rd (relL n is) (i : Int) = ((relRow (is i) n : Nat) : Int) := by
  unfold relL; rw [rd_cast, relN_get n is h]
theorem relRow_congr {f g : Nat → Bool} {n : Nat} (h : ∀ j, j < n → f j = g j) : relRow f n = relRow g n := by
  refine Nat.eq_of_testBit_eq fun j => ?_
  rw [relRow_testBit, relRow_testBit]
  by_cases hj : j < n
  · rw [h j hj]
  · simp [hj]
theorem relRow_zero {n : Nat} : relRow (fun _ => false) n = 0 := by
  refine Nat.eq_of_testBit_eq fun j => ?_
  rw [relRow_testBit]; simp
theorem relL_none (n : Nat) : relL n (fun _ _ => false) = List.replicate n 0 := by
  refine List.ext_getElem (by simp [relL_length]) fun i h1 h2 => ?_
  have h3 : i < n := by rw [relL_length] at h1; exact h1
  have e := rd_relL n (fun _ _ => false) h3
  rw [rd_get h1, relRow_zero] at e
  rw [e]; simp
theorem relL_set {n : Nat} {is : Nat → Nat → Bool} {i : Nat} (hi : i < n) (f : Nat → Bool) : (relL n is).set i ((relRow f n : Nat) : Int) = relL n (fun a b => if a = i then f b else is a b) := by
  refine List.ext_getElem (by simp [relL_length]) fun j h1 h2 => ?_
  have h3 : j < n := by rw [relL_length] at h2; exact h2
  rw [List.getElem_set, ← rd_get h2, rd_relL n _ h3]
  by_cases e : i = j
  · subst e
    simp
  · rw [if_neg e, ← rd_get (by rw [relL_length]; exact h3), rd_relL n _ h3]
    exact congrArg (fun (x : Nat) => (x : Int)) (relRow_congr fun b _ => by show is j b = if j = i then f b else is j b; rw [if_neg (by omega)])
/-- a mark more. -/
theorem relL_mark {n : Nat} (hn : n ≤ 60) {is : Nat → Nat → Bool} {i j : Nat} (hi : i < n) (hj : j < n) : (relL n is).set i (Go.bits .or .i64 (rd (relL n is) (i : Int)) (shl .i64 1 (j : Int))) = relL n (fun a b => is a b || (decide (a = i) && decide (b = j))) := by
  rw [rd_relL n is hi, shl_one (by omega), or_nat (relRow_lt62 _ hn) (two_lt (by omega))]
  have e : relRow (is i) n ||| 2 ^ j = relRow (fun b => is i b || decide (b = j)) n := by
    refine Nat.eq_of_testBit_eq fun k => ?_
    rw [Nat.testBit_or, relRow_testBit, relRow_testBit, Nat.testBit_two_pow]
    by_cases hk : k < n
    · by_cases hkj : j = k
      · subst hkj; simp [hk]
      · simp [hk, hkj, show ¬ k = j from fun h => hkj h.symm]
    · simp [hk, show ¬ j = k by omega]
  rw [e, relL_set hi]
  refine relL_congr fun a b ha hb => ?_
  by_cases h : a = i
  · subst h; simp
  · simp [h]
/-- a row more in a row. -/
theorem relL_or {n : Nat} (hn : n ≤ 60) {is : Nat → Nat → Bool} {i k : Nat} (hi : i < n) (hk : k < n) : (relL n is).set i (Go.bits .or .i64 (rd (relL n is) (i : Int)) (rd (relL n is) (k : Int))) = relL n (fun a b => is a b || (decide (a = i) && is k b)) := by
  rw [rd_relL n is hi, rd_relL n is hk, or_nat (relRow_lt62 _ hn) (relRow_lt62 _ hn)]
  have e : relRow (is i) n ||| relRow (is k) n = relRow (fun b => is i b || is k b) n := by
    refine Nat.eq_of_testBit_eq fun j => ?_
    rw [Nat.testBit_or, relRow_testBit, relRow_testBit, relRow_testBit]
    cases decide (j < n) <;> simp
  rw [e, relL_set hi]
  refine relL_congr fun a b ha hb => ?_
  by_cases h : a = i
  · subst h; simp
  · simp [h]
/-- a relation that came in is the relation of its bits. -/
theorem okRel_eq {n : Nat} {l : List Int} (hl : l.length = n) (hn : n ≤ 60) (hb : ∀ x ∈ l, 0 ≤ x ∧ x < 2 ^ n) : l = relL n (bitAt l) := by
  refine List.ext_getElem (by rw [relL_length]; exact hl) fun i h1 h2 => ?_
  have h3 : i < n := by omega
  rw [← rd_get h2, rd_relL n _ h3]
  obtain ⟨a, b⟩ := hb l[i] (List.getElem_mem h1)
  obtain ⟨x, hx⟩ := Int.eq_ofNat_of_zero_le a
  rw [hx]
  have hlt : x < 2 ^ n := by rw [hx] at b; exact_mod_cast b
  congr 1
  refine Nat.eq_of_testBit_eq fun j => ?_
  rw [relRow_testBit]
  have e : bitAt l i j = x.testBit j := by
    unfold bitAt
    rw [List.getD_eq_getElem?_getD, List.getElem?_eq_getElem h1, Option.getD_some, hx, Int.toNat_natCast]
  rw [e]
  by_cases hj : j < n
  · simp [hj]
  · simp only [hj, decide_false, Bool.false_and]
    exact Nat.testBit_lt_two_pow (Nat.lt_of_lt_of_le hlt (Nat.pow_le_pow_right (by decide) (by omega)))
theorem rd_okRel {n : Nat} {l : List Int} (hl : l.length = n) (hn : n ≤ 60) (hb : ∀ x ∈ l, 0 ≤ x ∧ x < 2 ^ n) {i : Nat} (hi : i < n) : rd l (i : Int) = ((relRow (bitAt l i) n : Nat) : Int) := by
  have h := okRel_eq hl hn hb
  have e : rd l (i : Int) = rd (relL n (bitAt l)) (i : Int) := by rw [← h]
  rw [e, rd_relL n _ hi]
end Go.Proofs.YtjbloapoaphgjaaDoor.L

/-! ### PuSets -/
/- Plain laws: sets of elements as numbers. -/
namespace Go.Proofs.YtjbloapoaphgjaaDoor.P
open Go.RowKit Go.Proofs.YtjbloapoaphgjaaDoorW.PrintWords Go.Proofs.YtjbloapoaphgjaaDoorW.PrintLast Go.Proofs.YtjbloapoaphgjaaDoorW.PrintMore L
set_option linter.unusedVariables false
set_option linter.unusedSimpArgs false
def allN (m : Nat) : Nat := 2 ^ m - 1
theorem allN_bit (m i : Nat) : (allN m).testBit i = decide (i < m) := by unfold allN; exact Nat.testBit_two_pow_sub_one ..
theorem allN_lt (m : Nat) : allN m < 2 ^ m := by unfold allN; have := Nat.two_pow_pos m; omega
theorem shl_all {m : Nat} (hm : m ≤ 60) : wrap64 ((shl .i64 1 (m : Int)) - 1) = ((allN m : Nat) : Int) := by
  rw [L.shl_one (by omega)]
  have h := L.two_lt hm
  have h0 := Nat.two_pow_pos m
  unfold allN
  rw [L.w64 (by omega) (by omega)]; omega
theorem relRow_lt10 (f : Nat → Bool) {m : Nat} (hm : m ≤ 10) : L.relRow f m < 1024 :=
  Nat.lt_of_lt_of_le (L.relRow_lt f m) (Nat.pow_le_pow_right (n := 2) (by decide) hm)
theorem two_lt10 {i : Nat} (hm : i < 10) : (2 : Nat) ^ i < 1024 := Nat.pow_lt_pow_right (by decide) hm
theorem allN_lt10 {m : Nat} (hm : m ≤ 10) : allN m < 1024 := Nat.lt_of_lt_of_le (allN_lt m) (Nat.pow_le_pow_right (n := 2) (by decide) hm)
/-- the set of the elements of a list. -/
def setN (l : List Int) : Nat := L.relRow (fun j => decide ((j : Int) ∈ l)) 10
theorem setN_lt (l : List Int) : setN l < 1024 := relRow_lt10 _ (by omega)
theorem setN_bit (l : List Int) (j : Nat) : (setN l).testBit j = (decide (j < 10) && decide ((j : Int) ∈ l)) := L.relRow_testBit _ _ _
theorem setN_nil : setN [] = 0 := by decide +kernel
theorem setN_step (l : List Int) (i x : Nat) (hi : i < l.length) (hx : l[i] = (x : Int)) (h10 : x < 10) : setN (l.take i) ||| 2 ^ x = setN (l.take (i + 1)) := by
  refine Nat.eq_of_testBit_eq fun j => ?_
  rw [Nat.testBit_or, setN_bit, setN_bit, Nat.testBit_two_pow]
  have e : l.take (i + 1) = l.take i ++ [l[i]] := by rw [List.take_add_one, List.getElem?_eq_getElem hi]; rfl
  have e2 : ((j : Int) ∈ l.take (i + 1)) = ((j : Int) ∈ l.take i ∨ x = j) := by
    rw [e, List.mem_append, List.mem_singleton, hx]
    exact propext ⟨fun h => h.imp id fun h => by omega, fun h => h.imp id fun h => by omega⟩
  simp only [e2]
  by_cases hj : j < 10
  · by_cases h1 : (j : Int) ∈ l.take i <;> by_cases h2 : x = j <;> simp [hj, h1, h2]
  · by_cases h2 : x = j
    · omega
    · simp [hj, h2]
theorem int_beq (a b : Nat) : ((a : Int) == (b : Int)) = (a == b) := by
  rw [Bool.eq_iff_iff]; simp only [beq_iff_eq]; omega
end Go.Proofs.YtjbloapoaphgjaaDoor.P

/-! ### PuFree0 -/
/- Plain laws: the set of those that are indifferent to an element, in the reference. -/
namespace Go.Proofs.YtjbloapoaphgjaaDoor.P
open Go.RowKit Go.Proofs.YtjbloapoaphgjaaDoorW.PrintWords Go.Proofs.YtjbloapoaphgjaaDoorW.PrintLast Go.Proofs.YtjbloapoaphgjaaDoorW.PrintMore L
set_option linter.unusedVariables false
set_option linter.unusedSimpArgs false
theorem isRel_len {m : Nat} {l : List Int} (h : isRel (m : Int) l = true) : l.length = m ∧ m ≤ 10 := by
  obtain ⟨m', hm', hm, hlm⟩ := isRel_nat h
  omega
theorem isRel_rows {m : Nat} {l : List Int} (h : isRel (m : Int) l = true) : ∀ x ∈ l, 0 ≤ x ∧ x < 2 ^ m := by
  have := ((isRel_iff _ _).1 h).2.2.2
  rwa [Int.toNat_natCast] at this
theorem rd_isRel {m : Nat} {l : List Int} (h : isRel (m : Int) l = true) {i : Nat} (hi : i < m) : rd l (i : Int) = ((L.relRow (L.bitAt l i) m : Nat) : Int) :=
  L.rd_okRel (isRel_len h).1 (by have := (isRel_len h).2; omega) (isRel_rows h) hi
/-- a relation that came in has no bits beyond its size. -/
theorem bitAt_out {m : Nat} {l : List Int} (h : isRel (m : Int) l = true) {i j : Nat} (hij : m ≤ i ∨ m ≤ j) : L.bitAt l i j = false := by
  obtain ⟨h1, h2⟩ := isRel_len h
  by_cases hi : i < m
  · have e := rd_isRel h hi
    rw [L.rd_nat] at e
    unfold L.bitAt
    rw [e, Int.toNat_natCast, L.relRow_testBit]
    simp [show ¬ j < m by omega]
  · unfold L.bitAt
    rw [List.getD_eq_getElem?_getD, List.getElem?_eq_none (by omega)]
    simp
theorem belowN_lt10 (l : List Int) {m : Nat} (hm : m ≤ 10) (i : Nat) : belowN l m i < 1024 := relRow_lt10 _ hm
/-- the set of those that are indifferent to an element. -/
def freeN (l : List Int) (m i : Nat) : Nat := L.relRow (fun j => !L.bitAt l i j && !L.bitAt l j i && !decide (j = i)) m
theorem freeN_bit (l : List Int) (m i j : Nat) : (freeN l m i).testBit j = (decide (j < m) && (!L.bitAt l i j && !L.bitAt l j i && !decide (j = i))) := L.relRow_testBit _ _ _
theorem free_spec (l : List Int) (m i : Nat) : L.diff (allN m) (L.relRow (L.bitAt l i) m ||| belowN l m i ||| 2 ^ i) = freeN l m i := by
  refine Nat.eq_of_testBit_eq fun j => ?_
  rw [L.diff_testBit, Nat.testBit_or, Nat.testBit_or, allN_bit, L.relRow_testBit, belowN_bit, Nat.testBit_two_pow, freeN_bit]
  by_cases hj : j < m
  · by_cases hij : i = j
    · subst hij; simp
    · simp [hj, hij, show ¬ j = i from fun h => hij h.symm]
  · simp [hj]
theorem free_impl (l : List Int) (m i : Nat) : L.diff (L.diff (L.diff (allN m) (L.relRow (L.bitAt l i) m)) (belowN l m i)) (2 ^ i) = freeN l m i := by
  refine Nat.eq_of_testBit_eq fun j => ?_
  rw [L.diff_testBit, L.diff_testBit, L.diff_testBit, allN_bit, L.relRow_testBit, belowN_bit, Nat.testBit_two_pow, freeN_bit]
  by_cases hj : j < m
  · by_cases hij : i = j
    · subst hij; simp
    · simp [hj, hij, show ¬ j = i from fun h => hij h.symm]
  · simp [hj]
theorem orFree_ev {m : Nat} {l : List Int} (h : isRel (m : Int) l = true) {i : Nat} (hi : i < m) : Ev (fun k => spec_orFree.f k (m : Int) l (i : Int)) ((freeN l m i : Nat) : Int) := by
  obtain ⟨h1, h2⟩ := isRel_len h
  unfold spec_orFree.f
  refine L.Ev.ifp (by omega) (L.Ev.ifp (by omega) (L.Ev.ifp (by omega) (Ev.bind (orBelow_ev h i (by omega)) ?_)))
  have b1 := relRow_lt10 (L.bitAt l i) h2
  have b2 := belowN_lt10 l h2 i
  have b3 := two_lt10 (show i < 10 by omega)
  have b4 := allN_lt10 h2
  have b5 : L.relRow (L.bitAt l i) m ||| belowN l m i < 2 ^ 10 := Nat.or_lt_two_pow b1 b2
  have b6 : L.relRow (L.bitAt l i) m ||| belowN l m i ||| 2 ^ i < 2 ^ 10 := Nat.or_lt_two_pow b5 b3
  rw [shl_all (by omega), rd_isRel h hi, L.or_nat (by omega) (by omega), L.shl_one (by omega), L.or_nat (by omega) (by omega), L.andNot_nat (by omega) (by omega), free_spec]
  exact Ev.now _
end Go.Proofs.YtjbloapoaphgjaaDoor.P

/-! ### PuFree -/
/- Plain laws: the set of all elements, in the program. -/
namespace Go.Proofs.YtjbloapoaphgjaaDoor.P
open Go.RowKit Go.Proofs.YtjbloapoaphgjaaDoorW.PrintWords Go.Proofs.YtjbloapoaphgjaaDoorW.PrintLast Go.Proofs.YtjbloapoaphgjaaDoorW.PrintMore L
set_option linter.unusedVariables false
set_option linter.unusedSimpArgs false
theorem all_eq {m : Nat} (hm : m ≤ 60) (l : List Int) : impl_Order_all.f (m : Int) l = some ((allN m : Nat) : Int) := by
  unfold impl_Order_all.f
  rw [if_pos (by omega), shl_all hm]
end Go.Proofs.YtjbloapoaphgjaaDoor.P

/-! ### PuIndiff -/
/- Plain laws: the sets of those that are indifferent to each element, in the program. -/
namespace Go.Proofs.YtjbloapoaphgjaaDoor.P
open Go.RowKit Go.Proofs.YtjbloapoaphgjaaDoorW.PrintWords Go.Proofs.YtjbloapoaphgjaaDoorW.PrintLast Go.Proofs.YtjbloapoaphgjaaDoorW.PrintMore L
set_option linter.unusedVariables false
set_option linter.unusedSimpArgs false
def freeL (l : List Int) (m i : Nat) : List Int := L.cast ((List.range i).map (freeN l m))
theorem freeL_length (l : List Int) (m i : Nat) : (freeL l m i).length = i := by simp [freeL, L.cast_length]
theorem freeL_succ (l : List Int) (m i : Nat) : freeL l m i ++ [((freeN l m i : Nat) : Int)] = freeL l m (i + 1) := by
  simp [freeL, L.cast, List.range_succ]
theorem rd_freeL (l : List Int) {m i n : Nat} (h : i < n) : rd (freeL l m n) (i : Int) = ((freeN l m i : Nat) : Int) := by
  unfold freeL; rw [L.rd_cast]; simp [List.getD_eq_getElem?_getD, h]
theorem indifferent_ev {m : Nat} {l : List Int} (h : isRel (m : Int) l = true) : Ev (fun k => impl_Order_indifferent.f k (m : Int) l) (freeL l m m) := by
  obtain ⟨h1, h2⟩ := isRel_len h
  have key : ∀ i, i ≤ m → Ev (fun k => impl_Order_indifferent.l0 k (freeL l m i) (m : Int) (i : Int) (m : Int) l (m : Int) (L.relL m fun i j => L.bitAt l j i)) (freeL l m m) := by
    refine L.down ?_ fun i hi ih => ?_
    · refine L.Ev.succ ?_
      simp only [impl_Order_indifferent.l0]
      exact L.Ev.ifn (by omega) (Ev.now _)
    · refine L.Ev.succ ?_
      simp only [impl_Order_indifferent.l0]
      refine L.Ev.ifp (by omega) (L.Ev.bindc (all_eq (by omega) l) (L.Ev.ifp (by omega) (L.Ev.ifp (by omega) (L.Ev.ifp (by rw [L.relL_length]; omega) (L.Ev.ifp (by rw [freeL_length]; omega) ?_)))))
      have b1 := relRow_lt10 (L.bitAt l i) h2
      have b2 := belowN_lt10 l h2 i
      have b3 := two_lt10 (show i < 10 by omega)
      have b4 := allN_lt10 h2
      have b5 : L.diff (allN m) (L.relRow (L.bitAt l i) m) < 2 ^ 10 := L.diff_lt b4
      have b6 : L.diff (L.diff (allN m) (L.relRow (L.bitAt l i) m)) (belowN l m i) < 2 ^ 10 := L.diff_lt b5
      rw [rd_isRel h hi, rd_mirror l hi, L.andNot_nat (by omega) (by omega), L.andNot_nat (by omega) (by omega), L.shl_one (by omega), L.andNot_nat (by omega) (by omega), free_impl, freeL_succ]
      exact Ev.congr (fun k => by rw [L.w64n (by omega)]) ih
  unfold impl_Order_indifferent.f
  exact L.Ev.bindc (mirror_eq h) (key 0 (by omega))
end Go.Proofs.YtjbloapoaphgjaaDoor.P

/-! ### PuMem -/
/- Plain laws: the elements of a set, in the reference; sets of numbers below ten. -/
namespace Go.Proofs.YtjbloapoaphgjaaDoor.P
open Go.RowKit Go.Proofs.YtjbloapoaphgjaaDoorW.PrintWords Go.Proofs.YtjbloapoaphgjaaDoorW.PrintLast Go.Proofs.YtjbloapoaphgjaaDoorW.PrintMore L
set_option linter.unusedVariables false
set_option linter.unusedSimpArgs false
/-- the elements of a set, in order. -/
def membersN (x : Nat) : List Nat := (List.range 10).filter fun i => x.testBit i
theorem membersN_zero : membersN 0 = [] := by decide +kernel
theorem membersN_length (x : Nat) : (membersN x).length ≤ 10 := by
  have := List.length_filter_le (fun i => x.testBit i) (List.range 10)
  rw [List.length_range] at this; exact this
theorem mem_membersN {x i : Nat} : i ∈ membersN x ↔ i < 10 ∧ x.testBit i = true := by simp [membersN]
theorem mem_members_lt {x m i : Nat} (hx : x < 2 ^ m) (h : i ∈ membersN x) : i < m := by
  have h2 := (mem_membersN.1 h).2
  by_cases hi : i < m
  · exact hi
  · rw [Nat.testBit_lt_two_pow (Nat.lt_of_lt_of_le hx (Nat.pow_le_pow_right (by decide) (by omega)))] at h2
    cases h2
theorem orHas_nat {x j : Nat} (hj : j ≤ 64) : spec_orHas.f (x : Int) (j : Int) = some (x.testBit j) := by
  unfold spec_orHas.f
  rw [if_pos (by omega), L.bit_mod hj]
theorem orList_ev (x : Nat) (hx : x < 1024) : Ev (fun k => spec_orList.f k (x : Int)) (L.cast (membersN x)) := by
  have key : ∀ i, i ≤ 10 → Ev (fun k => spec_orList.l0 k (x : Int) (L.cast ((List.range i).filter fun i => x.testBit i)) (i : Int)) (L.cast (membersN x)) := by
    refine L.down ?_ fun i hi ih => ?_
    · refine L.Ev.succ ?_
      simp only [spec_orList.l0]
      refine L.Ev.ifp (by omega) (L.Ev.ifn ?_ (Ev.now _))
      rw [L.shr_nat (by omega), Nat.shiftRight_eq_div_pow, Nat.div_eq_of_lt (by simpa using hx)]; simp
    · refine L.Ev.succ ?_
      simp only [spec_orList.l0]
      refine L.Ev.ifp (by omega) ?_
      rw [L.shr_nat (by omega)]
      by_cases h : x >>> i = 0
      · refine L.Ev.ifn (by rw [h]; simp) ?_
        have hlt : x < 2 ^ i := by
          rw [Nat.shiftRight_eq_div_pow] at h
          exact (Nat.div_eq_zero_iff_lt (Nat.two_pow_pos i)).1 h
        have e : membersN x = (List.range i).filter fun i => x.testBit i := by
          unfold membersN
          rw [show 10 = i + (10 - i) by omega, List.range_add, List.filter_append]
          have e2 : ((List.range (10 - i)).map (i + ·)).filter (fun i => x.testBit i) = [] := by
            rw [List.filter_eq_nil_iff]
            intro a ha
            obtain ⟨b, _, rfl⟩ := List.mem_map.1 ha
            rw [Nat.testBit_lt_two_pow (Nat.lt_of_lt_of_le hlt (Nat.pow_le_pow_right (by decide) (by omega)))]; simp
          rw [e2, List.append_nil]
        rw [e]; exact Ev.now _
      · refine L.Ev.ifp (by have := Nat.pos_of_ne_zero h; exact_mod_cast this) (L.Ev.bindc (orHas_nat (by omega)) ?_)
        have e : (List.range (i + 1)).filter (fun i => x.testBit i) = (List.range i).filter (fun i => x.testBit i) ++ if x.testBit i then [i] else [] := by
          rw [List.range_succ, List.filter_append]
          cases hb : x.testBit i <;> simp [hb]
        rw [e] at ih
        have hlen : ((List.range i).filter fun i => x.testBit i).length ≤ 10 := by
          have := List.length_filter_le (fun i => x.testBit i) (List.range i)
          rw [List.length_range] at this; omega
        cases hb : x.testBit i with
        | true =>
          refine L.Ev.ifp rfl (L.Ev.ifp (by rw [L.cast_length]; omega) ?_)
          rw [hb, if_pos rfl, L.cast_append] at ih
          exact Ev.congr (fun k => by rw [L.w64n (by omega)]; rfl) ih
        | false =>
          refine L.Ev.ifn (by simp) ?_
          rw [hb, if_neg (by simp), List.append_nil] at ih
          exact Ev.congr (fun k => by rw [L.w64n (by omega)]) ih
  exact key 0 (by omega)
end Go.Proofs.YtjbloapoaphgjaaDoor.P

/-! ### PuWithin -/
/- Plain laws: numbers between two numbers, in the program and in the reference. -/
namespace Go.Proofs.YtjbloapoaphgjaaDoor.P
open Go.RowKit Go.Proofs.YtjbloapoaphgjaaDoorW.PrintWords Go.Proofs.YtjbloapoaphgjaaDoorW.PrintLast Go.Proofs.YtjbloapoaphgjaaDoorW.PrintMore L
set_option linter.unusedVariables false
set_option linter.unusedSimpArgs false
theorem within_eq (a b c : Int) : impl_within.f a b c = some (decide (b ≤ a ∧ a ≤ c)) := by
  unfold impl_within.f
  by_cases h : a ≥ b
  · rw [if_pos h]; congr 1; simp; omega
  · rw [if_neg h]; congr 1; simp; omega
theorem l1In_eq (a b c : Int) : spec_l1In.f a b c = some (decide (b ≤ a ∧ a ≤ c)) := within_eq a b c
end Go.Proofs.YtjbloapoaphgjaaDoor.P

/-! ### PuRel -/
/- Plain laws: which lists are relations, for the program and the reference alike; conditions: the numbers are 64-bit numbers. -/
namespace Go.Proofs.YtjbloapoaphgjaaDoor.P
open Go.RowKit Go.Proofs.YtjbloapoaphgjaaDoorW.PrintWords Go.Proofs.YtjbloapoaphgjaaDoorW.PrintLast Go.Proofs.YtjbloapoaphgjaaDoorW.PrintMore L
set_option linter.unusedVariables false
set_option linter.unusedSimpArgs false
/-- all of a list lie between two numbers. -/
def allIn (l : List Int) (b c : Int) : Bool := l.all fun x => decide (b ≤ x ∧ x ≤ c)
theorem allIn_iff (l : List Int) (b c : Int) : allIn l b c = true ↔ ∀ x ∈ l, b ≤ x ∧ x ≤ c := by simp [allIn]
theorem allIn_step (l : List Int) (b c : Int) (i : Nat) (hi : i < l.length) : allIn (l.drop i) b c = (decide (b ≤ l[i] ∧ l[i] ≤ c) && allIn (l.drop (i + 1)) b c) := by
  unfold allIn; rw [List.drop_eq_getElem_cons hi, List.all_cons]
theorem allWithin_ev (l : List Int) (b c : Int) (hl : l.length ≤ 9223372036854775806) : Ev (fun k => impl_allWithin.f k l b c) (allIn l b c) := by
  have key : ∀ i, i ≤ l.length → Ev (fun k => impl_allWithin.l0 k b c l (l.length : Int) (i : Int)) (allIn (l.drop i) b c) := by
    refine L.down ?_ fun i hi ih => ?_
    · refine L.Ev.succ ?_
      simp only [impl_allWithin.l0]
      refine L.Ev.ifn (by omega) ?_
      rw [List.drop_eq_nil_of_le (Nat.le_refl _)]
      exact Ev.now _
    · refine L.Ev.succ ?_
      simp only [impl_allWithin.l0]
      refine L.Ev.ifp (by omega) (L.Ev.ifp (by omega) (L.Ev.ifp (by omega) (L.Ev.bindc (within_eq _ _ _) ?_)))
      rw [allIn_step l b c i hi, L.rd_get hi]
      by_cases h : b ≤ l[i] ∧ l[i] ≤ c
      · refine L.Ev.ifp (by simpa using h) ?_
        simp only [h, and_self, decide_true, Bool.true_and]
        exact Ev.congr (fun k => by rw [L.w64n (by omega)]) ih
      · refine L.Ev.ifn (by simpa using h) ?_
        simp only [h, decide_false, Bool.false_and]
        exact Ev.now _
  exact key 0 (by omega)
theorem l1All_same : ∀ k a b c d e, spec_l1All.l0 k a b c d e = impl_allWithin.l0 k a b c d e := by
  intro k
  induction k with
  | zero => intros; rfl
  | succ k ih => intro a b c d e; simp only [spec_l1All.l0, impl_allWithin.l0, ih, l1In_eq, within_eq]
theorem l1All_ev (l : List Int) (b c : Int) (hl : l.length ≤ 9223372036854775806) : Ev (fun k => spec_l1All.f k l b c) (allIn l b c) :=
  Ev.congr (fun k => l1All_same k b c l _ _) (allWithin_ev l b c hl)
theorem IsRelation_ev (n : Int) (l : List Int) (hl : l.length ≤ 9223372036854775806) : Ev (fun k => impl_IsRelation.f k n l) (isRel n l) := by
  unfold impl_IsRelation.f
  refine L.Ev.bindc (within_eq _ _ _) ?_
  by_cases h : 0 ≤ n ∧ n ≤ 10
  · refine L.Ev.ifp (by simpa using h) ?_
    by_cases h2 : (l.length : Int) = n
    · refine L.Ev.ifp h2 (L.Ev.ifp h.1 ?_)
      obtain ⟨m, rfl⟩ := Int.eq_ofNat_of_zero_le h.1
      have e : wrap64 (shl .i64 1 (m : Int) - 1) = 2 ^ m - 1 := by
        rw [L.shl_one (by omega)]
        have h1 : (2 : Nat) ^ m ≤ 2 ^ 10 := Nat.pow_le_pow_right (by decide) (by omega)
        have e3 : ((2 ^ m : Nat) : Int) = 2 ^ m := by push_cast; rfl
        rw [← e3]
        generalize (2 : Nat) ^ m = z at *
        rw [L.w64 (by omega) (by omega)]
      have e2 : isRel (m : Int) l = allIn l 0 (2 ^ m - 1) := by
        rw [Bool.eq_iff_iff, isRel_iff, allIn_iff, Int.toNat_natCast]
        constructor
        · rintro ⟨_, _, _, h4⟩ x hx
          have := h4 x hx
          omega
        · intro h4
          refine ⟨h.1, h.2, h2, fun x hx => ?_⟩
          have := h4 x hx
          omega
      refine Ev.congr (fun k => ?_) (Ev.bind (allWithin_ev l 0 (2 ^ m - 1) hl) (f := fun _ t => some t) (r := isRel (m : Int) l) (by rw [e2]; exact Ev.now _))
      rw [e]
    · refine L.Ev.ifn h2 ?_
      have e : isRel n l = false := by
        rw [← Bool.not_eq_true, isRel_iff]; rintro ⟨_, _, h3, _⟩; exact h2 h3
      rw [e]; exact Ev.now _
  · refine L.Ev.ifn (by simpa using h) ?_
    have e : isRel n l = false := by
      rw [← Bool.not_eq_true, isRel_iff]; rintro ⟨h3, h4, _⟩; exact h ⟨h3, h4⟩
    rw [e]; exact Ev.now _
theorem orRelation_ev (n : Int) (l : List Int) (hl : l.length ≤ 9223372036854775806) : Ev (fun k => spec_orRelation.f k n l) (isRel n l) := by
  refine Ev.congr (fun k => ?_) (IsRelation_ev n l hl)
  unfold spec_orRelation.f impl_IsRelation.f
  simp only [l1In_eq, within_eq]
  have e : ∀ b c, spec_l1All.f k l b c = impl_allWithin.f k l b c := fun b c => l1All_same k b c l _ _
  simp only [e]
end Go.Proofs.YtjbloapoaphgjaaDoor.P

/-! ### PuRel2 -/
/- Plain laws: relations, with what the program's and the reference's checks come to. -/

/-! ### PuMembers -/
/- Plain laws: the elements of a set, in the program; sets of numbers below ten. -/
namespace Go.Proofs.YtjbloapoaphgjaaDoor.P
open Go.RowKit Go.Proofs.YtjbloapoaphgjaaDoorW.PrintWords Go.Proofs.YtjbloapoaphgjaaDoorW.PrintLast Go.Proofs.YtjbloapoaphgjaaDoorW.PrintMore L
set_option linter.unusedVariables false
set_option linter.unusedSimpArgs false
theorem membersN_step : ∀ x : Nat, x < 1024 → x ≠ 0 → membersN x = Lib.ctz 64 x :: membersN (x &&& (x - 1)) ∧ x &&& (x - 1) < x := by decide +kernel
theorem membersLoop_ev : ∀ x : Nat, x < 1024 → ∀ acc : List Int, acc.length + 10 < 1048576 → Ev (fun k => impl_members.l0 k (x : Int) acc) (acc ++ L.cast (membersN x)) := by
  have key : ∀ n x : Nat, x < n → x < 1024 → ∀ acc : List Int, acc.length + (membersN x).length < 1048600 → Ev (fun k => impl_members.l0 k (x : Int) acc) (acc ++ L.cast (membersN x)) := by
    intro n
    induction n with
    | zero => intro x hx; omega
    | succ n ih =>
      intro x hx h10 acc hacc
      refine L.Ev.succ ?_
      simp only [impl_members.l0]
      by_cases h0 : x = 0
      · subst h0
        rw [membersN_zero]
        refine L.Ev.ifp (by omega) ?_
        have e : acc ++ L.cast [] = acc := by simp [L.cast]
        rw [e]; exact Ev.now _
      · obtain ⟨e1, e2⟩ := membersN_step x h10 h0
        refine L.Ev.ifn (by omega) (L.Ev.bindc (a := ((Lib.ctz 64 x : Nat) : Int)) ?_ (L.Ev.ifp (by omega) ?_))
        · rw [IntKind.wrap_u64]
          unfold bits_TrailingZeros.f
          rw [if_pos (by omega)]
          congr 3; omega
        · rw [L.w64 (by omega) (by omega), show ((x : Int) - 1) = ((x - 1 : Nat) : Int) by omega, L.and_nat (by omega) (by omega), e1]
          rw [e1, List.length_cons] at hacc
          have := ih (x &&& (x - 1)) (by omega) (by omega) (acc ++ [((Lib.ctz 64 x : Nat) : Int)]) (by rw [List.length_append, List.length_singleton]; omega)
          rw [List.append_assoc] at this
          exact this
  intro x hx acc hacc
  have := membersN_length x
  exact key (x + 1) x (by omega) hx acc (by omega)
theorem members_ev (x : Nat) (hx : x < 1024) : Ev (fun k => impl_members.f k (x : Int)) (L.cast (membersN x)) := by
  have := membersLoop_ev x hx [] (by simp)
  rw [List.nil_append] at this
  exact this
end Go.Proofs.YtjbloapoaphgjaaDoor.P

/-! ### PuOrd -/
/- Plain laws: which relations are orders, for the program and the reference alike. -/
namespace Go.Proofs.YtjbloapoaphgjaaDoor.P
open Go.RowKit Go.Proofs.YtjbloapoaphgjaaDoorW.PrintWords Go.Proofs.YtjbloapoaphgjaaDoorW.PrintLast Go.Proofs.YtjbloapoaphgjaaDoorW.PrintMore L
set_option linter.unusedVariables false
set_option linter.unusedSimpArgs false
def rowN (l : List Int) (m i : Nat) : Nat := L.relRow (L.bitAt l i) m
theorem rowN_lt (l : List Int) (m i : Nat) : rowN l m i < 2 ^ m := L.relRow_lt _ _
theorem rowN_bit (l : List Int) (m i j : Nat) : (rowN l m i).testBit j = (decide (j < m) && L.bitAt l i j) := L.relRow_testBit _ _ _
theorem rel_len {m : Nat} {l : List Int} (h : isRel (m : Int) l = true) : l.length = m ∧ m ≤ 10 := by
  obtain ⟨m', hm', hm, hlm⟩ := isRel_nat h
  omega
theorem rd_rowN {m : Nat} {l : List Int} (h : isRel (m : Int) l = true) {i : Nat} (hi : i < m) : rd l (i : Int) = ((rowN l m i : Nat) : Int) := by
  have h2 := ((isRel_iff _ _).1 h).2.2.2
  rw [Int.toNat_natCast] at h2
  exact L.rd_okRel (rel_len h).1 (by have := (rel_len h).2; omega) h2 hi
theorem rowN_lt10 (l : List Int) {m : Nat} (hm : m ≤ 10) (i : Nat) : rowN l m i < 1024 :=
  Nat.lt_of_lt_of_le (rowN_lt l m i) (Nat.pow_le_pow_right (n := 2) (by decide) hm)
def ordRow (l : List Int) (m i : Nat) : Bool := (membersN (rowN l m i)).all fun j => L.diff (rowN l m j) (rowN l m i) == 0
def ordAt (l : List Int) (m i : Nat) : Bool := !L.bitAt l i i && ordRow l m i
def ordB (l : List Int) (m : Nat) : Bool := (List.range m).all (ordAt l m)
def isOrd (n : Int) (l : List Int) : Bool := isRel n l && ordB l n.toNat
theorem range_drop_step (f : Nat → Bool) (n i : Nat) (hi : i < n) : ((List.range n).drop i).all f = (f i && ((List.range n).drop (i + 1)).all f) := by
  rw [List.drop_eq_getElem_cons (by simpa using hi), List.all_cons]; simp
theorem range_drop_end (f : Nat → Bool) (n : Nat) : ((List.range n).drop n).all f = true := by rw [List.drop_eq_nil_of_le (by simp)]; rfl
theorem IsOrderLoop_ev {m : Nat} {l : List Int} (h : isRel (m : Int) l = true) : Ev (fun k => impl_IsOrder.l0 k l (l.length : Int) 0 (m : Int) l) (ordB l m) := by
  obtain ⟨h1, h2⟩ := rel_len h
  have ok := isRel_ok h
  have k1 : ∀ i, i < m → Ev (fun k => impl_IsOrder.l0 k l (l.length : Int) ((i + 1 : Nat) : Int) (m : Int) l) (((List.range m).drop (i + 1)).all (ordAt l m)) →
      ∀ j, j ≤ (membersN (rowN l m i)).length → Ev (fun k => impl_IsOrder.l1 k ((rowN l m i : Nat) : Int) l (l.length : Int) (i : Int) (L.cast (membersN (rowN l m i))) ((L.cast (membersN (rowN l m i))).length : Int) (j : Int) (m : Int) l)
        (((membersN (rowN l m i)).drop j).all (fun j => L.diff (rowN l m j) (rowN l m i) == 0) && ((List.range m).drop (i + 1)).all (ordAt l m)) := by
    intro i hi hk
    have hl10 := membersN_length (rowN l m i)
    refine L.down ?_ fun j hj ih => ?_
    · refine L.Ev.succ ?_
      simp only [impl_IsOrder.l1]
      rw [List.drop_eq_nil_of_le (Nat.le_refl _), List.all_nil, Bool.true_and]
      refine L.Ev.ifn (by rw [L.cast_length]; omega) ?_
      rw [L.w64n (by omega)]; exact hk
    · refine L.Ev.succ ?_
      simp only [impl_IsOrder.l1]
      have hmem := mem_members_lt (rowN_lt l m i) (List.getElem_mem hj)
      have e : rd (L.cast (membersN (rowN l m i))) (j : Int) = (((membersN (rowN l m i))[j] : Nat) : Int) := by
        rw [L.rd_cast, List.getD_eq_getElem?_getD, List.getElem?_eq_getElem hj]; rfl
      rw [e, rd_rowN h hmem, L.andNot_nat (by have := rowN_lt10 l h2 (membersN (rowN l m i))[j]; omega) (by have := rowN_lt10 l h2 i; omega), List.drop_eq_getElem_cons hj, List.all_cons]
      refine L.Ev.ifp (by rw [L.cast_length]; omega) (L.Ev.ifp (by omega) (L.Ev.ifp (by rw [L.cast_length]; omega) (L.Ev.ifp (by omega) (L.Ev.ifp (by omega) ?_))))
      by_cases hd : L.diff (rowN l m (membersN (rowN l m i))[j]) (rowN l m i) = 0
      · refine L.Ev.ifp (by rw [hd]; rfl) ?_
        have e2 : (L.diff (rowN l m (membersN (rowN l m i))[j]) (rowN l m i) == 0) = true := by rw [hd]; rfl
        rw [e2, Bool.true_and]
        exact Ev.congr (fun k => by rw [L.w64n (by omega)]) ih
      · refine L.Ev.ifn (by omega) ?_
        have e2 : (L.diff (rowN l m (membersN (rowN l m i))[j]) (rowN l m i) == 0) = false := by simp [hd]
        rw [e2, Bool.false_and, Bool.false_and]
        exact Ev.now _
  have k0 : ∀ i, i ≤ m → Ev (fun k => impl_IsOrder.l0 k l (l.length : Int) (i : Int) (m : Int) l) (((List.range m).drop i).all (ordAt l m)) := by
    refine L.down ?_ fun i hi ih => ?_
    · refine L.Ev.succ ?_
      simp only [impl_IsOrder.l0]
      rw [range_drop_end]
      exact L.Ev.ifn (by omega) (Ev.now _)
    · refine L.Ev.succ ?_
      simp only [impl_IsOrder.l0]
      rw [range_drop_step _ _ _ hi]
      refine L.Ev.ifp (by omega) (L.Ev.ifp (by omega) (L.Ev.ifp (by omega) (L.Ev.bindc (impl_Order_better.tells ok i i (by omega) (by omega)) ?_)))
      unfold ordAt
      cases hb : L.bitAt l i i with
      | true => exact L.Ev.ifp rfl (by simp only [Bool.not_true, Bool.false_and]; exact Ev.now _)
      | false =>
        refine L.Ev.ifn (by simp) ?_
        rw [rd_rowN h hi]
        refine Ev.bind (members_ev _ (rowN_lt10 l h2 i)) ?_
        have := k1 i hi ih 0 (by omega)
        rw [List.drop_zero] at this
        simp only [Bool.not_false, Bool.true_and]
        exact this
  have := k0 0 (by omega)
  rw [List.drop_zero] at this
  exact this
theorem orGoodLoop_ev {m : Nat} {l : List Int} (h : isRel (m : Int) l = true) : Ev (fun k => spec_orGood.l0 k l (l.length : Int) 0 (m : Int) l) (ordB l m) := by
  obtain ⟨h1, h2⟩ := rel_len h
  have ok := isRel_ok h
  have k1 : ∀ i, i < m → Ev (fun k => spec_orGood.l0 k l (l.length : Int) ((i + 1 : Nat) : Int) (m : Int) l) (((List.range m).drop (i + 1)).all (ordAt l m)) →
      ∀ j, j ≤ (membersN (rowN l m i)).length → Ev (fun k => spec_orGood.l1 k ((rowN l m i : Nat) : Int) l (l.length : Int) (i : Int) (L.cast (membersN (rowN l m i))) ((L.cast (membersN (rowN l m i))).length : Int) (j : Int) (m : Int) l)
        (((membersN (rowN l m i)).drop j).all (fun j => L.diff (rowN l m j) (rowN l m i) == 0) && ((List.range m).drop (i + 1)).all (ordAt l m)) := by
    intro i hi hk
    have hl10 := membersN_length (rowN l m i)
    refine L.down ?_ fun j hj ih => ?_
    · refine L.Ev.succ ?_
      simp only [spec_orGood.l1]
      rw [List.drop_eq_nil_of_le (Nat.le_refl _), List.all_nil, Bool.true_and]
      refine L.Ev.ifn (by rw [L.cast_length]; omega) ?_
      rw [L.w64n (by omega)]; exact hk
    · refine L.Ev.succ ?_
      simp only [spec_orGood.l1]
      have hmem := mem_members_lt (rowN_lt l m i) (List.getElem_mem hj)
      have e : rd (L.cast (membersN (rowN l m i))) (j : Int) = (((membersN (rowN l m i))[j] : Nat) : Int) := by
        rw [L.rd_cast, List.getD_eq_getElem?_getD, List.getElem?_eq_getElem hj]; rfl
      rw [e, rd_rowN h hmem, L.andNot_nat (by have := rowN_lt10 l h2 (membersN (rowN l m i))[j]; omega) (by have := rowN_lt10 l h2 i; omega), List.drop_eq_getElem_cons hj, List.all_cons]
      refine L.Ev.ifp (by rw [L.cast_length]; omega) (L.Ev.ifp (by omega) (L.Ev.ifp (by rw [L.cast_length]; omega) (L.Ev.ifp (by omega) (L.Ev.ifp (by omega) ?_))))
      by_cases hd : L.diff (rowN l m (membersN (rowN l m i))[j]) (rowN l m i) = 0
      · refine L.Ev.ifp (by rw [hd]; rfl) ?_
        have e2 : (L.diff (rowN l m (membersN (rowN l m i))[j]) (rowN l m i) == 0) = true := by rw [hd]; rfl
        rw [e2, Bool.true_and]
        exact Ev.congr (fun k => by rw [L.w64n (by omega)]) ih
      · refine L.Ev.ifn (by omega) ?_
        have e2 : (L.diff (rowN l m (membersN (rowN l m i))[j]) (rowN l m i) == 0) = false := by simp [hd]
        rw [e2, Bool.false_and, Bool.false_and]
        exact Ev.now _
  have k0 : ∀ i, i ≤ m → Ev (fun k => spec_orGood.l0 k l (l.length : Int) (i : Int) (m : Int) l) (((List.range m).drop i).all (ordAt l m)) := by
    refine L.down ?_ fun i hi ih => ?_
    · refine L.Ev.succ ?_
      simp only [spec_orGood.l0]
      rw [range_drop_end]
      exact L.Ev.ifn (by omega) (Ev.now _)
    · refine L.Ev.succ ?_
      simp only [spec_orGood.l0]
      rw [range_drop_step _ _ _ hi]
      refine L.Ev.ifp (by omega) (L.Ev.ifp (by omega) (L.Ev.ifp (by omega) (L.Ev.bindc (orHas_eq ok i i (by omega)) ?_)))
      unfold ordAt
      cases hb : L.bitAt l i i with
      | true => exact L.Ev.ifp rfl (by simp only [Bool.not_true, Bool.false_and]; exact Ev.now _)
      | false =>
        refine L.Ev.ifn (by simp) ?_
        rw [rd_rowN h hi]
        refine Ev.bind (orList_ev _ (rowN_lt10 l h2 i)) ?_
        have := k1 i hi ih 0 (by omega)
        rw [List.drop_zero] at this
        simp only [Bool.not_false, Bool.true_and]
        exact this
  have := k0 0 (by omega)
  rw [List.drop_zero] at this
  exact this
theorem IsOrder_ev (n : Int) (l : List Int) (hl : l.length ≤ 1048576) : Ev (fun k => impl_IsOrder.f k n l) (isOrd n l) := by
  unfold impl_IsOrder.f isOrd
  refine Ev.bind (IsRelation_ev n l (by omega)) ?_
  cases h : isRel n l with
  | false => exact L.Ev.ifn (by simp) (by rw [Bool.false_and]; exact Ev.now _)
  | true =>
    obtain ⟨m, rfl, hm, hlm⟩ := isRel_nat h
    refine L.Ev.ifp rfl ?_
    rw [Bool.true_and, Int.toNat_natCast]
    exact IsOrderLoop_ev h
theorem orGood_ev (n : Int) (l : List Int) (hl : l.length ≤ 1048576) : Ev (fun k => spec_orGood.f k n l) (isOrd n l) := by
  unfold spec_orGood.f isOrd
  refine Ev.bind (orRelation_ev n l (by omega)) ?_
  cases h : isRel n l with
  | false => exact L.Ev.ifn (by simp) (by rw [Bool.false_and]; exact Ev.now _)
  | true =>
    obtain ⟨m, rfl, hm, hlm⟩ := isRel_nat h
    refine L.Ev.ifp rfl ?_
    rw [Bool.true_and, Int.toNat_natCast]
    exact orGoodLoop_ev h
theorem isOrd_rel {n : Int} {l : List Int} (h : isOrd n l = true) : isRel n l = true := by
  unfold isOrd at h; rw [Bool.and_eq_true] at h; exact h.1
end Go.Proofs.YtjbloapoaphgjaaDoor.P

/-! ### PuMemAsc -/
/- Plain laws: the members of a set, in order. -/
namespace Go.Proofs.YtjbloapoaphgjaaDoor.P
open Go.RowKit Go.Proofs.YtjbloapoaphgjaaDoorW.PrintWords Go.Proofs.YtjbloapoaphgjaaDoorW.PrintLast Go.Proofs.YtjbloapoaphgjaaDoorW.PrintMore L
set_option linter.unusedVariables false
set_option linter.unusedSimpArgs false
theorem asc_extN : ∀ (a b : List Nat), a.Pairwise (· < ·) → b.Pairwise (· < ·) → (∀ x, x ∈ a ↔ x ∈ b) → a = b
  | [], [], _, _, _ => rfl
  | [], y :: b, _, _, h => by have := (h y).2 (List.mem_cons_self ..); cases this
  | x :: a, [], _, _, h => by have := (h x).1 (List.mem_cons_self ..); cases this
  | x :: a, y :: b, ha, hb, h => by
    obtain ⟨ha1, ha2⟩ := List.pairwise_cons.1 ha
    obtain ⟨hb1, hb2⟩ := List.pairwise_cons.1 hb
    have exy : x = y := by
      rcases List.mem_cons.1 ((h x).1 (List.mem_cons_self ..)) with e | e
      · exact e
      · rcases List.mem_cons.1 ((h y).2 (List.mem_cons_self ..)) with e2 | e2
        · exact e2.symm
        · have := hb1 x e; have := ha1 y e2; omega
    subst exy
    rw [asc_extN a b ha2 hb2 fun z => by
      have := h z
      simp only [List.mem_cons] at this
      constructor
      · intro hz
        have hx := ha1 z hz
        rcases this.1 (.inr hz) with e | e
        · omega
        · exact e
      · intro hz
        have hx := hb1 z hz
        rcases this.2 (.inr hz) with e | e
        · omega
        · exact e]
theorem membersN_asc (x : Nat) : (membersN x).Pairwise (· < ·) := List.pairwise_lt_range.filter _
theorem range_asc (m : Nat) : (List.range m).Pairwise (· < ·) := List.pairwise_lt_range
theorem membersN_all {m : Nat} (hm : m ≤ 10) : membersN (allN m) = List.range m :=
  asc_extN _ _ (membersN_asc _) (range_asc _) fun x => by rw [mem_membersN, allN_bit, List.mem_range]; simp; omega
end Go.Proofs.YtjbloapoaphgjaaDoor.P

/-! ### PuAntichain -/
/- Plain laws: the largest antichain, in the program and in the reference. -/
namespace Go.Proofs.YtjbloapoaphgjaaDoor.P
open Go.RowKit Go.Proofs.YtjbloapoaphgjaaDoorW.PrintWords Go.Proofs.YtjbloapoaphgjaaDoorW.PrintLast Go.Proofs.YtjbloapoaphgjaaDoorW.PrintMore L
set_option linter.unusedVariables false
set_option linter.unusedSimpArgs false
theorem membersN_sub {m x : Nat} (hm : m ≤ 10) (hx : x < 2 ^ m) : (membersN x).Sublist (List.range m) := by
  have e : membersN x = (List.range m).filter fun i => x.testBit i := asc_extN _ _ (membersN_asc _) ((range_asc m).filter _) fun y => by
    rw [mem_membersN, List.mem_filter, List.mem_range]
    constructor
    · rintro ⟨h1, h2⟩
      exact ⟨mem_members_lt hx (mem_membersN.2 ⟨h1, h2⟩), h2⟩
    · rintro ⟨h1, h2⟩; exact ⟨by omega, h2⟩
  rw [e]; exact List.filter_sublist
def freeB (l : List Int) (m i j : Nat) : Bool := (freeN l m i).testBit j
theorem freeB_irrefl (l : List Int) (m i : Nat) : freeB l m i i = false := by unfold freeB; rw [freeN_bit]; simp
theorem freeB_symm (l : List Int) {m i j : Nat} (hi : i < m) (hj : j < m) (h : freeB l m i j = true) : freeB l m j i = true := by
  unfold freeB at *
  rw [freeN_bit] at *
  simp only [Bool.and_eq_true, Bool.not_eq_true', decide_eq_true_eq, decide_eq_false_iff_not] at *
  exact ⟨hi, ⟨h.2.1.2, h.2.1.1⟩, fun e => h.2.2 e.symm⟩
/-- a set none of whose elements are comparable, as the program asks it. -/
def fitAt (l : List Int) (m s i : Nat) : Bool := L.diff (L.diff s (freeN l m i)) (2 ^ i) == 0
def fitB (l : List Int) (m s : Nat) : Bool := (membersN s).all (fitAt l m s)
theorem fitAt_iff (l : List Int) (m s i : Nat) : fitAt l m s i = true ↔ ∀ j, s.testBit j = true → j ≠ i → freeB l m i j = true := by
  unfold fitAt freeB
  rw [beq_iff_eq]
  constructor
  · intro h j hj hne
    have := congrArg (fun x => x.testBit j) h
    simp only [L.diff_testBit, hj, Nat.testBit_two_pow, Nat.zero_testBit, Bool.true_and] at this
    rw [decide_eq_false (show ¬ i = j from fun e => hne e.symm)] at this
    simpa using this
  · intro h
    refine Nat.eq_of_testBit_eq fun j => ?_
    rw [L.diff_testBit, L.diff_testBit, Nat.testBit_two_pow, Nat.zero_testBit]
    cases hj : s.testBit j with
    | false => simp
    | true =>
      by_cases e : i = j
      · simp [e]
      · rw [h j hj (fun e2 => e e2.symm)]; simp
theorem pw_of {f : Nat → Nat → Bool} : ∀ (L : List Nat), L.Pairwise (· < ·) → (∀ x ∈ L, ∀ y ∈ L, y ≠ x → f x y = true) → Anti.pw f L = true
  | [], _, _ => rfl
  | x :: L, h, k => by
    obtain ⟨h1, h2⟩ := List.pairwise_cons.1 h
    simp only [Anti.pw, Bool.and_eq_true, List.all_eq_true]
    refine ⟨fun y hy => k x (List.mem_cons_self ..) y (List.mem_cons_of_mem _ hy) (by have := h1 y hy; omega), pw_of L h2 fun a ha b hb => k a (List.mem_cons_of_mem _ ha) b (List.mem_cons_of_mem _ hb)⟩
theorem of_pw {f : Nat → Nat → Bool} : ∀ (L : List Nat), (∀ x ∈ L, ∀ y ∈ L, f x y = true → f y x = true) → Anti.pw f L = true → ∀ x ∈ L, ∀ y ∈ L, y ≠ x → f x y = true
  | [], _, _, x, hx, _, _, _ => by cases hx
  | a :: L, hs, h, x, hx, y, hy, hne => by
    simp only [Anti.pw, Bool.and_eq_true, List.all_eq_true] at h
    rcases List.mem_cons.1 hx with rfl | hx2
    · rcases List.mem_cons.1 hy with rfl | hy2
      · exact absurd rfl hne
      · exact h.1 y hy2
    · rcases List.mem_cons.1 hy with rfl | hy2
      · exact hs _ (List.mem_cons_self ..) _ hx (h.1 x hx2)
      · exact of_pw L (fun x hx y hy => hs x (List.mem_cons_of_mem _ hx) y (List.mem_cons_of_mem _ hy)) h.2 x hx2 y hy2 hne
theorem fit_yes {l : List Int} {m s : Nat} (hm : m ≤ 10) (hs : s < 2 ^ m) (h : fitB l m s = true) : (membersN s).Sublist (List.range m) ∧ Anti.pw (freeB l m) (membersN s) = true := by
  refine ⟨membersN_sub hm hs, pw_of _ (membersN_asc s) fun x hx y hy hne => ?_⟩
  unfold fitB at h
  rw [List.all_eq_true] at h
  exact (fitAt_iff l m s x).1 (h x hx) y (mem_membersN.1 hy).2 hne
theorem fit_all {l : List Int} {m : Nat} (hm : m ≤ 10) (A : List Nat) (hA : A.Sublist (List.range m)) (h : Anti.pw (freeB l m) A = true) : ∃ s, s < 2 ^ m ∧ fitB l m s = true ∧ membersN s = A := by
  have hlt : ∀ x ∈ A, x < m := fun x hx => List.mem_range.1 (hA.subset hx)
  have e : membersN (L.relRow (fun i => decide (i ∈ A)) m) = A := asc_extN _ _ (membersN_asc _) ((range_asc m).sublist hA) fun x => by
    rw [mem_membersN, L.relRow_testBit]
    simp only [Bool.and_eq_true, decide_eq_true_eq]
    exact ⟨fun h => h.2.2, fun h => ⟨by have := hlt x h; omega, hlt x h, h⟩⟩
  refine ⟨L.relRow (fun i => decide (i ∈ A)) m, L.relRow_lt _ _, ?_, e⟩
  have hp := of_pw A (fun x hx y hy => freeB_symm l (hlt x hx) (hlt y hy)) h
  unfold fitB
  rw [List.all_eq_true, e]
  intro x hx
  refine (fitAt_iff _ _ _ _).2 fun j hj hne => ?_
  rw [L.relRow_testBit] at hj
  simp only [Bool.and_eq_true, decide_eq_true_eq] at hj
  exact hp x hx j hj.2 hne
/-! ### the program's comparison of lists -/
theorem isNaN_eq (a : Int) : cmp_isNaN_int.f a = some false := by unfold cmp_isNaN_int.f; simp
theorem cmp_eq (a b : Int) : cmp_Compare_int.f a b = some (if a < b then -1 else if b < a then 1 else 0) := by
  unfold cmp_Compare_int.f
  rw [isNaN_eq, isNaN_eq]
  simp only [Option.bind_some]
  rw [if_neg (by simp), if_neg (by simp)]
  by_cases h : a < b
  · rw [if_pos h, if_pos h]
  · rw [if_neg h, if_neg h]
    by_cases h2 : b < a
    · rw [if_pos (show a > b from h2), if_pos h2]
    · rw [if_neg (show ¬ a > b from h2), if_neg h2]
theorem Compare_ev (a b : List Nat) (ha : a.length ≤ 1048576) : ∃ c : Int, Ev (fun k => slices_Compare_int_int.f k (L.cast a) (L.cast b)) c ∧ (c < 0 ↔ Anti.lexlt a b = true) := by
  have key : ∀ j, j ≤ a.length → ∃ c : Int, Ev (fun k => slices_Compare_int_int.l0 k (L.cast a) (L.cast b) (L.cast a) ((L.cast a).length : Int) (j : Int)) c ∧ (j ≤ b.length → (c < 0 ↔ Anti.lexlt (a.drop j) (b.drop j) = true)) := by
    refine L.down ?_ fun j hj ih => ?_
    · by_cases h : (L.cast a).length < (L.cast b).length
      · refine ⟨-1, ?_, fun _ => ?_⟩
        · refine L.Ev.succ ?_
          simp only [slices_Compare_int_int.l0]
          exact L.Ev.ifn (by rw [L.cast_length]; omega) (L.Ev.ifp (by omega) (Ev.now _))
        · rw [L.cast_length, L.cast_length] at h
          rw [List.drop_eq_nil_of_le (Nat.le_refl _), List.drop_eq_getElem_cons h]
          simp [Anti.lexlt]
      · refine ⟨0, ?_, fun hb => ?_⟩
        · refine L.Ev.succ ?_
          simp only [slices_Compare_int_int.l0]
          exact L.Ev.ifn (by rw [L.cast_length]; omega) (L.Ev.ifn (by omega) (Ev.now _))
        · rw [L.cast_length, L.cast_length] at h
          rw [List.drop_eq_nil_of_le (Nat.le_refl _), List.drop_eq_nil_of_le (by omega)]
          simp [Anti.lexlt]
    · by_cases hb : b.length ≤ j
      · refine ⟨1, ?_, fun hb2 => ?_⟩
        · refine L.Ev.succ ?_
          simp only [slices_Compare_int_int.l0]
          exact L.Ev.ifp (by rw [L.cast_length]; omega) (L.Ev.ifp (by omega) (L.Ev.ifp (by rw [L.cast_length]; omega) (L.Ev.ifp (by rw [L.cast_length]; omega) (Ev.now _))))
        · rw [List.drop_eq_getElem_cons hj, List.drop_eq_nil_of_le hb]
          simp [Anti.lexlt]
      · obtain ⟨c, hc, hc2⟩ := ih
        have ea : rd (L.cast a) (j : Int) = ((a[j] : Nat) : Int) := by rw [L.rd_cast, List.getD_eq_getElem?_getD, List.getElem?_eq_getElem hj]; rfl
        have eb : rd (L.cast b) (j : Int) = ((b[j] : Nat) : Int) := by rw [L.rd_cast, List.getD_eq_getElem?_getD, List.getElem?_eq_getElem (show j < b.length by omega)]; rfl
        refine ⟨if a[j] < b[j] then -1 else if b[j] < a[j] then 1 else c, ?_, fun _ => ?_⟩
        · refine L.Ev.succ ?_
          simp only [slices_Compare_int_int.l0]
          refine L.Ev.ifp (by rw [L.cast_length]; omega) (L.Ev.ifp (by omega) (L.Ev.ifp (by rw [L.cast_length]; omega) (L.Ev.ifn (by rw [L.cast_length]; omega) (L.Ev.ifp (by rw [L.cast_length]; omega) ?_))))
          rw [ea, eb]
          refine L.Ev.bindc (cmp_eq _ _) ?_
          by_cases h : a[j] < b[j]
          · rw [if_pos (by omega), if_pos h]
            exact L.Ev.ifn (by decide) (Ev.now _)
          · by_cases h2 : b[j] < a[j]
            · rw [if_neg (by omega), if_pos (by omega), if_neg h, if_pos h2]
              exact L.Ev.ifn (by decide) (Ev.now _)
            · rw [if_neg (by omega), if_neg (by omega), if_neg h, if_neg h2, L.w64n (by omega)]
              exact L.Ev.ifp rfl hc
        · rw [List.drop_eq_getElem_cons hj, List.drop_eq_getElem_cons (show j < b.length by omega)]
          simp only [Anti.lexlt]
          have := hc2 (by omega)
          by_cases h : a[j] < b[j]
          · simp [h]
          · by_cases h2 : b[j] < a[j]
            · simp [h, h2]
            · simp only [h, h2, if_false]; exact this
  obtain ⟨c, h1, h2⟩ := key 0 (by omega)
  refine ⟨c, h1, ?_⟩
  have := h2 (by omega)
  rwa [List.drop_zero, List.drop_zero] at this
/-! ### the program -/
theorem best_len (l : List Int) {m : Nat} (hm : m ≤ 10) : ∀ s, (Anti.best (fitB l m) membersN s).length ≤ 10 := by
  intro s
  rcases (Anti.best_props (fitB l m) membersN s).1 with h | ⟨i, _, _, h⟩
  · rw [h]; simp
  · rw [h]; exact membersN_length i
theorem antichain_ev {m : Nat} {l : List Int} (h : isRel (m : Int) l = true) : Ev (fun k => impl_Order_antichain.f k (m : Int) l) (L.cast (Anti.best (fitB l m) membersN (2 ^ m))) := by
  obtain ⟨h1, h2⟩ := rel_len h
  have h1024 : (2 : Nat) ^ m ≤ 1024 := Nat.pow_le_pow_right (n := 2) (by decide) h2
  have k1 : ∀ s, s < 2 ^ m → ∀ R, Ev (fun k => impl_Order_antichain.l0 k (L.cast (Anti.best (fitB l m) membersN (s + 1))) (freeL l m m) ((2 ^ m : Nat) : Int) ((s + 1 : Nat) : Int)) R →
      ∀ j, j ≤ (membersN s).length → ∀ b : Bool, (b && ((membersN s).drop j).all (fitAt l m s)) = fitB l m s →
      Ev (fun k => impl_Order_antichain.l1 k (L.cast (Anti.best (fitB l m) membersN s)) (freeL l m m) (s : Int) (L.cast (membersN s)) b ((2 ^ m : Nat) : Int) (s : Int) (L.cast (membersN s)) ((L.cast (membersN s)).length : Int) (j : Int)) R := by
    intro s hs R hk
    have hml := membersN_length s
    have hbl := best_len l h2 s
    refine L.down ?_ fun j hj ih => ?_
    · intro b hb
      rw [List.drop_eq_nil_of_le (Nat.le_refl _), List.all_nil, Bool.and_true] at hb
      refine L.Ev.succ ?_
      simp only [impl_Order_antichain.l1]
      refine L.Ev.ifn (by rw [L.cast_length]; omega) ?_
      rw [L.w64n (by omega)]
      rw [Anti.best_succ, ← hb] at hk
      cases b with
      | false => exact L.Ev.ifn (by simp) hk
      | true =>
        rw [if_pos rfl] at hk
        unfold Anti.keep at hk
        refine L.Ev.ifp rfl ?_
        rw [L.cast_length, L.cast_length]
        by_cases g1 : (membersN s).length > (Anti.best (fitB l m) membersN s).length
        · rw [if_pos (.inl g1)] at hk
          exact L.Ev.ifp (by omega) hk
        · refine L.Ev.ifn (by omega) ?_
          by_cases g2 : (membersN s).length = (Anti.best (fitB l m) membersN s).length
          · refine L.Ev.ifp (by omega) ?_
            obtain ⟨c, hc1, hc2⟩ := Compare_ev (membersN s) (Anti.best (fitB l m) membersN s) (by omega)
            refine Ev.bind hc1 ?_
            by_cases g3 : c < 0
            · rw [if_pos (.inr ⟨g2, hc2.1 g3⟩)] at hk
              exact L.Ev.ifp g3 hk
            · rw [if_neg (by rintro (g | ⟨_, g⟩); exact g1 g; exact g3 (hc2.2 g))] at hk
              exact L.Ev.ifn g3 hk
          · rw [if_neg (by rintro (g | ⟨g, _⟩); exact g1 g; exact g2 g)] at hk
            exact L.Ev.ifn (by omega) hk
    · intro b hb
      have hx := mem_members_lt hs (List.getElem_mem hj)
      have e : rd (L.cast (membersN s)) (j : Int) = (((membersN s)[j] : Nat) : Int) := by
        rw [L.rd_cast, List.getD_eq_getElem?_getD, List.getElem?_eq_getElem hj]; rfl
      rw [List.drop_eq_getElem_cons hj, List.all_cons] at hb
      refine L.Ev.succ ?_
      simp only [impl_Order_antichain.l1]
      refine L.Ev.ifp (by rw [L.cast_length]; omega) (L.Ev.ifp (by omega) (L.Ev.ifp (by rw [L.cast_length]; omega) ?_))
      rw [L.w64n (n := j) (by omega)]
      cases b with
      | false => exact L.Ev.ifn (by simp) (ih false (by simpa using hb))
      | true =>
        rw [e]
        refine L.Ev.ifp rfl (L.Ev.ifp (by omega) (L.Ev.ifp (by rw [freeL_length]; omega) ?_))
        have b1 : L.diff s (freeN l m (membersN s)[j]) < 2 ^ m := L.diff_lt hs
        have b2 := relRow_lt10 (fun i => !L.bitAt l (membersN s)[j] i && !L.bitAt l i (membersN s)[j] && !decide (i = (membersN s)[j])) h2
        have b3 : freeN l m (membersN s)[j] < 1024 := b2
        have b4 := two_lt10 (show (membersN s)[j] < 10 by omega)
        rw [rd_freeL l hx, L.shl_one (by omega), L.andNot_nat (by omega) (by omega), L.andNot_nat (by omega) (by omega), show (0 : Int) = ((0 : Nat) : Int) from rfl, int_beq]
        exact ih _ (by rw [Bool.true_and] at hb; exact hb)
  have k0 : ∀ s, s ≤ 2 ^ m → Ev (fun k => impl_Order_antichain.l0 k (L.cast (Anti.best (fitB l m) membersN s)) (freeL l m m) ((2 ^ m : Nat) : Int) (s : Int)) (L.cast (Anti.best (fitB l m) membersN (2 ^ m))) := by
    refine L.down ?_ fun s hs ih => ?_
    · refine L.Ev.succ ?_
      simp only [impl_Order_antichain.l0]
      exact L.Ev.ifn (by omega) (Ev.now _)
    · refine L.Ev.succ ?_
      simp only [impl_Order_antichain.l0]
      refine L.Ev.ifp (by omega) (Ev.bind (members_ev s (by omega)) ?_)
      exact k1 s hs _ ih 0 (by omega) true (by simp [fitB])
  unfold impl_Order_antichain.f
  refine Ev.bind (indifferent_ev h) (L.Ev.ifp (by omega) ?_)
  rw [L.shl_one (by omega)]
  exact k0 0 (Nat.zero_le _)
/-! ### the reference -/
theorem rest_members {l : List Int} {m s : Nat} (j : Nat) (hj : j < (membersN s).length) :
    membersN (L.diff (s &&& freeN l m (membersN s)[j]) (allN (membersN s)[j])) = ((membersN s).drop (j + 1)).filter (freeB l m (membersN s)[j]) := by
  have hasc := membersN_asc s
  have hd : (membersN s).drop j = (membersN s)[j] :: (membersN s).drop (j + 1) := List.drop_eq_getElem_cons hj
  refine asc_extN _ _ (membersN_asc _) ((hasc.sublist (List.drop_sublist _ _)).filter _) fun x => ?_
  rw [mem_membersN, L.diff_testBit, Nat.testBit_and, allN_bit, List.mem_filter]
  have hsplit : membersN s = (membersN s).take j ++ (membersN s)[j] :: (membersN s).drop (j + 1) := by rw [← hd, List.take_append_drop]
  have hp : ((membersN s).take j ++ (membersN s)[j] :: (membersN s).drop (j + 1)).Pairwise (· < ·) := by rw [← hsplit]; exact hasc
  rw [List.pairwise_append, List.pairwise_cons] at hp
  obtain ⟨_, ⟨hp2, _⟩, hp3⟩ := hp
  unfold freeB
  simp only [Bool.and_eq_true, Bool.not_eq_true', decide_eq_false_iff_not]
  constructor
  · rintro ⟨h1, ⟨h2, h3⟩, h4⟩
    refine ⟨?_, h3⟩
    have hm : x ∈ membersN s := mem_membersN.2 ⟨h1, h2⟩
    rw [hsplit, List.mem_append, List.mem_cons] at hm
    rcases hm with hm | hm | hm
    · have := hp3 x hm _ (List.mem_cons_self ..); omega
    · rw [hm] at h3
      have := freeB_irrefl l m (membersN s)[j]
      unfold freeB at this
      rw [this] at h3; cases h3
    · exact hm
  · rintro ⟨h1, h2⟩
    have hm : x ∈ membersN s := (List.drop_sublist (j + 1) (membersN s)).subset h1
    have := hp2 x h1
    exact ⟨(mem_membersN.1 hm).1, ⟨(mem_membersN.1 hm).2, h2⟩, by omega⟩
theorem lgL_len (f : Nat → Nat → Bool) {xs : List Nat} (h : xs.Pairwise (· < ·)) : (Anti.lgL f xs).length ≤ xs.length := ((Anti.lgL_props f _ xs (Nat.le_refl _) h).1).length_le
theorem orLarger_ev {m : Nat} {l : List Int} (h : isRel (m : Int) l = true) : ∀ (d s : Nat), s < 2 ^ m → (membersN s).length ≤ d → Ev (fun k => spec_orLarger.f k (m : Int) l (s : Int)) (L.cast (Anti.lgL (freeB l m) (membersN s))) := by
  obtain ⟨h1, h2⟩ := rel_len h
  have h1024 : (2 : Nat) ^ m ≤ 1024 := Nat.pow_le_pow_right (n := 2) (by decide) h2
  intro d
  induction d with
  | zero =>
    intro s hs hd
    have e : membersN s = [] := List.eq_nil_of_length_eq_zero (by omega)
    refine L.Ev.succ ?_
    simp only [spec_orLarger.f]
    refine Ev.bind (orList_ev s (by omega)) ?_
    rw [e, Anti.lgL_nil]
    refine L.Ev.succ ?_
    simp only [spec_orLarger.l0]
    exact L.Ev.ifn (by simp [L.cast]) (Ev.now _)
  | succ d ih =>
    intro s hs hd
    have hml := membersN_length s
    have hasc := membersN_asc s
    have key : ∀ j, j ≤ (membersN s).length → ∀ b : List Nat, b.length ≤ 10 → Ev (fun k => spec_orLarger.l0 k (s : Int) (L.cast b) (L.cast (membersN s)) ((L.cast (membersN s)).length : Int) (j : Int) (m : Int) l)
        (L.cast (if b.length < (Anti.lgL (freeB l m) ((membersN s).drop j)).length then Anti.lgL (freeB l m) ((membersN s).drop j) else b)) := by
      refine L.down ?_ fun j hj ihj => ?_
      · intro b hb
        refine L.Ev.succ ?_
        simp only [spec_orLarger.l0]
        rw [List.drop_eq_nil_of_le (Nat.le_refl _), Anti.lgL_nil, if_neg (by simp)]
        exact L.Ev.ifn (by rw [L.cast_length]; omega) (Ev.now _)
      · intro b hb
        have hx := mem_members_lt hs (List.getElem_mem hj)
        have e : rd (L.cast (membersN s)) (j : Int) = (((membersN s)[j] : Nat) : Int) := by
          rw [L.rd_cast, List.getD_eq_getElem?_getD, List.getElem?_eq_getElem hj]; rfl
        have b3 : freeN l m (membersN s)[j] < 1024 := relRow_lt10 _ h2
        have b4 := allN_lt10 (show (membersN s)[j] ≤ 10 by omega)
        have b5 : s &&& freeN l m (membersN s)[j] < 2 ^ m := Nat.lt_of_le_of_lt Nat.and_le_left hs
        have b6 : L.diff (s &&& freeN l m (membersN s)[j]) (allN (membersN s)[j]) < 2 ^ m := L.diff_lt b5
        have hrest := rest_members (l := l) (m := m) j hj
        have hfl := List.length_filter_le (freeB l m (membersN s)[j]) ((membersN s).drop (j + 1))
        rw [List.length_drop] at hfl
        have hrec := ih _ b6 (by rw [hrest]; omega)
        rw [hrest] at hrec
        have hsub := hasc.sublist (List.drop_sublist (j + 1) (membersN s))
        have hc := lgL_len (freeB l m) (hsub.filter (freeB l m (membersN s)[j]))
        have hdl := lgL_len (freeB l m) hsub
        rw [List.length_drop] at hdl
        rw [List.drop_eq_getElem_cons hj, Anti.lgL_cons]
        refine L.Ev.succ ?_
        simp only [spec_orLarger.l0]
        refine L.Ev.ifp (by rw [L.cast_length]; omega) (L.Ev.ifp (by omega) (L.Ev.ifp (by rw [L.cast_length]; omega) ?_))
        rw [e, L.w64n (n := j) (by omega)]
        refine Ev.bind (orFree_ev h hx) (L.Ev.ifp (by omega) ?_)
        rw [shl_all (by omega), L.and_nat (by omega) (by omega), L.andNot_nat (by omega) (by omega)]
        refine Ev.bind hrec ?_
        rw [L.cast_length, L.cast_length, L.w64n (n := (Anti.lgL (freeB l m) (((membersN s).drop (j + 1)).filter (freeB l m (membersN s)[j]))).length) (by omega)]
        by_cases g : b.length < (Anti.lgL (freeB l m) (((membersN s).drop (j + 1)).filter (freeB l m (membersN s)[j]))).length + 1
        · refine L.Ev.ifp (by omega) (L.Ev.bindc rfl (L.Ev.ifp (by simp; omega) ?_))
          have := ihj ((membersN s)[j] :: Anti.lgL (freeB l m) (((membersN s).drop (j + 1)).filter (freeB l m (membersN s)[j]))) (by rw [List.length_cons]; omega)
          rw [List.length_cons] at this
          have e2 : ([(((membersN s)[j] : Nat) : Int)] ++ L.cast (Anti.lgL (freeB l m) (((membersN s).drop (j + 1)).filter (freeB l m (membersN s)[j])))) = L.cast ((membersN s)[j] :: Anti.lgL (freeB l m) (((membersN s).drop (j + 1)).filter (freeB l m (membersN s)[j]))) := rfl
          rw [e2, List.length_cons]
          by_cases g2 : (Anti.lgL (freeB l m) (((membersN s).drop (j + 1)).filter (freeB l m (membersN s)[j]))).length + 1 < (Anti.lgL (freeB l m) ((membersN s).drop (j + 1))).length
          · rw [if_pos g2] at this ⊢
            rw [if_pos (by omega)]; exact this
          · rw [if_neg g2] at this ⊢
            rw [if_pos (by rw [List.length_cons]; exact g)]; exact this
        · refine L.Ev.ifn (by omega) ?_
          have := ihj b hb
          rw [List.length_cons]
          by_cases g2 : (Anti.lgL (freeB l m) (((membersN s).drop (j + 1)).filter (freeB l m (membersN s)[j]))).length + 1 < (Anti.lgL (freeB l m) ((membersN s).drop (j + 1))).length
          · rw [if_pos g2]; exact this
          · rw [if_neg g2, if_neg (by rw [List.length_cons]; exact g)]
            rw [if_neg (by omega)] at this; exact this
    refine L.Ev.succ ?_
    simp only [spec_orLarger.f]
    refine Ev.bind (orList_ev s (by omega)) ?_
    have := key 0 (by omega) [] (by simp)
    rw [List.drop_zero] at this
    have e3 : (if ([] : List Nat).length < (Anti.lgL (freeB l m) (membersN s)).length then Anti.lgL (freeB l m) (membersN s) else []) = Anti.lgL (freeB l m) (membersN s) := by
      split
      · rfl
      · exact (List.eq_nil_of_length_eq_zero (by rw [List.length_nil] at *; omega)).symm
    rw [e3] at this
    exact this
/-- the first one of the largest antichains. -/
def antiL (l : List Int) (m : Nat) : List Nat := Anti.lgL (freeB l m) (List.range m)
theorem antiL_eq {m : Nat} (hm : m ≤ 10) (l : List Int) : Anti.best (fitB l m) membersN (2 ^ m) = antiL l m :=
  Anti.best_eq (range_asc m) _ _ _ (fun i hi hk => fit_yes hm hi hk) (fun A hA h => fit_all hm A hA h)
theorem antiL_len (l : List Int) (m : Nat) : (antiL l m).length ≤ m := by
  have := lgL_len (freeB l m) (range_asc m)
  rw [List.length_range] at this; exact this
theorem implAnti_ev {m : Nat} {l : List Int} (h : isRel (m : Int) l = true) : Ev (fun k => impl_Order_antichain.f k (m : Int) l) (L.cast (antiL l m)) := by
  rw [← antiL_eq (rel_len h).2 l]; exact antichain_ev h
theorem specAnti_ev {m : Nat} {l : List Int} (h : isRel (m : Int) l = true) : Ev (fun k => spec_orLarger.f k (m : Int) l ((allN m : Nat) : Int)) (L.cast (antiL l m)) := by
  have := orLarger_ev h _ (allN m) (allN_lt m) (Nat.le_refl _)
  rw [membersN_all (rel_len h).2] at this
  exact this
end Go.Proofs.YtjbloapoaphgjaaDoor.P

/-! ### PuDilworth -/
/- Plain law: an order whose sets of incomparable elements have at most w elements falls into w chains (Dilworth); for every such order below n. -/
namespace Go.Proofs.YtjbloapoaphgjaaDoor.Dil
set_option linter.unusedVariables false
set_option linter.unusedSimpArgs false
section
variable {n : Nat} {r : Nat → Nat → Bool}
theorem nodup_range_le : ∀ (w : Nat) (l : List Nat), l.Nodup → (∀ x ∈ l, x < w) → l.length ≤ w := by
  intro w
  induction w with
  | zero =>
    intro l _ h
    cases l with
    | nil => simp
    | cons x l => have := h x (List.mem_cons_self ..); omega
  | succ w ih =>
    intro l hn h
    have h1 := ih (l.filter fun x => x != w) (hn.filter _) (fun x hx => by
      obtain ⟨h1, h2⟩ := List.mem_filter.1 hx
      have := h x h1
      have : x ≠ w := by simpa using h2
      omega)
    have h2 : l.length ≤ (l.filter fun x => x != w).length + 1 := by
      clear h h1 ih
      induction l with
      | nil => simp
      | cons y l ih =>
        obtain ⟨ha, hb⟩ := List.nodup_cons.1 hn
        rw [List.filter_cons]
        by_cases e : y = w
        · subst e
          have : (l.filter fun x => x != y) = l := List.filter_eq_self.2 fun x hx => by
            have : x ≠ y := fun e => ha (e ▸ hx)
            simpa using this
          simp [this]
        · have := ih hb
          simp [e]; omega
    omega
theorem mem_of_full {w : Nat} {l : List Nat} (hn : l.Nodup) (h : ∀ x ∈ l, x < w) (hl : l.length = w) {i : Nat} (hi : i < w) : i ∈ l := by
  refine Classical.byContradiction fun hc => ?_
  have := nodup_range_le w (i :: l) (List.nodup_cons.2 ⟨hc, hn⟩) (fun x hx => by
    rcases List.mem_cons.1 hx with rfl | hx
    · exact hi
    · exact h x hx)
  simp at this; omega
/-- how many numbers below n have p. -/
def cnt (n : Nat) (p : Nat → Bool) : Nat := ((List.range n).filter p).length
theorem filter_len_le {p q : Nat → Bool} (l : List Nat) (h : ∀ x ∈ l, p x = true → q x = true) : (l.filter p).length ≤ (l.filter q).length := by
  induction l with
  | nil => simp
  | cons y l ih =>
    have i := ih fun x hx => h x (List.mem_cons_of_mem _ hx)
    have hy := h y (List.mem_cons_self ..)
    rw [List.filter_cons, List.filter_cons]
    cases hp : p y with
    | true => rw [hy hp]; simp; omega
    | false => cases q y <;> simp <;> omega
theorem filter_len_lt {p q : Nat → Bool} (l : List Nat) (h : ∀ x ∈ l, p x = true → q x = true) (a : Nat) (ha : a ∈ l) (hq : q a = true) (hp : p a = false) : (l.filter p).length < (l.filter q).length := by
  induction l with
  | nil => cases ha
  | cons y l ih =>
    have hl := fun x hx => h x (List.mem_cons_of_mem y hx)
    have hy := h y (List.mem_cons_self ..)
    rw [List.filter_cons, List.filter_cons]
    by_cases e : y = a
    · subst e
      have := filter_len_le l hl
      rw [hp, hq]; simp; omega
    · have ha' : a ∈ l := (List.mem_cons.1 ha).resolve_left fun e' => e e'.symm
      have i := ih hl ha'
      cases hpy : p y with
      | true => rw [hy hpy]; simp; omega
      | false => cases q y <;> simp <;> omega
theorem cnt_lt {p q : Nat → Bool} (h : ∀ x, x < n → p x = true → q x = true) {a : Nat} (ha : a < n) (hq : q a = true) (hp : p a = false) : cnt n p < cnt n q :=
  filter_len_lt _ (fun x hx => h x (List.mem_range.1 hx)) a (List.mem_range.2 ha) hq hp
theorem exists_max (hirr : ∀ i, r i i = false) (htr : ∀ i j k, r i j = true → r j k = true → r i k = true) (p : Nat → Prop) (hp : ∀ x, p x → x < n) :
    ∀ x, p x → ∃ m, p m ∧ ∀ y, p y → r m y = false := by
  have key : ∀ d x, p x → cnt n (fun y => r x y) ≤ d → ∃ m, p m ∧ ∀ y, p y → r m y = false := by
    intro d
    induction d with
    | zero =>
      intro x hx hd
      refine ⟨x, hx, fun y hy => ?_⟩
      cases h : r x y with
      | false => rfl
      | true =>
        have : y ∈ (List.range n).filter fun y => r x y := List.mem_filter.2 ⟨List.mem_range.2 (hp y hy), h⟩
        have := List.length_pos_of_mem this
        unfold cnt at hd; omega
    | succ d ih =>
      intro x hx hd
      by_cases hc : ∃ y, p y ∧ r x y = true
      · obtain ⟨y, hy, hxy⟩ := hc
        refine ih y hy ?_
        have := cnt_lt (n := n) (p := fun z => r y z) (q := fun z => r x z) (fun z _ hz => htr x y z hxy hz) (hp y hy) hxy (hirr y)
        omega
      · refine ⟨x, hx, fun y hy => ?_⟩
        cases h : r x y with
        | false => rfl
        | true => exact absurd ⟨y, hy, h⟩ hc
  exact fun x hx => key _ x hx (Nat.le_refl _)
/-- a list of elements no two of which are comparable. -/
structure Anti (r : Nat → Nat → Bool) (S : Nat → Bool) (A : List Nat) : Prop where
  nodup : A.Nodup
  mem : ∀ x ∈ A, S x = true
  free : ∀ x ∈ A, ∀ y ∈ A, r x y = false
theorem Anti.mono {S T : Nat → Bool} {A : List Nat} (h : Anti r S A) (hs : ∀ x, S x = true → T x = true) : Anti r T A := ⟨h.nodup, fun x hx => hs x (h.mem x hx), h.free⟩
def Chains (r : Nat → Nat → Bool) (S : Nat → Bool) (w : Nat) (c : Nat → Nat) : Prop :=
  (∀ i, S i = true → c i < w) ∧ ∀ i j, S i = true → S j = true → i ≠ j → c i = c j → r i j = true ∨ r j i = true
theorem map_nodup {A : List Nat} {f : Nat → Nat} (hn : A.Nodup) (h : ∀ x ∈ A, ∀ y ∈ A, f x = f y → x = y) : (A.map f).Nodup := by
  induction A with
  | nil => simp
  | cons a A ih =>
    obtain ⟨h1, h2⟩ := List.nodup_cons.1 hn
    rw [List.map_cons, List.nodup_cons]
    refine ⟨fun hm => ?_, ih h2 fun x hx y hy => h x (List.mem_cons_of_mem _ hx) y (List.mem_cons_of_mem _ hy)⟩
    obtain ⟨b, hb, e⟩ := List.mem_map.1 hm
    have := h b (List.mem_cons_of_mem _ hb) a (List.mem_cons_self ..) e
    exact h1 (this ▸ hb)
/-- an antichain with as many elements as there are chains meets each chain. -/
theorem hits {S : Nat → Bool} {w : Nat} {c : Nat → Nat} (hc : Chains r S w c) {A : List Nat} (hA : Anti r S A) (hl : A.length = w) {i : Nat} (hi : i < w) : ∃ x ∈ A, c x = i := by
  have := mem_of_full (w := w) (l := A.map c) (map_nodup hA.nodup fun x hx y hy e => by
    refine Classical.byContradiction fun hne => ?_
    rcases hc.2 x y (hA.mem x hx) (hA.mem y hy) hne e with h | h
    · rw [hA.free x hx y hy] at h; cases h
    · rw [hA.free y hy x hx] at h; cases h) (fun x hx => by
    obtain ⟨y, hy, rfl⟩ := List.mem_map.1 hx
    exact hc.1 y (hA.mem y hy)) (by simpa using hl) hi
  obtain ⟨x, hx, e⟩ := List.mem_map.1 this
  exact ⟨x, hx, e⟩
theorem dilworth (hirr : ∀ i, r i i = false) (htr : ∀ i j k, r i j = true → r j k = true → r i k = true) :
    ∀ (d : Nat) (S : Nat → Bool) (w : Nat), (∀ x, S x = true → x < n) → cnt n S ≤ d → (∀ A, Anti r S A → A.length ≤ w) → ∃ c, Chains r S w c := by
  intro d
  induction d with
  | zero =>
    intro S w hS hd _
    refine ⟨fun _ => 0, fun i hi => ?_, fun i j hi => ?_⟩ <;>
    · have : i ∈ (List.range n).filter S := List.mem_filter.2 ⟨List.mem_range.2 (hS i hi), hi⟩
      have := List.length_pos_of_mem this
      unfold cnt at hd; omega
  | succ d ih =>
    intro S w hS hd hw
    by_cases hne : ∃ x, S x = true
    case neg => exact ⟨fun _ => 0, fun i hi => absurd ⟨i, hi⟩ hne, fun i _ hi => absurd ⟨i, hi⟩ hne⟩
    obtain ⟨x0, hx0⟩ := hne
    obtain ⟨a, ha, hmax⟩ := exists_max (n := n) hirr htr (fun x => S x = true) hS x0 hx0
    have hw1 : 1 ≤ w := hw [a] ⟨by simp, by simpa using ha, by simp [hirr]⟩
    obtain ⟨S', hS'⟩ : ∃ S' : Nat → Bool, ∀ x, S' x = true ↔ S x = true ∧ x ≠ a := ⟨fun x => S x && decide (x ≠ a), fun x => by simp⟩
    have hsub : ∀ x, S' x = true → S x = true := fun x hx => ((hS' x).1 hx).1
    have hna : S' a = false := by cases h : S' a with | false => rfl | true => exact absurd rfl ((hS' a).1 h).2
    have hcnt : cnt n S' ≤ d := by
      have := cnt_lt (n := n) (p := S') (q := S) (fun x _ => hsub x) (hS a ha) ha hna
      omega
    by_cases hw' : ∀ A, Anti r S' A → A.length ≤ w - 1
    · obtain ⟨c, hc1, hc2⟩ := ih S' (w - 1) (fun x hx => hS x (hsub x hx)) hcnt hw'
      refine ⟨fun x => if x = a then w - 1 else c x, fun i hi => ?_, fun i j hi hj hij e => ?_⟩
      · by_cases h : i = a
        · simp [h]; omega
        · have := hc1 i ((hS' i).2 ⟨hi, h⟩)
          simp [h]; omega
      · by_cases h : i = a
        · have h2 : j ≠ a := fun e => hij (h.trans e.symm)
          have := hc1 j ((hS' j).2 ⟨hj, h2⟩)
          simp [h, h2] at e; omega
        · by_cases h2 : j = a
          · have := hc1 i ((hS' i).2 ⟨hi, h⟩)
            simp [h, h2] at e; omega
          · simp [h, h2] at e
            exact hc2 i j ((hS' i).2 ⟨hi, h⟩) ((hS' j).2 ⟨hj, h2⟩) hij e
    · have hex : ∃ A, Anti r S' A ∧ A.length = w := by
        refine Classical.byContradiction fun hc => hw' fun A hA => ?_
        have h1 := hw A (hA.mono hsub)
        have h2 : A.length ≠ w := fun e => hc ⟨A, hA, e⟩
        omega
      obtain ⟨A0, hA0, hl0⟩ := hex
      obtain ⟨c, hc⟩ := ih S' w (fun x hx => hS x (hsub x hx)) hcnt fun A hA => hw A (hA.mono hsub)
      have htop : ∀ i, ∃ m, i < w → (S' m = true ∧ c m = i ∧ ∃ A, Anti r S' A ∧ A.length = w ∧ m ∈ A) ∧ ∀ y, (S' y = true ∧ c y = i ∧ ∃ A, Anti r S' A ∧ A.length = w ∧ y ∈ A) → r m y = false := by
        intro i
        by_cases hi : i < w
        · obtain ⟨x, hx, e⟩ := hits hc hA0 hl0 hi
          obtain ⟨m, h1, h2⟩ := exists_max (n := n) hirr htr (fun y => S' y = true ∧ c y = i ∧ ∃ A, Anti r S' A ∧ A.length = w ∧ y ∈ A) (fun y hy => hS y (hsub y hy.1)) x ⟨hA0.mem x hx, e, A0, hA0, hl0, hx⟩
          exact ⟨m, fun _ => ⟨h1, h2⟩⟩
        · exact ⟨0, fun h => absurd h hi⟩
      let t := fun i => Classical.choose (htop i)
      have ht : ∀ i, i < w → (S' (t i) = true ∧ c (t i) = i ∧ ∃ A, Anti r S' A ∧ A.length = w ∧ t i ∈ A) ∧ ∀ y, (S' y = true ∧ c y = i ∧ ∃ A, Anti r S' A ∧ A.length = w ∧ y ∈ A) → r (t i) y = false := fun i => Classical.choose_spec (htop i)
      have below : ∀ i, i < w → ∀ B, Anti r S' B → B.length = w → ∃ y ∈ B, c y = i ∧ S' y = true ∧ (y = t i ∨ r y (t i) = true) := by
        intro i hi B hB hl
        obtain ⟨y, hy, e⟩ := hits hc hB hl hi
        refine ⟨y, hy, e, hB.mem y hy, ?_⟩
        by_cases heq : y = t i
        · exact .inl heq
        · have h1 := ht i hi
          rcases hc.2 y (t i) (hB.mem y hy) h1.1.1 heq (by rw [e, h1.1.2.1]) with h | h
          · exact .inr h
          · rw [h1.2 y ⟨hB.mem y hy, e, B, hB, hl, hy⟩] at h; cases h
      have hfree : ∀ i j, i < w → j < w → r (t i) (t j) = false := by
        intro i j hi hj
        cases h : r (t i) (t j) with
        | false => rfl
        | true =>
          obtain ⟨B, hB, hl, hm⟩ := (ht j hj).1.2.2
          obtain ⟨y, hy, _, _, hle⟩ := below i hi B hB hl
          have : r y (t j) = true := by
            rcases hle with rfl | h2
            · exact h
            · exact htr _ _ _ h2 h
          rw [hB.free y hy (t j) hm] at this; cases this
      have hcmp : ∃ i, i < w ∧ r (t i) a = true := by
        refine Classical.byContradiction fun hno => ?_
        have hno' : ∀ i, i < w → r (t i) a = false := fun i hi => by
          cases h : r (t i) a with | false => rfl | true => exact absurd ⟨i, hi, h⟩ hno
        have hta : ∀ i, i < w → t i ≠ a := fun i hi => ((hS' (t i)).1 (ht i hi).1.1).2
        have := hw (a :: (List.range w).map t) ⟨List.nodup_cons.2 ⟨fun hm => by
            obtain ⟨i, hi, e⟩ := List.mem_map.1 hm
            exact hta i (List.mem_range.1 hi) e, map_nodup List.nodup_range fun i hi j hj e => by
            have h1 := (ht i (List.mem_range.1 hi)).1.2.1
            have h2 := (ht j (List.mem_range.1 hj)).1.2.1
            rw [← h1, ← h2, e]⟩, fun x hx => by
            rcases List.mem_cons.1 hx with rfl | hx
            · exact ha
            · obtain ⟨i, hi, rfl⟩ := List.mem_map.1 hx
              exact hsub _ (ht i (List.mem_range.1 hi)).1.1, fun x hx y hy => by
            rcases List.mem_cons.1 hx with hx | hx
            · subst hx
              rcases List.mem_cons.1 hy with hy | hy
              · subst hy; exact hirr _
              · obtain ⟨j, hj, rfl⟩ := List.mem_map.1 hy
                exact hmax _ (hsub _ (ht j (List.mem_range.1 hj)).1.1)
            · obtain ⟨i, hi, rfl⟩ := List.mem_map.1 hx
              rcases List.mem_cons.1 hy with hy | hy
              · subst hy; exact hno' i (List.mem_range.1 hi)
              · obtain ⟨j, hj, rfl⟩ := List.mem_map.1 hy
                exact hfree i j (List.mem_range.1 hi) (List.mem_range.1 hj)⟩
        simp at this; omega
      obtain ⟨i, hi, hia⟩ := hcmp
      obtain ⟨T, hT⟩ : ∃ T : Nat → Bool, ∀ x, T x = true ↔ S' x = true ∧ ¬ (c x = i ∧ (x = t i ∨ r x (t i) = true)) :=
        ⟨fun x => S' x && decide (¬ (c x = i ∧ (x = t i ∨ r x (t i) = true))), fun x => by simp only [Bool.and_eq_true, decide_eq_true_eq]⟩
      have hTS : ∀ x, T x = true → S' x = true := fun x hx => ((hT x).1 hx).1
      have hTc : cnt n T ≤ d := by
        have h1 : cnt n T ≤ cnt n S' := filter_len_le _ fun x _ hx => hTS x hx
        omega
      obtain ⟨c2, hd1, hd2⟩ := ih T (w - 1) (fun x hx => hS x (hsub x (hTS x hx))) hTc fun A hA => by
        have h1 := hw A (hA.mono fun x hx => hsub x (hTS x hx))
        have h2 : A.length ≠ w := fun e => by
          obtain ⟨y, hy, e2, _, hle⟩ := below i hi A (hA.mono hTS) e
          exact ((hT y).1 (hA.mem y hy)).2 ⟨e2, hle⟩
        omega
      have hK : ∀ x, S x = true → T x = false → x = a ∨ (S' x = true ∧ c x = i ∧ (x = t i ∨ r x (t i) = true)) := by
        intro x hx hxT
        by_cases hxa : x = a
        · exact .inl hxa
        · have h1 := (hS' x).2 ⟨hx, hxa⟩
          refine .inr ⟨h1, Classical.byContradiction fun hno => ?_⟩
          rw [(hT x).2 ⟨h1, hno⟩] at hxT; cases hxT
      have hup : ∀ x, (x = t i ∨ r x (t i) = true) → r x a = true := fun x h => by
        rcases h with rfl | h
        · exact hia
        · exact htr _ _ _ h hia
      refine ⟨fun x => if T x = true then c2 x else w - 1, fun x hx => ?_, fun x y hx hy hxy e => ?_⟩
      · by_cases h : T x = true
        · have := hd1 x h
          simp [h]; omega
        · simp [h]; omega
      · by_cases h1 : T x = true
        · by_cases h2 : T y = true
          · simp [h1, h2] at e
            exact hd2 x y h1 h2 hxy e
          · have := hd1 x h1
            simp [h1, h2] at e; omega
        · by_cases h2 : T y = true
          · have := hd1 y h2
            simp [h1, h2] at e; omega
          · rcases hK x hx (by simpa using h1) with rfl | ⟨p1, p2, p3⟩
            · rcases hK y hy (by simpa using h2) with rfl | ⟨q1, q2, q3⟩
              · exact absurd rfl hxy
              · exact .inr (hup y q3)
            · rcases hK y hy (by simpa using h2) with rfl | ⟨q1, q2, q3⟩
              · exact .inl (hup x p3)
              · exact hc.2 x y p1 q1 hxy (p2.trans q2.symm)
end
end Go.Proofs.YtjbloapoaphgjaaDoor.Dil

/-! ### PuSearch -/
/- Plain laws: the first list of numbers that fit one behind the other; it is found if there is one. -/
namespace Go.Proofs.YtjbloapoaphgjaaDoor.Srch
set_option linter.unusedVariables false
set_option linter.unusedSimpArgs false
/-- the first list that goes on another one, each number less than w, fitting behind those ahead of it. -/
def go (fits : List Nat → Nat → Bool) (w : Nat) : Nat → List Nat → Option (List Nat)
  | 0, l => some l
  | d + 1, l => (List.range w).findSome? fun k => if fits l k = true then go fits w d (l ++ [k]) else none
theorem go_succ (fits : List Nat → Nat → Bool) (w d : Nat) (l : List Nat) : go fits w (d + 1) l = (List.range w).findSome? fun k => if fits l k = true then go fits w d (l ++ [k]) else none := rfl
theorem go_len (fits : List Nat → Nat → Bool) (w : Nat) : ∀ d l r, go fits w d l = some r → r.length = l.length + d
  | 0, l, r, h => by cases h; rfl
  | d + 1, l, r, h => by
    rw [go_succ] at h
    obtain ⟨k, _, h2⟩ := List.exists_of_findSome?_eq_some h
    split at h2
    · have := go_len fits w d _ r h2
      simp at this; omega
    · cases h2
theorem go_mem (fits : List Nat → Nat → Bool) (w : Nat) : ∀ d l r, (∀ x ∈ l, x < w) → go fits w d l = some r → ∀ x ∈ r, x < w
  | 0, l, r, hl, h => by cases h; exact hl
  | d + 1, l, r, hl, h => by
    rw [go_succ] at h
    obtain ⟨k, hk, h2⟩ := List.exists_of_findSome?_eq_some h
    split at h2
    · exact go_mem fits w d _ r (fun x hx => by
        rcases List.mem_append.1 hx with hx | hx
        · exact hl x hx
        · have : x = k := by simpa using hx
          subst this; exact List.mem_range.1 hk) h2
    · cases h2
theorem go_some {fits : List Nat → Nat → Bool} {w : Nat} (c : Nat → Nat) (m : Nat) (hc : ∀ i, i < m → c i < w ∧ fits ((List.range i).map c) (c i) = true) :
    ∀ d i, i + d = m → (go fits w d ((List.range i).map c)).isSome = true
  | 0, i, _ => rfl
  | d + 1, i, h => by
    obtain ⟨h1, h2⟩ := hc i (by omega)
    have ih := go_some c m hc d (i + 1) (by omega)
    rw [List.range_succ, List.map_append] at ih
    rw [go_succ, List.findSome?_isSome_iff]
    exact ⟨c i, List.mem_range.2 h1, by rw [if_pos h2]; exact ih⟩
end Go.Proofs.YtjbloapoaphgjaaDoor.Srch

/-! ### PuTrans -/
/- Plain laws: an order's relation is transitive and never of an element with itself. -/
namespace Go.Proofs.YtjbloapoaphgjaaDoor.P
open Go.RowKit Go.Proofs.YtjbloapoaphgjaaDoorW.PrintWords Go.Proofs.YtjbloapoaphgjaaDoorW.PrintLast Go.Proofs.YtjbloapoaphgjaaDoorW.PrintMore L
set_option linter.unusedVariables false
set_option linter.unusedSimpArgs false
theorem isOrd_ordB {m : Nat} {l : List Int} (h : isOrd (m : Int) l = true) : ordB l m = true := by
  unfold isOrd at h; rw [Bool.and_eq_true, Int.toNat_natCast] at h; exact h.2
theorem bit_lt {m : Nat} {l : List Int} (h : isRel (m : Int) l = true) {i j : Nat} (hb : L.bitAt l i j = true) : i < m ∧ j < m := by
  obtain ⟨h1, h2⟩ := rel_len h
  by_cases hi : i < m
  · refine ⟨hi, ?_⟩
    have e := rd_rowN h hi
    rw [L.rd_nat] at e
    unfold L.bitAt at hb
    rw [e, Int.toNat_natCast, rowN_bit] at hb
    simp at hb; exact hb.1
  · unfold L.bitAt at hb
    rw [List.getD_eq_getElem?_getD, List.getElem?_eq_none (by omega)] at hb
    simp at hb
theorem ord_irrefl {m : Nat} {l : List Int} (h : isOrd (m : Int) l = true) (i : Nat) : L.bitAt l i i = false := by
  cases hb : L.bitAt l i i with
  | false => rfl
  | true =>
    have hi := (bit_lt (isOrd_rel h) hb).1
    have ho := isOrd_ordB h
    unfold ordB at ho
    have := List.all_eq_true.1 ho i (List.mem_range.2 hi)
    unfold ordAt at this
    rw [hb] at this; simp at this
theorem ord_trans {m : Nat} {l : List Int} (h : isOrd (m : Int) l = true) {i j k : Nat} (h1 : L.bitAt l i j = true) (h2 : L.bitAt l j k = true) : L.bitAt l i k = true := by
  have hr := isOrd_rel h
  have hij := bit_lt hr h1
  have hjk := bit_lt hr h2
  have h10 := (rel_len hr).2
  have ho := isOrd_ordB h
  unfold ordB at ho
  have ha := List.all_eq_true.1 ho i (List.mem_range.2 hij.1)
  unfold ordAt at ha
  rw [Bool.and_eq_true] at ha
  have hb := List.all_eq_true.1 ha.2 j (mem_membersN.2 ⟨by omega, by rw [rowN_bit]; simp [hij.2, h1]⟩)
  rw [beq_iff_eq] at hb
  have hc : (L.diff (rowN l m j) (rowN l m i)).testBit k = false := by rw [hb]; simp
  rw [L.diff_testBit, rowN_bit, rowN_bit] at hc
  simp only [hjk.2, decide_true, Bool.true_and, h2] at hc
  simpa using hc
end Go.Proofs.YtjbloapoaphgjaaDoor.P

/-! ### PuNumbers -/
/- Plain laws: the first list of chain numbers, in the program and in the reference; there is one (Dilworth). -/
namespace Go.Proofs.YtjbloapoaphgjaaDoor.P
open Go.RowKit Go.Proofs.YtjbloapoaphgjaaDoorW.PrintWords Go.Proofs.YtjbloapoaphgjaaDoorW.PrintLast Go.Proofs.YtjbloapoaphgjaaDoorW.PrintMore L
set_option linter.unusedVariables false
set_option linter.unusedSimpArgs false
def fitsN (l : List Int) (m : Nat) (s : List Nat) (k a : Nat) : Bool := !decide (s.getD a 0 = k) || !freeB l m s.length a
def fitsC (l : List Int) (m : Nat) (s : List Nat) (k : Nat) : Bool := (List.range s.length).all (fitsN l m s k)
theorem num_drop (f : Nat → Bool) (n i : Nat) (hi : i < n) : ((List.range n).drop i).all f = (f i && ((List.range n).drop (i + 1)).all f) := by
  rw [List.drop_eq_getElem_cons (by simpa using hi), List.all_cons]; simp
theorem num_end (f : Nat → Bool) (n : Nat) : ((List.range n).drop n).all f = true := by rw [List.drop_eq_nil_of_le (by simp)]; rfl
def outN : Option (List Nat) → List Int
  | none => []
  | some r => L.cast r
theorem snocN (s : List Nat) (i : Nat) : L.cast s ++ [(i : Int)] = L.cast (s ++ [i]) := by simp [L.cast]
theorem own_num (l : List Int) (hl : l.length ≤ 1048576) : spec_l1Own.f l = some l := by
  unfold spec_l1Own.f
  simp only [Option.bind_some, List.length_nil, List.nil_append]
  rw [if_pos (by omega)]
theorem clone_num (l : List Int) (hl : l.length ≤ 1048576) : slices_Clone_int_int.f l = some l := by
  unfold slices_Clone_int_int.f
  rw [if_pos (by omega)]
theorem find_dropN {α : Type} (f : Nat → Option α) (n i : Nat) (hi : i < n) : ((List.range n).drop i).findSome? f = ((f i).or (((List.range n).drop (i + 1)).findSome? f)) := by
  rw [List.drop_eq_getElem_cons (by simpa using hi), List.findSome?_cons]
  simp only [List.getElem_range]
  cases f i <;> rfl
theorem find_endN {α : Type} (f : Nat → Option α) (n : Nat) : ((List.range n).drop n).findSome? f = none := by rw [List.drop_eq_nil_of_le (by simp)]; rfl
theorem bit_zero {a j : Nat} (ha : a < 2 ^ 62) (hj : j ≤ 64) : (Go.bits .and .i64 (shr .i64 (a : Int) (j : Int)) 1 == 0) = !a.testBit j := by
  have h1 : a >>> j < 2 ^ 62 := Nat.lt_of_le_of_lt (by rw [Nat.shiftRight_eq_div_pow]; exact Nat.div_le_self ..) ha
  rw [L.shr_nat hj, show (1 : Int) = ((1 : Nat) : Int) from rfl, L.and_nat h1 (by decide)]
  unfold Nat.testBit
  rw [Nat.and_comm]
  have h2 : 1 &&& a >>> j = 0 ∨ 1 &&& a >>> j = 1 := by rw [Nat.one_and_eq_mod_two]; omega
  rcases h2 with h2 | h2 <;> simp [h2]
section
variable {m w : Nat} {l : List Int} (h : isRel (m : Int) l = true) (hw : w ≤ 10)
include h hw
omit hw in
theorem numIn_ev (s : List Nat) (x : Nat) (r : List Int × Bool) (hx : x < w) (hl : s.length < m) (F : Bool)
    (hend : Ev (fun k => spec_orNumbers.l1 k (L.cast s) (w : Int) (s.length : Int) (x : Int) F (L.cast s) (s.length : Int) (s.length : Int) (m : Int) l) r) :
    ∀ a, a ≤ s.length → ∀ b : Bool, (b && ((List.range s.length).drop a).all (fitsN l m s x)) = F → Ev (fun k => spec_orNumbers.l1 k (L.cast s) (w : Int) (s.length : Int) (x : Int) b (L.cast s) (s.length : Int) (a : Int) (m : Int) l) r := by
  have hm := (isRel_len h).2
  have hc : (L.cast s).length = s.length := L.cast_length s
  refine L.down ?_ fun a ha ih => ?_
  · intro b hb
    rw [num_end, Bool.and_true] at hb
    rw [hb]; exact hend
  · intro b hb
    rw [num_drop _ _ a ha] at hb
    refine L.Ev.succ ?_
    simp only [spec_orNumbers.l1]
    refine L.Ev.ifp (by omega) (L.Ev.ifp (by omega) (L.Ev.ifp (by omega) ?_))
    rw [L.rd_cast]
    unfold fitsN at hb ih
    generalize s.getD a 0 = y at *
    cases b with
    | false =>
      refine L.Ev.ifn (by simp) ?_
      rw [Bool.false_and] at hb
      exact Ev.congr (fun k => by rw [L.w64n (by omega)]) (ih false (by rw [Bool.false_and]; exact hb))
    | true =>
      rw [Bool.true_and] at hb
      refine L.Ev.ifp rfl ?_
      by_cases e : y = x
      · refine L.Ev.ifp (by omega) (Ev.bind (orFree_ev h hl) (L.Ev.bindc (orHas_nat (by omega)) ?_))
        rw [decide_eq_true e, Bool.not_true, Bool.false_or] at hb
        exact Ev.congr (fun k => by rw [L.w64n (by omega)]; rfl) (ih _ hb)
      · refine L.Ev.ifn (by omega) ?_
        rw [decide_eq_false e, Bool.not_false, Bool.true_or] at hb
        exact Ev.congr (fun k => by rw [L.w64n (by omega)]) (ih true hb)
theorem orNumbers_ev : ∀ (d : Nat) (s : List Nat), s.length + d = m →
    Ev (fun k => spec_orNumbers.f k (m : Int) l (L.cast s) (w : Int)) (outN (Srch.go (fitsC l m) w d s), (Srch.go (fitsC l m) w d s).isSome) := by
  have hm := (isRel_len h).2
  intro d
  induction d with
  | zero =>
    intro s hs
    refine L.Ev.succ ?_
    simp only [spec_orNumbers.f]
    refine L.Ev.ifp (by rw [L.cast_length]; omega) (Ev.now _)
  | succ d ih =>
    intro s hs
    have hc : (L.cast s).length = s.length := L.cast_length s
    refine L.Ev.succ ?_
    simp only [spec_orNumbers.f]
    refine L.Ev.ifn (by rw [hc]; omega) ?_
    rw [Srch.go_succ, hc]
    have key : ∀ i, i ≤ w → Ev (fun k => spec_orNumbers.l0 k (L.cast s) (w : Int) (s.length : Int) (i : Int) (m : Int) l)
        (outN (((List.range w).drop i).findSome? fun k => if fitsC l m s k = true then Srch.go (fitsC l m) w d (s ++ [k]) else none), (((List.range w).drop i).findSome? fun k => if fitsC l m s k = true then Srch.go (fitsC l m) w d (s ++ [k]) else none).isSome) := by
      refine L.down ?_ fun i hi ih2 => ?_
      · refine L.Ev.succ ?_
        simp only [spec_orNumbers.l0]
        rw [find_endN]
        exact L.Ev.ifn (by omega) (Ev.now _)
      · rw [find_dropN _ _ i hi]
        refine L.Ev.succ ?_
        simp only [spec_orNumbers.l0]
        refine L.Ev.ifp (by omega) ?_
        rw [hc]
        refine numIn_ev h s i _ hi (by omega) (fitsC l m s i) ?_ 0 (by omega) true (by rw [Bool.true_and]; rfl)
        refine L.Ev.succ ?_
        simp only [spec_orNumbers.l1]
        refine L.Ev.ifn (by omega) ?_
        by_cases hf : fitsC l m s i = true
        · rw [if_pos hf]
          refine L.Ev.ifp hf (L.Ev.bindc (own_num _ (by rw [hc]; omega)) ?_)
          simp only [Option.bind_some]
          refine L.Ev.ifp (by rw [hc]; simp; omega) ?_
          rw [snocN]
          refine Ev.bind (ih (s ++ [i]) (by simp; omega)) ?_
          cases hg : Srch.go (fitsC l m) w d (s ++ [i]) with
          | none =>
            refine L.Ev.ifn (by simp) ?_
            simp only [Option.none_or]
            exact Ev.congr (fun k => by rw [L.w64n (by omega)]) ih2
          | some r =>
            refine L.Ev.ifp (by simp) ?_
            simp only [Option.some_or]
            exact Ev.now _
        · rw [if_neg hf]
          refine L.Ev.ifn hf ?_
          simp only [Option.none_or]
          exact Ev.congr (fun k => by rw [L.w64n (by omega)]) ih2
    exact key 0 (by omega)
omit hw in
theorem numImpl_in (z : Int) (s : List Nat) (x : Nat) (r : List Int) (hx : x < w) (hl : s.length < m) (F : Bool)
    (hend : Ev (fun k => impl_ChainNumbers_1.l1 k (L.cast s) (s.length : Int) (x : Int) F (w : Int) (x : Int) (L.cast s) (s.length : Int) (s.length : Int) (m : Int) l (w : Int) (freeL l m m) z) r) :
    ∀ a, a ≤ s.length → ∀ b : Bool, (b && ((List.range s.length).drop a).all (fitsN l m s x)) = F → Ev (fun k => impl_ChainNumbers_1.l1 k (L.cast s) (s.length : Int) (x : Int) b (w : Int) (x : Int) (L.cast s) (s.length : Int) (a : Int) (m : Int) l (w : Int) (freeL l m m) z) r := by
  have hm := (isRel_len h).2
  have hc : (L.cast s).length = s.length := L.cast_length s
  have hfl := freeL_length l m m
  have hlt : freeN l m s.length < 2 ^ 62 := Nat.lt_of_lt_of_le (relRow_lt10 _ hm) (by decide)
  refine L.down ?_ fun a ha ih => ?_
  · intro b hb
    rw [num_end, Bool.and_true] at hb
    rw [hb]; exact hend
  · intro b hb
    rw [num_drop _ _ a ha] at hb
    refine L.Ev.succ ?_
    simp only [impl_ChainNumbers_1.l1]
    refine L.Ev.ifp (by omega) (L.Ev.ifp (by omega) (L.Ev.ifp (by omega) ?_))
    rw [L.rd_cast, rd_freeL l hl, bit_zero hlt (by omega)]
    unfold fitsN at hb ih
    generalize s.getD a 0 = y at *
    cases b with
    | false =>
      refine L.Ev.ifn (by simp) ?_
      rw [Bool.false_and] at hb
      exact Ev.congr (fun k => by rw [L.w64n (by omega)]) (ih false (by rw [Bool.false_and]; exact hb))
    | true =>
      rw [Bool.true_and] at hb
      refine L.Ev.ifp rfl ?_
      by_cases e : y = x
      · refine L.Ev.ifp (by omega) (L.Ev.ifp (by omega) (L.Ev.ifp (by omega) ?_))
        rw [decide_eq_true e, Bool.not_true, Bool.false_or] at hb
        exact Ev.congr (fun k => by rw [L.w64n (by omega)]; rfl) (ih _ hb)
      · refine L.Ev.ifn (by omega) ?_
        rw [decide_eq_false e, Bool.not_false, Bool.true_or] at hb
        exact Ev.congr (fun k => by rw [L.w64n (by omega)]) (ih true hb)
theorem numImpl_ev (z : Int) : ∀ (d : Nat) (s : List Nat), s.length + d = m →
    Ev (fun k => impl_ChainNumbers_1.f k (L.cast s) (m : Int) l (w : Int) (freeL l m m) z) (outN (Srch.go (fitsC l m) w d s)) := by
  have hm := (isRel_len h).2
  intro d
  induction d with
  | zero =>
    intro s hs
    refine L.Ev.succ ?_
    simp only [impl_ChainNumbers_1.f]
    refine L.Ev.ifp (by rw [L.cast_length]; omega) (Ev.now _)
  | succ d ih =>
    intro s hs
    have hc : (L.cast s).length = s.length := L.cast_length s
    refine L.Ev.succ ?_
    simp only [impl_ChainNumbers_1.f]
    refine L.Ev.ifn (by rw [hc]; omega) ?_
    rw [Srch.go_succ, hc]
    have key : ∀ i, i ≤ w → Ev (fun k => impl_ChainNumbers_1.l0 k (L.cast s) (s.length : Int) (w : Int) (i : Int) (m : Int) l (w : Int) (freeL l m m) z)
        (outN (((List.range w).drop i).findSome? fun k => if fitsC l m s k = true then Srch.go (fitsC l m) w d (s ++ [k]) else none)) := by
      refine L.down ?_ fun i hi ih2 => ?_
      · refine L.Ev.succ ?_
        simp only [impl_ChainNumbers_1.l0]
        rw [find_endN]
        exact L.Ev.ifn (by omega) (Ev.now _)
      · rw [find_dropN _ _ i hi]
        refine L.Ev.succ ?_
        simp only [impl_ChainNumbers_1.l0]
        refine L.Ev.ifp (by omega) ?_
        rw [hc]
        refine numImpl_in h z s i _ hi (by omega) (fitsC l m s i) ?_ 0 (by omega) true (by rw [Bool.true_and]; rfl)
        refine L.Ev.succ ?_
        simp only [impl_ChainNumbers_1.l1]
        refine L.Ev.ifn (by omega) ?_
        by_cases hf : fitsC l m s i = true
        · rw [if_pos hf]
          refine L.Ev.ifp hf (L.Ev.bindc (clone_num _ (by rw [hc]; omega)) ?_)
          simp only [Option.bind_some]
          refine L.Ev.ifp (by rw [hc]; simp; omega) ?_
          rw [snocN]
          refine Ev.bind (ih (s ++ [i]) (by simp; omega)) ?_
          cases hg : Srch.go (fitsC l m) w d (s ++ [i]) with
          | none =>
            have hd : d ≠ 0 := by rintro rfl; simp [Srch.go] at hg
            have hne : ((((L.cast (s ++ [i])).length : Nat) : Int) == (m : Int)) = false := by
              rw [beq_eq_false_iff_ne, L.cast_length, List.length_append, List.length_singleton]; omega
            refine L.Ev.ifn (by rw [hne]; simp [outN]) ?_
            simp only [Option.none_or]
            exact Ev.congr (fun k => by rw [L.w64n (by omega)]) ih2
          | some q =>
            have hq := Srch.go_len _ _ _ _ _ hg
            rw [List.length_append, List.length_singleton] at hq
            have hne : (outN (some q)).isEmpty = false := by
              cases q with
              | nil => simp at hq; omega
              | cons => rfl
            refine L.Ev.ifp (by rw [hne]; rfl) ?_
            simp only [Option.some_or]
            exact Ev.now _
        · rw [if_neg hf]
          refine L.Ev.ifn hf ?_
          simp only [Option.none_or]
          exact Ev.congr (fun k => by rw [L.w64n (by omega)]) ih2
    exact key 0 (by omega)
end
/-- there are chain numbers. -/
theorem numbers_some {m : Nat} {l : List Int} (h : isOrd (m : Int) l = true) : (Srch.go (fitsC l m) (antiL l m).length m []).isSome = true := by
  have hr := isOrd_rel h
  obtain ⟨c, hc1, hc2⟩ := Dil.dilworth (n := m) (r := L.bitAt l) (fun i => ord_irrefl h i) (fun i j k => ord_trans h) (Dil.cnt m fun x => decide (x < m)) (fun x => decide (x < m)) (antiL l m).length (fun x hx => by simpa using hx) (Nat.le_refl _) (fun A hA => by
    have hB : ((List.range m).filter fun x => decide (x ∈ A)).length = A.length := by
      refine List.Perm.length_eq ((List.perm_ext_iff_of_nodup (List.Pairwise.filter _ List.nodup_range) hA.nodup).2 fun x => ?_)
      rw [List.mem_filter, List.mem_range]
      exact ⟨fun hx => by simpa using hx.2, fun hx => ⟨by simpa using hA.mem x hx, by simpa using hx⟩⟩
    have hsub : ((List.range m).filter fun x => decide (x ∈ A)).Sublist (List.range m) := List.filter_sublist
    have hp := (Anti.lgL_props (freeB l m) m (List.range m) (by simp) (range_asc m)).2.2 _ hsub (pw_of _ ((range_asc m).filter _) fun x hx y hy hne => by
      have hx2 : x ∈ A := by simpa using (List.mem_filter.1 hx).2
      have hy2 : y ∈ A := by simpa using (List.mem_filter.1 hy).2
      unfold freeB
      rw [freeN_bit, hA.free x hx2 y hy2, hA.free y hy2 x hx2]
      simp [List.mem_range.1 (List.mem_filter.1 hy).1, hne, Ne.symm hne])
    rw [← hB]
    show _ ≤ (Anti.lgL (freeB l m) (List.range m)).length
    rcases hp with hp | hp
    · omega
    · omega)
  have := Srch.go_some (fits := fitsC l m) (w := (antiL l m).length) c m (fun i hi => ⟨hc1 i (by simpa using hi), by
    unfold fitsC
    rw [List.all_eq_true]
    intro a ha
    have hai : a < i := by simpa using ha
    have hlen : ((List.range i).map c).length = i := by simp
    unfold fitsN
    rw [hlen, List.getD_eq_getElem?_getD, List.getElem?_map, List.getElem?_range hai]
    simp only [Option.map_some, Option.getD_some]
    by_cases e : c a = c i
    · rw [decide_eq_true e, Bool.not_true, Bool.false_or]
      unfold freeB
      rw [freeN_bit]
      rcases hc2 a i (by simp; omega) (by simpa using hi) (by omega) e with h2 | h2
      · rw [h2]; simp
      · rw [h2]; simp
    · rw [decide_eq_false e]; rfl⟩) m 0 (by omega)
  exact this
theorem ChainNumbers_len {m : Nat} {l : List Int} (h : isOrd (m : Int) l = true) : (outN (Srch.go (fitsC l m) (antiL l m).length m [])).length ≤ 1048576 := by
  have hm := (isRel_len (isOrd_rel h)).2
  cases hg : Srch.go (fitsC l m) (antiL l m).length m [] with
  | none => simp [outN]
  | some q =>
    have hq := Srch.go_len _ _ _ _ _ hg
    rw [outN, L.cast_length, hq]; simp; omega
end Go.Proofs.YtjbloapoaphgjaaDoor.P

/-! ### BoChainNumbers -/
/- What ChainNumbers comes to, in the program and in the reference. -/
namespace Go.Proofs.YtjbloapoaphgjaaDoor.P
open Go.RowKit Go.Proofs.YtjbloapoaphgjaaDoorW.PrintWords Go.Proofs.YtjbloapoaphgjaaDoorW.PrintLast Go.Proofs.YtjbloapoaphgjaaDoorW.PrintMore L
set_option linter.unusedVariables false
set_option linter.unusedSimpArgs false
theorem ChainNumbers_both (n : Int) (l : List Int) (wn : R.wf n) (hl : l.length ≤ 1048576) (w0 : ∀ x ∈ l, R.wf x) :
    ∃ (r : List Int) (b : Bool), Ev (fun k => spec_ChainNumbers.f k n l) (r, b) ∧ Ev (fun k => impl_ChainNumbers.f k n l) (r, b) ∧ r.length ≤ 1048576 := by
  cases h : isOrd n l with
  | false =>
    refine ⟨[], false, ?_, ?_, by simp⟩
    · unfold spec_ChainNumbers.f
      exact Ev.bind (orGood_ev n l hl) (L.Ev.ifn (by simp [h]) (Ev.now _))
    · unfold impl_ChainNumbers.f
      exact Ev.bind (IsOrder_ev n l hl) (L.Ev.ifn (by simp [h]) (Ev.now _))
  | true =>
    have hr := isOrd_rel h
    obtain ⟨m, rfl, hm, hlm⟩ := isRel_nat hr
    have hw : (antiL l m).length ≤ 10 := by have := antiL_len l m; omega
    refine ⟨outN (Srch.go (fitsC l m) (antiL l m).length m []), true, ?_, ?_, ChainNumbers_len h⟩
    · unfold spec_ChainNumbers.f
      refine Ev.bind (orGood_ev _ l hl) (L.Ev.ifp h (L.Ev.ifp (by omega) ?_))
      rw [shl_all (by omega)]
      have h1 := orNumbers_ev hr hw m [] (by simp)
      rw [numbers_some h] at h1
      exact Ev.bind (specAnti_ev hr) (Ev.bind (by rw [L.cast_length]; exact h1) (Ev.now _))
    · unfold impl_ChainNumbers.f
      have h1 := numImpl_ev hr hw 77 m [] (by simp)
      exact Ev.bind (IsOrder_ev _ l hl) (L.Ev.ifp h (Ev.bind (implAnti_ev hr) (Ev.bind (indifferent_ev hr) (Ev.bind (by rw [L.cast_length]; exact h1) (Ev.now _)))))
end Go.Proofs.YtjbloapoaphgjaaDoor.P

/-! ### PuFnExactChainNumbers -/
/- The plain law behind FnExactChainNumbers, out of what the program's and the reference's function come to. -/
namespace Go.Proofs.YtjbloapoaphgjaaDoor.P
open Go.RowKit Go.Proofs.YtjbloapoaphgjaaDoorW.PrintWords Go.Proofs.YtjbloapoaphgjaaDoorW.PrintLast Go.Proofs.YtjbloapoaphgjaaDoorW.PrintMore L
set_option linter.unusedVariables false
set_option linter.unusedSimpArgs false
set_option maxHeartbeats 1000000 in
theorem FnExactChainNumbers_pure (a0 : Int) (l0 : List Int) (w0a : R.wf a0) (m0 : l0.length ≤ 9223372036854775807) (w0 : ∀ x ∈ l0, R.wf x) : ∃ k, laws_FnExactChainNumbers.f k a0 l0 = some true := by
  refine Ev.rounds (r := true) ?_
  unfold laws_FnExactChainNumbers.f
  refine L.Ev.bindc (szOrder_eq a0 l0 1048576 (by omega) m0) ?_
  by_cases hb0 : (l0.length : Int) ≤ 1048576
  case neg => rw [if_neg hb0]; exact L.Ev.ifp (by omega) (Ev.now true)
  rw [if_pos hb0]
  refine L.Ev.ifn (by omega) ?_
  (try (refine L.Ev.succ ?_; first | simp only [laws_FnExactChainNumbers.j0] | simp only [laws_FnExactChainNumbers.j1] | simp only [laws_FnExactChainNumbers.j2] | simp only [laws_FnExactChainNumbers.j3]))
  have hn0 : l0.length ≤ 1048576 := by omega
  obtain ⟨r0, r1, hs, hi, hl0⟩ := ChainNumbers_both a0 l0 w0a hn0 w0
  repeat' (first
    | exact Ev.now true
    | exact Ev.now _
    | with_reducible exact rfl
    | (with_reducible refine Ev.bind hs ?_)
    | (with_reducible refine Ev.bind hi ?_)
    | (with_reducible refine Ev.bind (toIntS_ev _ ?hs1) ?_; (case hs1 => first | omega | (dsimp only; omega)))
    | (with_reducible refine Ev.bind (eqIntS_self _ ?hs1) ?_; (case hs1 => first | omega | (dsimp only; omega)))
    | (with_reducible refine Ev.bind (toOrder_ev _ _ ?hs1) ?_; (case hs1 => first | omega | (dsimp only; omega)))
    | (with_reducible refine Ev.bind (eqOrder_self _ _ ?hs1) ?_; (case hs1 => first | omega | (dsimp only; omega)))
    | (with_reducible refine Ev.bind (markIntS_ev _ _ ?hs1 ?hs2) ?_; (case hs1 => first | omega | (dsimp only; omega)); (case hs2 => first | omega | (dsimp only; omega)))
    | (with_reducible refine Ev.bind (held_marks _ _ ?hs1 ?hs2) ?_; (case hs1 => first | omega | (dsimp only; omega)); (case hs2 => first | omega | (dsimp only; omega)))
    | (with_reducible refine Ev.bind (markOrder_ev _ _ _ ?hs1 ?hs2) ?_; (case hs1 => first | omega | (dsimp only; omega)); (case hs2 => first | omega | (dsimp only; omega)))
    | (refine L.Ev.ifp ?hc ?_; (case hc => first | rfl | omega | (simp; done)))
    | (refine L.Ev.ifn ?hc ?_; (case hc => first | omega | (simp; done)))
    | dsimp only
    | (refine L.Ev.succ ?_; simp only [laws_FnExactChainNumbers.j0])
    | (refine L.Ev.succ ?_; simp only [laws_FnExactChainNumbers.j1])
    | (refine L.Ev.succ ?_; simp only [laws_FnExactChainNumbers.j2])
    | (refine L.Ev.succ ?_; simp only [laws_FnExactChainNumbers.j3])
    | (refine L.Ev.succ ?_; simp only [laws_FnExactChainNumbers.j4])
    | (refine L.Ev.succ ?_; simp only [laws_FnExactChainNumbers.j5])
    | (refine L.Ev.succ ?_; simp only [laws_FnExactChainNumbers.j6])
    | (refine L.Ev.succ ?_; simp only [laws_FnExactChainNumbers.j7])
    | (refine L.Ev.succ ?_; simp only [laws_FnExactChainNumbers.j8])
    | (refine L.Ev.succ ?_; simp only [laws_FnExactChainNumbers.j9])
    | (refine L.Ev.succ ?_; simp only [laws_FnExactChainNumbers.j10])
    | (refine L.Ev.succ ?_; simp only [laws_FnExactChainNumbers.j11]))
end Go.Proofs.YtjbloapoaphgjaaDoor.P
