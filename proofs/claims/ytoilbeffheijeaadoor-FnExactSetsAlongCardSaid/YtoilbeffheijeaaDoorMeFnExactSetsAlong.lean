/- The plain laws behind FnExactSetsAlong, in one text (merged by wip/merge.py). -/
import Derived.Test.YtoilbeffheijeaaDoorLib
import Derived.Test.YtoilbeffheijeaaDoorPx4
import Derived.Test.YtoilbeffheijeaaDoorPx8
import Derived.Test.YtoilbeffheijeaaDoorPx1
import Derived.Test.YtoilbeffheijeaaDoorPx17
import Derived.Test.YtoilbeffheijeaaDoorPx20
import Derived.Test.YtoilbeffheijeaaDoorPuDiff
import Derived.Test.YtoilbeffheijeaaDoorPx5
import Derived.Test.YtoilbeffheijeaaDoorPx16
import Derived.Test.YtoilbeffheijeaaDoorPx6
import Derived.Test.YtoilbeffheijeaaDoorPx2
import Derived.Test.YtoilbeffheijeaaDoorPx7
import Derived.Test.YtoilbeffheijeaaDoorPx3
import Derived.Test.YtoilbeffheijeaaDoorPx12
import Derived.Test.YtoilbeffheijeaaDoorPx11
import Derived.Test.YtoilbeffheijeaaDoorPx13
import Derived.Test.YtoilbeffheijeaaDoorPx14
import Derived.Test.YtoilbeffheijeaaDoorPx10
import Derived.Test.YtoilbeffheijeaaDoorPx9
import Derived.Test.YtoilbeffheijeaaDoorRowLib
import Derived.Test.YtoilbeffheijeaaDoorPx23
import Derived.Test.YtoilbeffheijeaaDoorPx22
import Derived.Test.YtoilbeffheijeaaDoorPx19
import Derived.Test.YtoilbeffheijeaaDoorPx18
import Derived.Test.YtoilbeffheijeaaDoorPx21
import Derived.Test.YtoilbeffheijeaaDoorPx42
import Derived.Test.YtoilbeffheijeaaDoorPx41
import Derived.Test.YtoilbeffheijeaaDoorPx43
/-! ### PuInts -/
/- Plain laws of the copies and comparisons of rows of whole numbers; no conditions beyond the rows' lengths. -/
namespace Go.Proofs.YtoilbeffheijeaaDoor.P
open Go.RowKit Go.Proofs.YtoilbeffheijeaaDoorW.PrintWords Go.Proofs.YtoilbeffheijeaaDoorW.PrintLast Go.Proofs.YtoilbeffheijeaaDoorW.PrintMore L
set_option linter.unusedVariables false
set_option linter.unusedSimpArgs false
theorem toIntS_ev (l : List Int) (hl : l.length ≤ 35184372088832) : Ev (fun k => laws_toIntS.f k l) l := by
  have key : ∀ i, i ≤ l.length → Ev (fun k => laws_toIntS.l0 k l (l.take i ++ List.replicate (l.length - i) 0) (i : Int)) l := by
    refine L.down ?_ fun i hi ih => ?_
    · refine L.Ev.succ ?_
      simp only [laws_toIntS.l0]
      refine L.Ev.ifn (by omega) ?_
      rw [Nat.sub_self, List.take_of_length_le (Nat.le_refl _)]
      simp only [List.replicate_zero, List.append_nil]
      exact Ev.now l
    · refine L.Ev.succ ?_
      simp only [laws_toIntS.l0]
      refine L.Ev.ifp (by omega) (L.Ev.ifp (by omega) (L.Ev.ifp ?_ ?_))
      · simp only [List.length_append, List.length_take, List.length_replicate]; omega
      · have e : (l.take i ++ List.replicate (l.length - i) 0).set i (rd l (i : Int)) = l.take (i + 1) ++ List.replicate (l.length - (i + 1)) 0 := by
          rw [L.rd_get hi]
          refine List.ext_getElem? fun j => ?_
          rw [List.getElem?_set]
          by_cases hj : i = j
          · subst hj
            rw [if_pos rfl, if_pos (by simp only [List.length_append, List.length_take, List.length_replicate]; omega), List.getElem?_append_left (by simp only [List.length_take]; omega), List.getElem?_take, if_pos (by omega), List.getElem?_eq_getElem hi]
          · rw [if_neg hj]
            by_cases h1 : j < i
            · rw [List.getElem?_append_left (by simp only [List.length_take]; omega), List.getElem?_append_left (by simp only [List.length_take]; omega), List.getElem?_take, List.getElem?_take, if_pos h1, if_pos (by omega)]
            · rw [List.getElem?_append_right (by simp only [List.length_take]; omega), List.getElem?_append_right (by simp only [List.length_take]; omega)]
              simp only [List.length_take, List.getElem?_replicate]
              by_cases h2 : j < l.length
              · rw [if_pos (by omega), if_pos (by omega)]
              · rw [if_neg (by omega), if_neg (by omega)]
        refine Ev.congr (fun k => ?_) ih
        rw [L.w64n (by omega), Int.toNat_natCast, e]
  refine Ev.congr (fun k => ?_) (key 0 (by omega))
  unfold laws_toIntS.f
  rw [if_pos (by omega), if_pos (by omega)]
  simp
theorem eqIntS_ev (l m : List Int) (hl : l.length ≤ 9223372036854775806) : Ev (fun k => laws_eqIntS.f k l m) (decide (l = m)) := by
  by_cases hlen : l.length = m.length
  · have key : ∀ i, i ≤ l.length → Ev (fun k => laws_eqIntS.l0 k l m (i : Int)) (decide (l.drop i = m.drop i)) := by
      refine L.down ?_ fun i hi ih => ?_
      · refine L.Ev.succ ?_
        simp only [laws_eqIntS.l0]
        refine L.Ev.ifn (by omega) ?_
        rw [List.drop_eq_nil_of_le (Nat.le_refl _), List.drop_eq_nil_of_le (by omega)]
        exact Ev.now _
      · refine L.Ev.succ ?_
        simp only [laws_eqIntS.l0]
        refine L.Ev.ifp (by omega) (L.Ev.ifp (by omega) (L.Ev.ifp (by omega) ?_))
        rw [L.rd_get hi, L.rd_get (l := m) (by omega), List.drop_eq_getElem_cons hi, List.drop_eq_getElem_cons (l := m) (by omega)]
        by_cases e : l[i] = m[i]'(by omega)
        · refine L.Ev.ifp e ?_
          refine Ev.congr (fun k => by rw [L.w64n (by omega)]) ?_
          have e2 : (l[i] :: List.drop (i + 1) l = m[i]'(by omega) :: List.drop (i + 1) m) = (List.drop (i + 1) l = List.drop (i + 1) m) := propext ⟨fun h => (List.cons.inj h).2, fun h => by rw [e, h]⟩
          simp only [e2]
          exact ih
        · refine L.Ev.ifn e ?_
          simp only [List.cons.injEq, e, false_and, decide_false]
          exact Ev.now _
    have h := key 0 (by omega)
    refine Ev.congr (fun k => ?_) h
    unfold laws_eqIntS.f
    rw [if_pos (by omega)]; rfl
  · have e : l ≠ m := fun h => hlen (by rw [h])
    refine Ev.congr (fun k => ?_) (f := fun _ => some false) (by simp only [e, decide_false]; exact Ev.now _)
    unfold laws_eqIntS.f
    rw [if_neg (by omega)]
theorem eqIntS_self (l : List Int) (hl : l.length ≤ 9223372036854775806) : Ev (fun k => laws_eqIntS.f k l l) true := by
  have h := eqIntS_ev l l hl
  simpa using h
end Go.Proofs.YtoilbeffheijeaaDoor.P

/-! ### PuOrder -/
/- Plain laws of the copies and comparisons of relations; no conditions beyond the rows' lengths. -/
namespace Go.Proofs.YtoilbeffheijeaaDoor.P
open Go.RowKit Go.Proofs.YtoilbeffheijeaaDoorW.PrintWords Go.Proofs.YtoilbeffheijeaaDoorW.PrintLast Go.Proofs.YtoilbeffheijeaaDoorW.PrintMore L
set_option linter.unusedVariables false
set_option linter.unusedSimpArgs false
theorem szIntS_eq (l : List Int) (a : Int) (ha : 0 ≤ a ∧ a ≤ 1048576) (hl : l.length ≤ 9223372036854775807) : laws_szIntS.f l a = some (if (l.length : Int) ≤ a then a - l.length else -1) := by
  unfold laws_szIntS.f
  rw [L.w64 (by omega) (by omega)]
  by_cases h : (l.length : Int) ≤ a
  · rw [if_neg (by omega), if_pos h]
  · rw [if_pos (by omega), if_neg h]
theorem szOrder_eq (n : Int) (l : List Int) (a : Int) (ha : 0 ≤ a ∧ a ≤ 1048576) (hl : l.length ≤ 9223372036854775807) : laws_szOrder.f n l a = some (if (l.length : Int) ≤ a then a - l.length else -1) := by
  unfold laws_szOrder.f
  rw [szIntS_eq l a ha hl]
  simp only [Option.bind_some]
  by_cases h : (l.length : Int) ≤ a
  · rw [if_pos h, if_neg (by omega)]
  · rw [if_neg h, if_pos (by omega)]
theorem toOrder_ev (n : Int) (l : List Int) (hl : l.length ≤ 35184372088832) : Ev (fun k => laws_toOrder.f k n l) (n, l) := by
  unfold laws_toOrder.f
  exact Ev.bind (toIntS_ev l hl) (Ev.now _)
theorem eqOrder_ev (n : Int) (l : List Int) (m : Int) (o : List Int) (hl : l.length ≤ 9223372036854775806) : Ev (fun k => laws_eqOrder.f k n l m o) (decide (n = m ∧ l = o)) := by
  unfold laws_eqOrder.f
  by_cases h : n = m
  · refine L.Ev.ifp h ?_
    refine Ev.bind (eqIntS_ev l o hl) ?_
    by_cases h2 : l = o
    · simp only [h, h2, and_self, decide_true, if_true]; exact Ev.now _
    · simp only [h2, and_false, decide_false]; exact L.Ev.ifn (by simp) (Ev.now _)
  · refine L.Ev.ifn h ?_
    simp only [h, false_and, decide_false]
    exact Ev.now _
theorem eqOrder_self (n : Int) (l : List Int) (hl : l.length ≤ 9223372036854775806) : Ev (fun k => laws_eqOrder.f k n l n l) true := by
  have h := eqOrder_ev n l n l hl
  simpa using h
end Go.Proofs.YtoilbeffheijeaaDoor.P

/-! ### PuMark -/
/- Plain laws of the marks that are laid into rows of whole numbers and looked for again; no conditions beyond the rows' lengths. -/
namespace Go.Proofs.YtoilbeffheijeaaDoor.P
open Go.RowKit Go.Proofs.YtoilbeffheijeaaDoorW.PrintWords Go.Proofs.YtoilbeffheijeaaDoorW.PrintLast Go.Proofs.YtoilbeffheijeaaDoorW.PrintMore L
set_option linter.unusedVariables false
set_option linter.unusedSimpArgs false
/-- a, a + 1, .. -/
def marks (a : Int) (n : Nat) : List Int := (List.range n).map fun (i : Nat) => a + (i : Int)
theorem marks_length (a : Int) (n : Nat) : (marks a n).length = n := by simp [marks]
theorem markIntS_ev (l : List Int) (a : Int) (ha : 0 ≤ a ∧ a ≤ 4194304) (hl : l.length ≤ 1048576) : Ev (fun k => laws_markIntS.f k l a) (a + l.length, marks a l.length) := by
  have key : ∀ i, i ≤ l.length → Ev (fun k => laws_markIntS.l0 k (marks a i ++ l.drop i) (a + i) (i : Int)) (a + l.length, marks a l.length) := by
    refine L.down ?_ fun i hi ih => ?_
    · refine L.Ev.succ ?_
      simp only [laws_markIntS.l0]
      rw [List.drop_eq_nil_of_le (Nat.le_refl _), List.append_nil]
      refine L.Ev.ifn (by rw [marks_length]; omega) ?_
      exact Ev.now _
    · refine L.Ev.succ ?_
      simp only [laws_markIntS.l0]
      refine L.Ev.ifp (by rw [List.length_append, marks_length, List.length_drop]; omega) (L.Ev.ifp (by omega) ?_)
      have e : (marks a i ++ l.drop i).set i (a + i) = marks a (i + 1) ++ l.drop (i + 1) := by
        refine List.ext_getElem? fun j => ?_
        rw [List.getElem?_set]
        by_cases hj : i = j
        · subst hj
          rw [if_pos rfl, if_pos (by rw [List.length_append, marks_length, List.length_drop]; omega), List.getElem?_append_left (by rw [marks_length]; omega)]
          simp [marks]
        · rw [if_neg hj]
          by_cases h1 : j < i
          · rw [List.getElem?_append_left (by rw [marks_length]; omega), List.getElem?_append_left (by rw [marks_length]; omega)]
            simp [marks, h1, show j < i + 1 by omega]
          · rw [List.getElem?_append_right (by rw [marks_length]; omega), List.getElem?_append_right (by rw [marks_length]; omega), marks_length, marks_length, List.getElem?_drop, List.getElem?_drop]
            congr 1; omega
      refine Ev.congr (fun k => ?_) ih
      rw [L.w64n (n := i) (by omega), L.w64 (x := a + i + 1) (by omega) (by omega), Int.toNat_natCast, e]
      congr 1; omega
  refine Ev.congr (fun k => ?_) (key 0 (by omega))
  unfold laws_markIntS.f
  simp [marks]
theorem heldIntS_ev (l : List Int) (a : Int) (ha : 0 ≤ a ∧ a ≤ 4194304) (hl : l.length ≤ 1048576) : Ev (fun k => laws_heldIntS.f k l a) (if l = marks a l.length then a + l.length else -1) := by
  by_cases hm : l = marks a l.length
  · rw [if_pos hm]
    have key : ∀ i, i ≤ l.length → Ev (fun k => laws_heldIntS.l0 k l (a + i) (i : Int)) (a + l.length) := by
      refine L.down ?_ fun i hi ih => ?_
      · refine L.Ev.succ ?_
        simp only [laws_heldIntS.l0]
        refine L.Ev.ifn (by omega) ?_
        exact Ev.now _
      · refine L.Ev.succ ?_
        simp only [laws_heldIntS.l0]
        refine L.Ev.ifp (by omega) (L.Ev.ifp (by omega) (L.Ev.ifp ?_ ?_))
        · rw [L.rd_nat]
          have e : l.getD i 0 = (marks a l.length).getD i 0 := by rw [← hm]
          rw [e, List.getD_eq_getElem?_getD]
          simp [marks, hi]
        · refine Ev.congr (fun k => ?_) ih
          rw [L.w64n (n := i) (by omega), L.w64 (x := a + i + 1) (by omega) (by omega)]
          congr 1; omega
    exact Ev.congr (fun k => by unfold laws_heldIntS.f; simp) (key 0 (by omega))
  · rw [if_neg hm]
    have key : ∀ i, i ≤ l.length → (∀ j, j < i → l.getD j 0 = a + j) → Ev (fun k => laws_heldIntS.l0 k l (a + i) (i : Int)) (-1) := by
      refine L.down ?_ fun i hi ih => ?_
      · intro h
        refine absurd ?_ hm
        refine List.ext_getElem? fun j => ?_
        by_cases hj : j < l.length
        · have := h j hj
          rw [List.getD_eq_getElem?_getD, List.getElem?_eq_getElem hj] at this
          rw [List.getElem?_eq_getElem hj]
          simp only [Option.getD_some] at this
          simp [marks, hj, this]
        · rw [List.getElem?_eq_none (by omega), List.getElem?_eq_none (by rw [marks_length]; omega)]
      · intro h
        refine L.Ev.succ ?_
        simp only [laws_heldIntS.l0]
        refine L.Ev.ifp (by omega) (L.Ev.ifp (by omega) ?_)
        by_cases e : rd l (i : Int) = a + i
        · refine L.Ev.ifp e ?_
          refine Ev.congr (fun k => ?_) (ih fun j hj => ?_)
          · rw [L.w64n (n := i) (by omega), L.w64 (x := a + i + 1) (by omega) (by omega)]
            congr 1; omega
          · by_cases hji : j = i
            · rw [hji, ← L.rd_nat]; exact e
            · exact h j (by omega)
        · exact L.Ev.ifn e (Ev.now _)
    exact Ev.congr (fun k => by unfold laws_heldIntS.f; simp) (key 0 (by omega) (by omega))
theorem held_marks (a : Int) (n : Nat) (ha : 0 ≤ a ∧ a ≤ 4194304) (hn : n ≤ 1048576) : Ev (fun k => laws_heldIntS.f k (marks a n) a) (a + n) := by
  have h := heldIntS_ev (marks a n) a ha (by rw [marks_length]; omega)
  rw [marks_length, if_pos rfl] at h
  exact h
end Go.Proofs.YtoilbeffheijeaaDoor.P

/-! ### PuMarkO -/
/- Plain laws of the marks that are laid into relations and looked for again; no conditions beyond the rows' lengths. -/
namespace Go.Proofs.YtoilbeffheijeaaDoor.P
open Go.RowKit Go.Proofs.YtoilbeffheijeaaDoorW.PrintWords Go.Proofs.YtoilbeffheijeaaDoorW.PrintLast Go.Proofs.YtoilbeffheijeaaDoorW.PrintMore L
set_option linter.unusedVariables false
set_option linter.unusedSimpArgs false
theorem markOrder_ev (n : Int) (l : List Int) (a : Int) (ha : 0 ≤ a ∧ a ≤ 4194304) (hl : l.length ≤ 1048576) : Ev (fun k => laws_markOrder.f k n l a) (a + l.length, marks a l.length) := by
  unfold laws_markOrder.f
  exact Ev.bind (markIntS_ev l a ha hl) (Ev.now _)
end Go.Proofs.YtoilbeffheijeaaDoor.P

/-! ### PuDilworth -/
/- Plain law: an order whose sets of incomparable elements have at most w elements falls into w chains (Dilworth); for every such order below n. -/
namespace Go.Proofs.YtoilbeffheijeaaDoor.Dil
set_option linter.unusedVariables false
set_option linter.unusedSimpArgs false
section
variable {n : Nat} {r : Nat → Nat → Bool}
theorem nodup_range_le : ∀ (w : Nat) (l : List Nat), l.Nodup → (∀ x ∈ l, x < w) → l.length ≤ w := by
  intro w
  induction w with
  | zero =>
    intro l _ h
    cases l with
    | nil => simp
    | cons x l => have := h x (List.mem_cons_self ..); omega
  | succ w ih =>
    intro l hn h
    have h1 := ih (l.filter fun x => x != w) (hn.filter _) (fun x hx => by
      obtain ⟨h1, h2⟩ := List.mem_filter.1 hx
      have := h x h1
      have : x ≠ w := by simpa using h2
      omega)
    have h2 : l.length ≤ (l.filter fun x => x != w).length + 1 := by
      clear h h1 ih
      induction l with
      | nil => simp
      | cons y l ih =>
        obtain ⟨ha, hb⟩ := List.nodup_cons.1 hn
        rw [List.filter_cons]
        by_cases e : y = w
        · subst e
          have : (l.filter fun x => x != y) = l := List.filter_eq_self.2 fun x hx => by
            have : x ≠ y := fun e => ha (e ▸ hx)
            simpa using this
          simp [this]
        · have := ih hb
          simp [e]; omega
    omega
theorem mem_of_full {w : Nat} {l : List Nat} (hn : l.Nodup) (h : ∀ x ∈ l, x < w) (hl : l.length = w) {i : Nat} (hi : i < w) : i ∈ l := by
  refine Classical.byContradiction fun hc => ?_
  have := nodup_range_le w (i :: l) (List.nodup_cons.2 ⟨hc, hn⟩) (fun x hx => by
    rcases List.mem_cons.1 hx with rfl | hx
    · exact hi
    · exact h x hx)
  simp at this; omega
/-- how many numbers below n have p. -/
def cnt (n : Nat) (p : Nat → Bool) : Nat := ((List.range n).filter p).length
theorem filter_len_le {p q : Nat → Bool} (l : List Nat) (h : ∀ x ∈ l, p x = true → q x = true) : (l.filter p).length ≤ (l.filter q).length := by
  induction l with
  | nil => simp
  | cons y l ih =>
    have i := ih fun x hx => h x (List.mem_cons_of_mem _ hx)
    have hy := h y (List.mem_cons_self ..)
    rw [List.filter_cons, List.filter_cons]
    cases hp : p y with
    | true => rw [hy hp]; simp; omega
    | false => cases q y <;> simp <;> omega
theorem filter_len_lt {p q : Nat → Bool} (l : List Nat) (h : ∀ x ∈ l, p x = true → q x = true) (a : Nat) (ha : a ∈ l) (hq : q a = true) (hp : p a = false) : (l.filter p).length < (l.filter q).length := by
  induction l with
  | nil => cases ha
  | cons y l ih =>
    have hl := fun x hx => h x (List.mem_cons_of_mem y hx)
    have hy := h y (List.mem_cons_self ..)
    rw [List.filter_cons, List.filter_cons]
    by_cases e : y = a
    · subst e
      have := filter_len_le l hl
      rw [hp, hq]; simp; omega
    · have ha' : a ∈ l := (List.mem_cons.1 ha).resolve_left fun e' => e e'.symm
      have i := ih hl ha'
      cases hpy : p y with
      | true => rw [hy hpy]; simp; omega
      | false => cases q y <;> simp <;> omega
theorem cnt_lt {p q : Nat → Bool} (h : ∀ x, x < n → p x = true → q x = true) {a : Nat} (ha : a < n) (hq : q a = true) (hp : p a = false) : cnt n p < cnt n q :=
  filter_len_lt _ (fun x hx => h x (List.mem_range.1 hx)) a (List.mem_range.2 ha) hq hp
theorem exists_max (hirr : ∀ i, r i i = false) (htr : ∀ i j k, r i j = true → r j k = true → r i k = true) (p : Nat → Prop) (hp : ∀ x, p x → x < n) :
    ∀ x, p x → ∃ m, p m ∧ ∀ y, p y → r m y = false := by
  have key : ∀ d x, p x → cnt n (fun y => r x y) ≤ d → ∃ m, p m ∧ ∀ y, p y → r m y = false := by
    intro d
    induction d with
    | zero =>
      intro x hx hd
      refine ⟨x, hx, fun y hy => ?_⟩
      cases h : r x y with
      | false => rfl
      | true =>
        have : y ∈ (List.range n).filter fun y => r x y := List.mem_filter.2 ⟨List.mem_range.2 (hp y hy), h⟩
        have := List.length_pos_of_mem this
        unfold cnt at hd; omega
    | succ d ih =>
      intro x hx hd
      by_cases hc : ∃ y, p y ∧ r x y = true
      · obtain ⟨y, hy, hxy⟩ := hc
        refine ih y hy ?_
        have := cnt_lt (n := n) (p := fun z => r y z) (q := fun z => r x z) (fun z _ hz => htr x y z hxy hz) (hp y hy) hxy (hirr y)
        omega
      · refine ⟨x, hx, fun y hy => ?_⟩
        cases h : r x y with
        | false => rfl
        | true => exact absurd ⟨y, hy, h⟩ hc
  exact fun x hx => key _ x hx (Nat.le_refl _)
/-- a list of elements no two of which are comparable. -/
structure Anti (r : Nat → Nat → Bool) (S : Nat → Bool) (A : List Nat) : Prop where
  nodup : A.Nodup
  mem : ∀ x ∈ A, S x = true
  free : ∀ x ∈ A, ∀ y ∈ A, r x y = false
theorem Anti.mono {S T : Nat → Bool} {A : List Nat} (h : Anti r S A) (hs : ∀ x, S x = true → T x = true) : Anti r T A := ⟨h.nodup, fun x hx => hs x (h.mem x hx), h.free⟩
def Chains (r : Nat → Nat → Bool) (S : Nat → Bool) (w : Nat) (c : Nat → Nat) : Prop :=
  (∀ i, S i = true → c i < w) ∧ ∀ i j, S i = true → S j = true → i ≠ j → c i = c j → r i j = true ∨ r j i = true
theorem map_nodup {A : List Nat} {f : Nat → Nat} (hn : A.Nodup) (h : ∀ x ∈ A, ∀ y ∈ A, f x = f y → x = y) : (A.map f).Nodup := by
  induction A with
  | nil => simp
  | cons a A ih =>
    obtain ⟨h1, h2⟩ := List.nodup_cons.1 hn
    rw [List.map_cons, List.nodup_cons]
    refine ⟨fun hm => ?_, ih h2 fun x hx y hy => h x (List.mem_cons_of_mem _ hx) y (List.mem_cons_of_mem _ hy)⟩
    obtain ⟨b, hb, e⟩ := List.mem_map.1 hm
    have := h b (List.mem_cons_of_mem _ hb) a (List.mem_cons_self ..) e
    exact h1 (this ▸ hb)
/-- an antichain with as many elements as there are chains meets each chain. -/
theorem hits {S : Nat → Bool} {w : Nat} {c : Nat → Nat} (hc : Chains r S w c) {A : List Nat} (hA : Anti r S A) (hl : A.length = w) {i : Nat} (hi : i < w) : ∃ x ∈ A, c x = i := by
  have := mem_of_full (w := w) (l := A.map c) (map_nodup hA.nodup fun x hx y hy e => by
    refine Classical.byContradiction fun hne => ?_
    rcases hc.2 x y (hA.mem x hx) (hA.mem y hy) hne e with h | h
    · rw [hA.free x hx y hy] at h; cases h
    · rw [hA.free y hy x hx] at h; cases h) (fun x hx => by
    obtain ⟨y, hy, rfl⟩ := List.mem_map.1 hx
    exact hc.1 y (hA.mem y hy)) (by simpa using hl) hi
  obtain ⟨x, hx, e⟩ := List.mem_map.1 this
  exact ⟨x, hx, e⟩
theorem dilworth (hirr : ∀ i, r i i = false) (htr : ∀ i j k, r i j = true → r j k = true → r i k = true) :
    ∀ (d : Nat) (S : Nat → Bool) (w : Nat), (∀ x, S x = true → x < n) → cnt n S ≤ d → (∀ A, Anti r S A → A.length ≤ w) → ∃ c, Chains r S w c := by
  intro d
  induction d with
  | zero =>
    intro S w hS hd _
    refine ⟨fun _ => 0, fun i hi => ?_, fun i j hi => ?_⟩ <;>
    · have : i ∈ (List.range n).filter S := List.mem_filter.2 ⟨List.mem_range.2 (hS i hi), hi⟩
      have := List.length_pos_of_mem this
      unfold cnt at hd; omega
  | succ d ih =>
    intro S w hS hd hw
    by_cases hne : ∃ x, S x = true
    case neg => exact ⟨fun _ => 0, fun i hi => absurd ⟨i, hi⟩ hne, fun i _ hi => absurd ⟨i, hi⟩ hne⟩
    obtain ⟨x0, hx0⟩ := hne
    obtain ⟨a, ha, hmax⟩ := exists_max (n := n) hirr htr (fun x => S x = true) hS x0 hx0
    have hw1 : 1 ≤ w := hw [a] ⟨by simp, by simpa using ha, by simp [hirr]⟩
    obtain ⟨S', hS'⟩ : ∃ S' : Nat → Bool, ∀ x, S' x = true ↔ S x = true ∧ x ≠ a := ⟨fun x => S x && decide (x ≠ a), fun x => by simp⟩
    have hsub : ∀ x, S' x = true → S x = true := fun x hx => ((hS' x).1 hx).1
    have hna : S' a = false := by cases h : S' a with | false => rfl | true => exact absurd rfl ((hS' a).1 h).2
    have hcnt : cnt n S' ≤ d := by
      have := cnt_lt (n := n) (p := S') (q := S) (fun x _ => hsub x) (hS a ha) ha hna
      omega
    by_cases hw' : ∀ A, Anti r S' A → A.length ≤ w - 1
    · obtain ⟨c, hc1, hc2⟩ := ih S' (w - 1) (fun x hx => hS x (hsub x hx)) hcnt hw'
      refine ⟨fun x => if x = a then w - 1 else c x, fun i hi => ?_, fun i j hi hj hij e => ?_⟩
      · by_cases h : i = a
        · simp [h]; omega
        · have := hc1 i ((hS' i).2 ⟨hi, h⟩)
          simp [h]; omega
      · by_cases h : i = a
        · have h2 : j ≠ a := fun e => hij (h.trans e.symm)
          have := hc1 j ((hS' j).2 ⟨hj, h2⟩)
          simp [h, h2] at e; omega
        · by_cases h2 : j = a
          · have := hc1 i ((hS' i).2 ⟨hi, h⟩)
            simp [h, h2] at e; omega
          · simp [h, h2] at e
            exact hc2 i j ((hS' i).2 ⟨hi, h⟩) ((hS' j).2 ⟨hj, h2⟩) hij e
    · have hex : ∃ A, Anti r S' A ∧ A.length = w := by
        refine Classical.byContradiction fun hc => hw' fun A hA => ?_
        have h1 := hw A (hA.mono hsub)
        have h2 : A.length ≠ w := fun e => hc ⟨A, hA, e⟩
        omega
      obtain ⟨A0, hA0, hl0⟩ := hex
      obtain ⟨c, hc⟩ := ih S' w (fun x hx => hS x (hsub x hx)) hcnt fun A hA => hw A (hA.mono hsub)
      have htop : ∀ i, ∃ m, i < w → (S' m = true ∧ c m = i ∧ ∃ A, Anti r S' A ∧ A.length = w ∧ m ∈ A) ∧ ∀ y, (S' y = true ∧ c y = i ∧ ∃ A, Anti r S' A ∧ A.length = w ∧ y ∈ A) → r m y = false := by
        intro i
        by_cases hi : i < w
        · obtain ⟨x, hx, e⟩ := hits hc hA0 hl0 hi
          obtain ⟨m, h1, h2⟩ := exists_max (n := n) hirr htr (fun y => S' y = true ∧ c y = i ∧ ∃ A, Anti r S' A ∧ A.length = w ∧ y ∈ A) (fun y hy => hS y (hsub y hy.1)) x ⟨hA0.mem x hx, e, A0, hA0, hl0, hx⟩
          exact ⟨m, fun _ => ⟨h1, h2⟩⟩
        · exact ⟨0, fun h => absurd h hi⟩
      let t := fun i => Classical.choose (htop i)
      have ht : ∀ i, i < w → (S' (t i) = true ∧ c (t i) = i ∧ ∃ A, Anti r S' A ∧ A.length = w ∧ t i ∈ A) ∧ ∀ y, (S' y = true ∧ c y = i ∧ ∃ A, Anti r S' A ∧ A.length = w ∧ y ∈ A) → r (t i) y = false := fun i => Classical.choose_spec (htop i)
      have below : ∀ i, i < w → ∀ B, Anti r S' B → B.length = w → ∃ y ∈ B, c y = i ∧ S' y = true ∧ (y = t i ∨ r y (t i) = true) := by
        intro i hi B hB hl
        obtain ⟨y, hy, e⟩ := hits hc hB hl hi
        refine ⟨y, hy, e, hB.mem y hy, ?_⟩
        by_cases heq : y = t i
        · exact .inl heq
        · have h1 := ht i hi
          rcases hc.2 y (t i) (hB.mem y hy) h1.1.1 heq (by rw [e, h1.1.2.1]) with h | h
          · exact .inr h
          · rw [h1.2 y ⟨hB.mem y hy, e, B, hB, hl, hy⟩] at h; cases h
      have hfree : ∀ i j, i < w → j < w → r (t i) (t j) = false := by
        intro i j hi hj
        cases h : r (t i) (t j) with
        | false => rfl
        | true =>
          obtain ⟨B, hB, hl, hm⟩ := (ht j hj).1.2.2
          obtain ⟨y, hy, _, _, hle⟩ := below i hi B hB hl
          have : r y (t j) = true := by
            rcases hle with rfl | h2
            · exact h
            · exact htr _ _ _ h2 h
          rw [hB.free y hy (t j) hm] at this; cases this
      have hcmp : ∃ i, i < w ∧ r (t i) a = true := by
        refine Classical.byContradiction fun hno => ?_
        have hno' : ∀ i, i < w → r (t i) a = false := fun i hi => by
          cases h : r (t i) a with | false => rfl | true => exact absurd ⟨i, hi, h⟩ hno
        have hta : ∀ i, i < w → t i ≠ a := fun i hi => ((hS' (t i)).1 (ht i hi).1.1).2
        have := hw (a :: (List.range w).map t) ⟨List.nodup_cons.2 ⟨fun hm => by
            obtain ⟨i, hi, e⟩ := List.mem_map.1 hm
            exact hta i (List.mem_range.1 hi) e, map_nodup List.nodup_range fun i hi j hj e => by
            have h1 := (ht i (List.mem_range.1 hi)).1.2.1
            have h2 := (ht j (List.mem_range.1 hj)).1.2.1
            rw [← h1, ← h2, e]⟩, fun x hx => by
            rcases List.mem_cons.1 hx with rfl | hx
            · exact ha
            · obtain ⟨i, hi, rfl⟩ := List.mem_map.1 hx
              exact hsub _ (ht i (List.mem_range.1 hi)).1.1, fun x hx y hy => by
            rcases List.mem_cons.1 hx with hx | hx
            · subst hx
              rcases List.mem_cons.1 hy with hy | hy
              · subst hy; exact hirr _
              · obtain ⟨j, hj, rfl⟩ := List.mem_map.1 hy
                exact hmax _ (hsub _ (ht j (List.mem_range.1 hj)).1.1)
            · obtain ⟨i, hi, rfl⟩ := List.mem_map.1 hx
              rcases List.mem_cons.1 hy with hy | hy
              · subst hy; exact hno' i (List.mem_range.1 hi)
              · obtain ⟨j, hj, rfl⟩ := List.mem_map.1 hy
                exact hfree i j (List.mem_range.1 hi) (List.mem_range.1 hj)⟩
        simp at this; omega
      obtain ⟨i, hi, hia⟩ := hcmp
      obtain ⟨T, hT⟩ : ∃ T : Nat → Bool, ∀ x, T x = true ↔ S' x = true ∧ ¬ (c x = i ∧ (x = t i ∨ r x (t i) = true)) :=
        ⟨fun x => S' x && decide (¬ (c x = i ∧ (x = t i ∨ r x (t i) = true))), fun x => by simp only [Bool.and_eq_true, decide_eq_true_eq]⟩
      have hTS : ∀ x, T x = true → S' x = true := fun x hx => ((hT x).1 hx).1
      have hTc : cnt n T ≤ d := by
        have h1 : cnt n T ≤ cnt n S' := filter_len_le _ fun x _ hx => hTS x hx
        omega
      obtain ⟨c2, hd1, hd2⟩ := ih T (w - 1) (fun x hx => hS x (hsub x (hTS x hx))) hTc fun A hA => by
        have h1 := hw A (hA.mono fun x hx => hsub x (hTS x hx))
        have h2 : A.length ≠ w := fun e => by
          obtain ⟨y, hy, e2, _, hle⟩ := below i hi A (hA.mono hTS) e
          exact ((hT y).1 (hA.mem y hy)).2 ⟨e2, hle⟩
        omega
      have hK : ∀ x, S x = true → T x = false → x = a ∨ (S' x = true ∧ c x = i ∧ (x = t i ∨ r x (t i) = true)) := by
        intro x hx hxT
        by_cases hxa : x = a
        · exact .inl hxa
        · have h1 := (hS' x).2 ⟨hx, hxa⟩
          refine .inr ⟨h1, Classical.byContradiction fun hno => ?_⟩
          rw [(hT x).2 ⟨h1, hno⟩] at hxT; cases hxT
      have hup : ∀ x, (x = t i ∨ r x (t i) = true) → r x a = true := fun x h => by
        rcases h with rfl | h
        · exact hia
        · exact htr _ _ _ h hia
      refine ⟨fun x => if T x = true then c2 x else w - 1, fun x hx => ?_, fun x y hx hy hxy e => ?_⟩
      · by_cases h : T x = true
        · have := hd1 x h
          simp [h]; omega
        · simp [h]; omega
      · by_cases h1 : T x = true
        · by_cases h2 : T y = true
          · simp [h1, h2] at e
            exact hd2 x y h1 h2 hxy e
          · have := hd1 x h1
            simp [h1, h2] at e; omega
        · by_cases h2 : T y = true
          · have := hd1 y h2
            simp [h1, h2] at e; omega
          · rcases hK x hx (by simpa using h1) with rfl | ⟨p1, p2, p3⟩
            · rcases hK y hy (by simpa using h2) with rfl | ⟨q1, q2, q3⟩
              · exact absurd rfl hxy
              · exact .inr (hup y q3)
            · rcases hK y hy (by simpa using h2) with rfl | ⟨q1, q2, q3⟩
              · exact .inl (hup x p3)
              · exact hc.2 x y p1 q1 hxy (p2.trans q2.symm)
end
end Go.Proofs.YtoilbeffheijeaaDoor.Dil

/-! ### PuLevels -/
/- Plain laws: the levels of sets that lie within each other: as many different levels as sets, the greatest one less; for every list of such sets. -/
namespace Go.Proofs.YtoilbeffheijeaaDoor.Lev
open Diff
set_option linter.unusedVariables false
set_option linter.unusedSimpArgs false
def sub (t s : Nat) : Bool := (t ^^^ (t &&& s)) == 0
theorem sub_iff (t s : Nat) : sub t s = true ↔ ∀ i, t.testBit i = true → s.testBit i = true := by
  unfold sub
  rw [beq_iff_eq]
  constructor
  · intro h i hi
    have := congrArg (fun x => x.testBit i) h
    simp only [Nat.testBit_xor, Nat.testBit_and, Nat.zero_testBit, hi, Bool.true_and, Bool.true_xor] at this
    simpa using this
  · intro h
    refine Nat.eq_of_testBit_eq fun i => ?_
    rw [Nat.testBit_xor, Nat.testBit_and, Nat.zero_testBit]
    cases ht : t.testBit i with
    | false => simp
    | true => simp [h i ht]
theorem sub_trans {a b c : Nat} (h : sub a b = true) (k : sub b c = true) : sub a c = true := by
  rw [sub_iff] at *; exact fun i hi => k i (h i hi)
theorem sub_antisymm {a b : Nat} (h : sub a b = true) (k : sub b a = true) : a = b := by
  rw [sub_iff] at *
  refine Nat.eq_of_testBit_eq fun i => ?_
  rw [Bool.eq_iff_iff]; exact ⟨h i, k i⟩
/-- the level of a set among sets: how many of them are within it and are others. -/
def level (D : List Nat) (s : Nat) : Nat := (D.filter fun t => decide (t ≠ s) && sub t s).length
theorem level_lt {D : List Nat} {s : Nat} (hs : s ∈ D) : level D s < D.length := by
  have := Dil.filter_len_lt (p := fun t => decide (t ≠ s) && sub t s) (q := fun _ => true) D (fun _ _ _ => rfl) s hs rfl (by simp)
  have e : D.filter (fun _ => true) = D := List.filter_eq_self.2 fun _ _ => rfl
  rw [e] at this; exact this
theorem level_mono {D : List Nat} {s t : Nat} (hs : s ∈ D) (h : sub s t = true) (hne : s ≠ t) : level D s < level D t := by
  refine Dil.filter_len_lt D (fun u _ hu => ?_) s hs (by simp [h, hne]) (by simp)
  simp only [Bool.and_eq_true, decide_eq_true_eq] at hu ⊢
  refine ⟨fun e => hne ?_, sub_trans hu.2 h⟩
  subst e
  exact sub_antisymm h hu.2
theorem levels_full {D : List Nat} (hn : D.Nodup) (hc : ∀ a ∈ D, ∀ b ∈ D, sub a b = true ∨ sub b a = true) : ∀ i, i < D.length → ∃ s ∈ D, level D s = i := by
  intro i hi
  have := Dil.mem_of_full (w := D.length) (l := D.map (level D)) (Dil.map_nodup hn fun x hx y hy e => by
    refine Classical.byContradiction fun hne => ?_
    rcases hc x hx y hy with h | h
    · have := level_mono hx h hne; omega
    · have := level_mono hy h (fun e => hne e.symm); omega) (fun x hx => by
    obtain ⟨y, hy, rfl⟩ := List.mem_map.1 hx
    exact level_lt hy) (by simp) hi
  obtain ⟨s, hs, e⟩ := List.mem_map.1 this
  exact ⟨s, hs, e⟩
/-- the greatest of some numbers, or -1. -/
def most (l : List Int) : Int := l.foldl max (-1)
theorem foldl_max : ∀ (l : List Int) (a : Int), a ≤ l.foldl max a ∧ (∀ x ∈ l, x ≤ l.foldl max a) ∧ (l.foldl max a = a ∨ l.foldl max a ∈ l)
  | [], a => by simp
  | x :: l, a => by
    obtain ⟨h1, h2, h3⟩ := foldl_max l (max a x)
    rw [List.foldl_cons]
    refine ⟨by omega, fun y hy => ?_, ?_⟩
    · rcases List.mem_cons.1 hy with rfl | hy
      · omega
      · exact h2 y hy
    · rcases h3 with h3 | h3
      · by_cases h : a ≤ x
        · right; rw [h3, Int.max_eq_right h]; exact List.mem_cons_self ..
        · left; rw [h3, Int.max_eq_left (by omega)]
      · right; exact List.mem_cons_of_mem _ h3
/-- numbers that fill 0 .. k - 1: there are k different ones, and the greatest is k - 1. -/
theorem full_magnitude (l : List Int) (k : Nat) (h : ∀ x, x ∈ l ↔ 0 ≤ x ∧ x < (k : Int)) : ((diffL l).length : Int) = most l + 1 ∧ most l + 1 = k := by
  obtain ⟨h1, h2⟩ := diffL_props l
  have e : diffL l = (List.range k).map fun (i : Nat) => (i : Int) := by
    refine asc_ext _ _ h1 ?_ fun x => ?_
    · rw [List.pairwise_map]
      exact List.pairwise_lt_range.imp fun h => by omega
    · rw [h2, h, List.mem_map]
      constructor
      · rintro ⟨a, b⟩
        exact ⟨x.toNat, List.mem_range.2 (by omega), by omega⟩
      · rintro ⟨a, ha, rfl⟩
        have := List.mem_range.1 ha
        omega
  have hk : most l + 1 = k := by
    obtain ⟨m1, m2, m3⟩ := foldl_max l (-1)
    unfold most
    generalize l.foldl max (-1) = z at *
    by_cases h0 : k = 0
    · rcases m3 with m3 | m3
      · omega
      · have := (h z).1 m3; omega
    · have := m2 ((k - 1 : Nat) : Int) ((h _).2 (by omega))
      rcases m3 with m3 | m3
      · omega
      · have := (h z).1 m3; omega
  refine ⟨?_, hk⟩
  rw [e, hk]; simp
theorem magnitude {low : List Nat} {D : List Nat} (hn : D.Nodup) (hm : ∀ x, x ∈ D ↔ x ∈ low) (hc : ∀ a ∈ low, ∀ b ∈ low, sub a b = true ∨ sub b a = true) :
    ((diffL (low.map fun s => ((level D s : Nat) : Int))).length : Int) = most (low.map fun s => ((level D s : Nat) : Int)) + 1 ∧ most (low.map fun s => ((level D s : Nat) : Int)) + 1 = D.length := by
  refine full_magnitude _ D.length fun x => ?_
  rw [List.mem_map]
  constructor
  · rintro ⟨s, hs, rfl⟩
    have := level_lt ((hm s).2 hs)
    omega
  · rintro ⟨h0, h1⟩
    obtain ⟨i, rfl⟩ := Int.eq_ofNat_of_zero_le h0
    obtain ⟨s, hs, e⟩ := levels_full hn (fun a ha b hb => hc a ((hm a).1 ha) b ((hm b).1 hb)) i (by omega)
    exact ⟨s, (hm s).1 hs, by rw [e]⟩
end Go.Proofs.YtoilbeffheijeaaDoor.Lev

/-! ### PuRel -/
/- Plain laws: which lists are relations, for the program and the reference alike; conditions: the numbers are 64-bit numbers. -/
namespace Go.Proofs.YtoilbeffheijeaaDoor.P
open Go.RowKit Go.Proofs.YtoilbeffheijeaaDoorW.PrintWords Go.Proofs.YtoilbeffheijeaaDoorW.PrintLast Go.Proofs.YtoilbeffheijeaaDoorW.PrintMore L
set_option linter.unusedVariables false
set_option linter.unusedSimpArgs false
theorem within_eq (a b c : Int) : impl_within.f a b c = some (decide (b ≤ a ∧ a ≤ c)) := by
  unfold impl_within.f
  by_cases h : a ≥ b
  · rw [if_pos h]; congr 1; simp; omega
  · rw [if_neg h]; congr 1; simp; omega
theorem l1In_eq (a b c : Int) : spec_l1In.f a b c = some (decide (b ≤ a ∧ a ≤ c)) := within_eq a b c
/-- all of a list lie between two numbers. -/
def allIn (l : List Int) (b c : Int) : Bool := l.all fun x => decide (b ≤ x ∧ x ≤ c)
theorem allIn_iff (l : List Int) (b c : Int) : allIn l b c = true ↔ ∀ x ∈ l, b ≤ x ∧ x ≤ c := by simp [allIn]
theorem allIn_step (l : List Int) (b c : Int) (i : Nat) (hi : i < l.length) : allIn (l.drop i) b c = (decide (b ≤ l[i] ∧ l[i] ≤ c) && allIn (l.drop (i + 1)) b c) := by
  unfold allIn; rw [List.drop_eq_getElem_cons hi, List.all_cons]
theorem allWithin_ev (l : List Int) (b c : Int) (hl : l.length ≤ 9223372036854775806) : Ev (fun k => impl_allWithin.f k l b c) (allIn l b c) := by
  have key : ∀ i, i ≤ l.length → Ev (fun k => impl_allWithin.l0 k b c l (l.length : Int) (i : Int)) (allIn (l.drop i) b c) := by
    refine L.down ?_ fun i hi ih => ?_
    · refine L.Ev.succ ?_
      simp only [impl_allWithin.l0]
      refine L.Ev.ifn (by omega) ?_
      rw [List.drop_eq_nil_of_le (Nat.le_refl _)]
      exact Ev.now _
    · refine L.Ev.succ ?_
      simp only [impl_allWithin.l0]
      refine L.Ev.ifp (by omega) (L.Ev.ifp (by omega) (L.Ev.ifp (by omega) (L.Ev.bindc (within_eq _ _ _) ?_)))
      rw [allIn_step l b c i hi, L.rd_get hi]
      by_cases h : b ≤ l[i] ∧ l[i] ≤ c
      · refine L.Ev.ifp (by simpa using h) ?_
        simp only [h, and_self, decide_true, Bool.true_and]
        exact Ev.congr (fun k => by rw [L.w64n (by omega)]) ih
      · refine L.Ev.ifn (by simpa using h) ?_
        simp only [h, decide_false, Bool.false_and]
        exact Ev.now _
  exact key 0 (by omega)
theorem l1All_same : ∀ k a b c d e, spec_l1All.l0 k a b c d e = impl_allWithin.l0 k a b c d e := by
  intro k
  induction k with
  | zero => intros; rfl
  | succ k ih => intro a b c d e; simp only [spec_l1All.l0, impl_allWithin.l0, ih, l1In_eq, within_eq]
theorem l1All_ev (l : List Int) (b c : Int) (hl : l.length ≤ 9223372036854775806) : Ev (fun k => spec_l1All.f k l b c) (allIn l b c) :=
  Ev.congr (fun k => l1All_same k b c l _ _) (allWithin_ev l b c hl)
/-- the numbers of a relation. -/
def isRel (n : Int) (l : List Int) : Bool := decide (0 ≤ n ∧ n ≤ 10 ∧ (l.length : Int) = n ∧ ∀ x ∈ l, 0 ≤ x ∧ x < 2 ^ n.toNat)
theorem isRel_iff (n : Int) (l : List Int) : isRel n l = true ↔ 0 ≤ n ∧ n ≤ 10 ∧ (l.length : Int) = n ∧ ∀ x ∈ l, 0 ≤ x ∧ x < 2 ^ n.toNat := by simp [isRel]
theorem isRel_big {n : Nat} {l : List Int} (h : isRel n l = true) : ∀ x ∈ l, 0 ≤ x ∧ x < 1024 := by
  obtain ⟨h0, h1, h2, h3⟩ := (isRel_iff _ _).1 h
  intro x hx
  obtain ⟨a, b⟩ := h3 x hx
  have : (2 : Int) ^ (n : Int).toNat ≤ 2 ^ 10 := by
    have := Nat.pow_le_pow_right (n := 2) (by decide) (show (n : Int).toNat ≤ 10 by omega)
    exact_mod_cast this
  omega
theorem isRel_ok {n : Int} {l : List Int} (h : isRel n l = true) : L.okRel n l := by
  obtain ⟨h0, h1, h2, h3⟩ := (isRel_iff _ _).1 h
  obtain ⟨m, rfl⟩ := Int.eq_ofNat_of_zero_le h0
  refine ⟨h0, by omega, h2, fun x hx => ?_⟩
  have := isRel_big h x hx
  omega
theorem IsRelation_ev (n : Int) (l : List Int) (hl : l.length ≤ 9223372036854775806) : Ev (fun k => impl_IsRelation.f k n l) (isRel n l) := by
  unfold impl_IsRelation.f
  refine L.Ev.bindc (within_eq _ _ _) ?_
  by_cases h : 0 ≤ n ∧ n ≤ 10
  · refine L.Ev.ifp (by simpa using h) ?_
    by_cases h2 : (l.length : Int) = n
    · refine L.Ev.ifp h2 (L.Ev.ifp h.1 ?_)
      obtain ⟨m, rfl⟩ := Int.eq_ofNat_of_zero_le h.1
      have e : wrap64 (shl .i64 1 (m : Int) - 1) = 2 ^ m - 1 := by
        rw [L.shl_one (by omega)]
        have h1 : (2 : Nat) ^ m ≤ 2 ^ 10 := Nat.pow_le_pow_right (by decide) (by omega)
        have e3 : ((2 ^ m : Nat) : Int) = 2 ^ m := by push_cast; rfl
        rw [← e3]
        generalize (2 : Nat) ^ m = z at *
        rw [L.w64 (by omega) (by omega)]
      have e2 : isRel (m : Int) l = allIn l 0 (2 ^ m - 1) := by
        rw [Bool.eq_iff_iff, isRel_iff, allIn_iff, Int.toNat_natCast]
        constructor
        · rintro ⟨_, _, _, h4⟩ x hx
          have := h4 x hx
          omega
        · intro h4
          refine ⟨h.1, h.2, h2, fun x hx => ?_⟩
          have := h4 x hx
          omega
      refine Ev.congr (fun k => ?_) (Ev.bind (allWithin_ev l 0 (2 ^ m - 1) hl) (f := fun _ t => some t) (r := isRel (m : Int) l) (by rw [e2]; exact Ev.now _))
      rw [e]
    · refine L.Ev.ifn h2 ?_
      have e : isRel n l = false := by
        rw [← Bool.not_eq_true, isRel_iff]; rintro ⟨_, _, h3, _⟩; exact h2 h3
      rw [e]; exact Ev.now _
  · refine L.Ev.ifn (by simpa using h) ?_
    have e : isRel n l = false := by
      rw [← Bool.not_eq_true, isRel_iff]; rintro ⟨h3, h4, _⟩; exact h ⟨h3, h4⟩
    rw [e]; exact Ev.now _
theorem orRelation_ev (n : Int) (l : List Int) (hl : l.length ≤ 9223372036854775806) : Ev (fun k => spec_orRelation.f k n l) (isRel n l) := by
  refine Ev.congr (fun k => ?_) (IsRelation_ev n l hl)
  unfold spec_orRelation.f impl_IsRelation.f
  simp only [l1In_eq, within_eq]
  have e : ∀ b c, spec_l1All.f k l b c = impl_allWithin.f k l b c := fun b c => l1All_same k b c l _ _
  simp only [e]
end Go.Proofs.YtoilbeffheijeaaDoor.P

/-! ### PuRel2 -/
/- Plain laws: single elements of relations: above, below, in bounds; for the program and the reference alike. -/
namespace Go.Proofs.YtoilbeffheijeaaDoor.P
open Go.RowKit Go.Proofs.YtoilbeffheijeaaDoorW.PrintWords Go.Proofs.YtoilbeffheijeaaDoorW.PrintLast Go.Proofs.YtoilbeffheijeaaDoorW.PrintMore L
set_option linter.unusedVariables false
set_option linter.unusedSimpArgs false
theorem isRel_nat {n : Int} {l : List Int} (h : isRel n l = true) : ∃ m : Nat, n = m ∧ m ≤ 10 ∧ l.length = m := by
  obtain ⟨h0, h1, h2, h3⟩ := (isRel_iff _ _).1 h
  obtain ⟨m, rfl⟩ := Int.eq_ofNat_of_zero_le h0
  exact ⟨m, rfl, by omega, by omega⟩
theorem orHas_eq {n : Int} {l : List Int} (h : L.okRel n l) (i j : Nat) (hj : j ≤ 64) : spec_orHas.f (rd l (i : Int)) (j : Int) = some (L.bitAt l i j) := by
  unfold spec_orHas.f
  rw [if_pos (by omega), h.bitm i j hj]
def R0 (n : Int) : Prop := -9223372036854775807 ≤ n ∧ n ≤ 9223372036854775807
end Go.Proofs.YtoilbeffheijeaaDoor.P

/-! ### PuRows -/
/- Plain lemmas: rows of bits that are built element by element; relations that are built row by row or mark by mark. -/
namespace Go.Proofs.YtoilbeffheijeaaDoor.L
open Go.RowKit Go.Proofs.YtoilbeffheijeaaDoorW.PrintWords Go.Proofs.YtoilbeffheijeaaDoorW.PrintLast Go.Proofs.YtoilbeffheijeaaDoorW.PrintMore
set_option linter.unusedVariables false
set_option linter.unusedSimpArgs false
theorem two_lt {j : Nat} (hj : j ≤ 60) : (2 : Nat) ^ j < 2 ^ 62 := Nat.pow_lt_pow_right (by decide) (by omega)
theorem relRow_lt62 (f : Nat → Bool) {j : Nat} (hj : j ≤ 60) : relRow f j < 2 ^ 62 := Nat.lt_trans (relRow_lt f j) (two_lt hj)
theorem row_yes {f : Nat → Bool} {j : Nat} (h : f j = true) (hj : j ≤ 60) : Go.bits .or .i64 ((relRow f j : Nat) : Int) (shl .i64 1 (j : Int)) = ((relRow f (j + 1) : Nat) : Int) := by
  rw [shl_one (by omega), or_nat (relRow_lt62 f hj) (two_lt hj)]
  show _ = ((if f j = true then _ else _ : Nat) : Int)
  rw [if_pos h]
theorem row_no {f : Nat → Bool} {j : Nat} (h : f j = false) : ((relRow f j : Nat) : Int) = ((relRow f (j + 1) : Nat) : Int) := by
  show _ = ((if f j = true then _ else _ : Nat) : Int)
  rw [if_neg (by rw [h]; simp)]
/-- the first i rows of a relation. -/
def relPre (n : Nat) (is : Nat → Nat → Bool) (i : Nat) : List Int := cast ((List.range i).map fun i => relRow (is i) n)
theorem relPre_zero (n : Nat) (is : Nat → Nat → Bool) : relPre n is 0 = [] := rfl
theorem relPre_length (n : Nat) (is : Nat → Nat → Bool) (i : Nat) : (relPre n is i).length = i := by simp [relPre, cast_length]
theorem relPre_full (n : Nat) (is : Nat → Nat → Bool) : relPre n is n = relL n is := rfl
theorem relPre_succ (n : Nat) (is : Nat → Nat → Bool) (i : Nat) : relPre n is i ++ [((relRow (is i) n : Nat) : Int)] = relPre n is (i + 1) := by
  simp [relPre, cast, List.range_succ]
theorem rd_relL (n : Nat) (is : Nat → Nat → Bool) {i : Nat} (h : i < n) : rd (relL n is) (i : Int) = ((relRow (is i) n : Nat) : Int) := by
  unfold relL; rw [rd_cast, relN_get n is h]
theorem relRow_congr {f g : Nat → Bool} {n : Nat} (h : ∀ j, j < n → f j = g j) : relRow f n = relRow g n := by
  refine Nat.eq_of_testBit_eq fun j => ?_
  rw [relRow_testBit, relRow_testBit]
  by_cases hj : j < n
  · rw [h j hj]
  · simp [hj]
theorem relRow_zero {n : Nat} : relRow (fun _ => false) n = 0 := by
  refine Nat.eq_of_testBit_eq fun j => ?_
  rw [relRow_testBit]; simp
theorem relL_none (n : Nat) : relL n (fun _ _ => false) = List.replicate n 0 := by
  refine List.ext_getElem (by simp [relL_length]) fun i h1 h2 => ?_
  have h3 : i < n := by rw [relL_length] at h1; exact h1
  have e := rd_relL n (fun _ _ => false) h3
  rw [rd_get h1, relRow_zero] at e
  rw [e]; simp
theorem relL_set {n : Nat} {is : Nat → Nat → Bool} {i : Nat} (hi : i < n) (f : Nat → Bool) : (relL n is).set i ((relRow f n : Nat) : Int) = relL n (fun a b => if a = i then f b else is a b) := by
  refine List.ext_getElem (by simp [relL_length]) fun j h1 h2 => ?_
  have h3 : j < n := by rw [relL_length] at h2; exact h2
  rw [List.getElem_set, ← rd_get h2, rd_relL n _ h3]
  by_cases e : i = j
  · subst e
    simp
  · rw [if_neg e, ← rd_get (by rw [relL_length]; exact h3), rd_relL n _ h3]
    exact congrArg (fun (x : Nat) => (x : Int)) (relRow_congr fun b _ => by show is j b = if j = i then f b else is j b; rw [if_neg (by omega)])
/-- a mark more. -/
theorem relL_mark {n : Nat} (hn : n ≤ 60) {is : Nat → Nat → Bool} {i j : Nat} (hi : i < n) (hj : j < n) : (relL n is).set i (Go.bits .or .i64 (rd (relL n is) (i : Int)) (shl .i64 1 (j : Int))) = relL n (fun a b => is a b || (decide (a = i) && decide (b = j))) := by
  rw [rd_relL n is hi, shl_one (by omega), or_nat (relRow_lt62 _ hn) (two_lt (by omega))]
  have e : relRow (is i) n ||| 2 ^ j = relRow (fun b => is i b || decide (b = j)) n := by
    refine Nat.eq_of_testBit_eq fun k => ?_
    rw [Nat.testBit_or, relRow_testBit, relRow_testBit, Nat.testBit_two_pow]
    by_cases hk : k < n
    · by_cases hkj : j = k
      · subst hkj; simp [hk]
      · simp [hk, hkj, show ¬ k = j from fun h => hkj h.symm]
    · simp [hk, show ¬ j = k by omega]
  rw [e, relL_set hi]
  refine relL_congr fun a b ha hb => ?_
  by_cases h : a = i
  · subst h; simp
  · simp [h]
/-- a row more in a row. -/
theorem relL_or {n : Nat} (hn : n ≤ 60) {is : Nat → Nat → Bool} {i k : Nat} (hi : i < n) (hk : k < n) : (relL n is).set i (Go.bits .or .i64 (rd (relL n is) (i : Int)) (rd (relL n is) (k : Int))) = relL n (fun a b => is a b || (decide (a = i) && is k b)) := by
  rw [rd_relL n is hi, rd_relL n is hk, or_nat (relRow_lt62 _ hn) (relRow_lt62 _ hn)]
  have e : relRow (is i) n ||| relRow (is k) n = relRow (fun b => is i b || is k b) n := by
    refine Nat.eq_of_testBit_eq fun j => ?_
    rw [Nat.testBit_or, relRow_testBit, relRow_testBit, relRow_testBit]
    cases decide (j < n) <;> simp
  rw [e, relL_set hi]
  refine relL_congr fun a b ha hb => ?_
  by_cases h : a = i
  · subst h; simp
  · simp [h]
/-- a relation that came in is the relation of its bits. -/
theorem okRel_eq {n : Nat} {l : List Int} (hl : l.length = n) (hn : n ≤ 60) (hb : ∀ x ∈ l, 0 ≤ x ∧ x < 2 ^ n) : l = relL n (bitAt l) := by
  refine List.ext_getElem (by rw [relL_length]; exact hl) fun i h1 h2 => ?_
  have h3 : i < n := by omega
  rw [← rd_get h2, rd_relL n _ h3]
  obtain ⟨a, b⟩ := hb l[i] (List.getElem_mem h1)
  obtain ⟨x, hx⟩ := Int.eq_ofNat_of_zero_le a
  rw [hx]
  have hlt : x < 2 ^ n := by rw [hx] at b; exact_mod_cast b
  congr 1
  refine Nat.eq_of_testBit_eq fun j => ?_
  rw [relRow_testBit]
  have e : bitAt l i j = x.testBit j := by
    unfold bitAt
    rw [List.getD_eq_getElem?_getD, List.getElem?_eq_getElem h1, Option.getD_some, hx, Int.toNat_natCast]
  rw [e]
  by_cases hj : j < n
  · simp [hj]
  · simp only [hj, decide_false, Bool.false_and]
    exact Nat.testBit_lt_two_pow (Nat.lt_of_lt_of_le hlt (Nat.pow_le_pow_right (by decide) (by omega)))
theorem rd_okRel {n : Nat} {l : List Int} (hl : l.length = n) (hn : n ≤ 60) (hb : ∀ x ∈ l, 0 ≤ x ∧ x < 2 ^ n) {i : Nat} (hi : i < n) : rd l (i : Int) = ((relRow (bitAt l i) n : Nat) : Int) := by
  have h := okRel_eq hl hn hb
  have e : rd l (i : Int) = rd (relL n (bitAt l)) (i : Int) := by rw [← h]
  rw [e, rd_relL n _ hi]
end Go.Proofs.YtoilbeffheijeaaDoor.L

/-! ### PuMembers -/
/- Plain laws: the elements of a set, in the program and in the reference; sets of numbers below ten. -/
namespace Go.Proofs.YtoilbeffheijeaaDoor.P
open Go.RowKit Go.Proofs.YtoilbeffheijeaaDoorW.PrintWords Go.Proofs.YtoilbeffheijeaaDoorW.PrintLast Go.Proofs.YtoilbeffheijeaaDoorW.PrintMore L
set_option linter.unusedVariables false
set_option linter.unusedSimpArgs false
/-- the elements of a set, in order. -/
def membersN (x : Nat) : List Nat := (List.range 10).filter fun i => x.testBit i
theorem membersN_step : ∀ x : Nat, x < 1024 → x ≠ 0 → membersN x = Lib.ctz 64 x :: membersN (x &&& (x - 1)) ∧ x &&& (x - 1) < x := by decide +kernel
theorem membersN_zero : membersN 0 = [] := by decide +kernel
theorem membersN_length (x : Nat) : (membersN x).length ≤ 10 := by
  have := List.length_filter_le (fun i => x.testBit i) (List.range 10)
  rw [List.length_range] at this; exact this
theorem mem_membersN {x i : Nat} : i ∈ membersN x ↔ i < 10 ∧ x.testBit i = true := by simp [membersN]
theorem mem_members_lt {x m i : Nat} (hx : x < 2 ^ m) (h : i ∈ membersN x) : i < m := by
  have h2 := (mem_membersN.1 h).2
  by_cases hi : i < m
  · exact hi
  · rw [Nat.testBit_lt_two_pow (Nat.lt_of_lt_of_le hx (Nat.pow_le_pow_right (by decide) (by omega)))] at h2
    cases h2
theorem membersLoop_ev : ∀ x : Nat, x < 1024 → ∀ acc : List Int, acc.length + 10 < 1048576 → Ev (fun k => impl_members.l0 k (x : Int) acc) (acc ++ L.cast (membersN x)) := by
  have key : ∀ n x : Nat, x < n → x < 1024 → ∀ acc : List Int, acc.length + (membersN x).length < 1048600 → Ev (fun k => impl_members.l0 k (x : Int) acc) (acc ++ L.cast (membersN x)) := by
    intro n
    induction n with
    | zero => intro x hx; omega
    | succ n ih =>
      intro x hx h10 acc hacc
      refine L.Ev.succ ?_
      simp only [impl_members.l0]
      by_cases h0 : x = 0
      · subst h0
        rw [membersN_zero]
        refine L.Ev.ifp (by omega) ?_
        have e : acc ++ L.cast [] = acc := by simp [L.cast]
        rw [e]; exact Ev.now _
      · obtain ⟨e1, e2⟩ := membersN_step x h10 h0
        refine L.Ev.ifn (by omega) (L.Ev.bindc (a := ((Lib.ctz 64 x : Nat) : Int)) ?_ (L.Ev.ifp (by omega) ?_))
        · rw [IntKind.wrap_u64]
          unfold bits_TrailingZeros.f
          rw [if_pos (by omega)]
          congr 3; omega
        · rw [L.w64 (by omega) (by omega), show ((x : Int) - 1) = ((x - 1 : Nat) : Int) by omega, L.and_nat (by omega) (by omega), e1]
          rw [e1, List.length_cons] at hacc
          have := ih (x &&& (x - 1)) (by omega) (by omega) (acc ++ [((Lib.ctz 64 x : Nat) : Int)]) (by rw [List.length_append, List.length_singleton]; omega)
          rw [List.append_assoc] at this
          exact this
  intro x hx acc hacc
  have := membersN_length x
  exact key (x + 1) x (by omega) hx acc (by omega)
theorem members_ev (x : Nat) (hx : x < 1024) : Ev (fun k => impl_members.f k (x : Int)) (L.cast (membersN x)) := by
  have := membersLoop_ev x hx [] (by simp)
  rw [List.nil_append] at this
  exact this
theorem orHas_nat {x j : Nat} (hj : j ≤ 64) : spec_orHas.f (x : Int) (j : Int) = some (x.testBit j) := by
  unfold spec_orHas.f
  rw [if_pos (by omega), L.bit_mod hj]
theorem orList_ev (x : Nat) (hx : x < 1024) : Ev (fun k => spec_orList.f k (x : Int)) (L.cast (membersN x)) := by
  have key : ∀ i, i ≤ 10 → Ev (fun k => spec_orList.l0 k (x : Int) (L.cast ((List.range i).filter fun i => x.testBit i)) (i : Int)) (L.cast (membersN x)) := by
    refine L.down ?_ fun i hi ih => ?_
    · refine L.Ev.succ ?_
      simp only [spec_orList.l0]
      refine L.Ev.ifp (by omega) (L.Ev.ifn ?_ (Ev.now _))
      rw [L.shr_nat (by omega), Nat.shiftRight_eq_div_pow, Nat.div_eq_of_lt (by simpa using hx)]; simp
    · refine L.Ev.succ ?_
      simp only [spec_orList.l0]
      refine L.Ev.ifp (by omega) ?_
      rw [L.shr_nat (by omega)]
      by_cases h : x >>> i = 0
      · refine L.Ev.ifn (by rw [h]; simp) ?_
        have hlt : x < 2 ^ i := by
          rw [Nat.shiftRight_eq_div_pow] at h
          exact (Nat.div_eq_zero_iff_lt (Nat.two_pow_pos i)).1 h
        have e : membersN x = (List.range i).filter fun i => x.testBit i := by
          unfold membersN
          rw [show 10 = i + (10 - i) by omega, List.range_add, List.filter_append]
          have e2 : ((List.range (10 - i)).map (i + ·)).filter (fun i => x.testBit i) = [] := by
            rw [List.filter_eq_nil_iff]
            intro a ha
            obtain ⟨b, _, rfl⟩ := List.mem_map.1 ha
            rw [Nat.testBit_lt_two_pow (Nat.lt_of_lt_of_le hlt (Nat.pow_le_pow_right (by decide) (by omega)))]; simp
          rw [e2, List.append_nil]
        rw [e]; exact Ev.now _
      · refine L.Ev.ifp (by have := Nat.pos_of_ne_zero h; exact_mod_cast this) (L.Ev.bindc (orHas_nat (by omega)) ?_)
        have e : (List.range (i + 1)).filter (fun i => x.testBit i) = (List.range i).filter (fun i => x.testBit i) ++ if x.testBit i then [i] else [] := by
          rw [List.range_succ, List.filter_append]
          cases hb : x.testBit i <;> simp [hb]
        rw [e] at ih
        have hlen : ((List.range i).filter fun i => x.testBit i).length ≤ 10 := by
          have := List.length_filter_le (fun i => x.testBit i) (List.range i)
          rw [List.length_range] at this; omega
        cases hb : x.testBit i with
        | true =>
          refine L.Ev.ifp rfl (L.Ev.ifp (by rw [L.cast_length]; omega) ?_)
          rw [hb, if_pos rfl, L.cast_append] at ih
          exact Ev.congr (fun k => by rw [L.w64n (by omega)]; rfl) ih
        | false =>
          refine L.Ev.ifn (by simp) ?_
          rw [hb, if_neg (by simp), List.append_nil] at ih
          exact Ev.congr (fun k => by rw [L.w64n (by omega)]) ih
  exact key 0 (by omega)
end Go.Proofs.YtoilbeffheijeaaDoor.P

/-! ### PuOrd -/
/- Plain laws: which relations are orders, for the program and the reference alike. -/
namespace Go.Proofs.YtoilbeffheijeaaDoor.P
open Go.RowKit Go.Proofs.YtoilbeffheijeaaDoorW.PrintWords Go.Proofs.YtoilbeffheijeaaDoorW.PrintLast Go.Proofs.YtoilbeffheijeaaDoorW.PrintMore L
set_option linter.unusedVariables false
set_option linter.unusedSimpArgs false
def rowN (l : List Int) (m i : Nat) : Nat := L.relRow (L.bitAt l i) m
theorem rowN_lt (l : List Int) (m i : Nat) : rowN l m i < 2 ^ m := L.relRow_lt _ _
theorem rowN_bit (l : List Int) (m i j : Nat) : (rowN l m i).testBit j = (decide (j < m) && L.bitAt l i j) := L.relRow_testBit _ _ _
theorem rel_len {m : Nat} {l : List Int} (h : isRel (m : Int) l = true) : l.length = m ∧ m ≤ 10 := by
  obtain ⟨m', hm', hm, hlm⟩ := isRel_nat h
  omega
theorem rd_rowN {m : Nat} {l : List Int} (h : isRel (m : Int) l = true) {i : Nat} (hi : i < m) : rd l (i : Int) = ((rowN l m i : Nat) : Int) := by
  have h2 := ((isRel_iff _ _).1 h).2.2.2
  rw [Int.toNat_natCast] at h2
  exact L.rd_okRel (rel_len h).1 (by have := (rel_len h).2; omega) h2 hi
theorem rowN_lt10 (l : List Int) {m : Nat} (hm : m ≤ 10) (i : Nat) : rowN l m i < 1024 :=
  Nat.lt_of_lt_of_le (rowN_lt l m i) (Nat.pow_le_pow_right (n := 2) (by decide) hm)
def ordRow (l : List Int) (m i : Nat) : Bool := (membersN (rowN l m i)).all fun j => L.diff (rowN l m j) (rowN l m i) == 0
def ordAt (l : List Int) (m i : Nat) : Bool := !L.bitAt l i i && ordRow l m i
def ordB (l : List Int) (m : Nat) : Bool := (List.range m).all (ordAt l m)
def isOrd (n : Int) (l : List Int) : Bool := isRel n l && ordB l n.toNat
theorem range_drop_step (f : Nat → Bool) (n i : Nat) (hi : i < n) : ((List.range n).drop i).all f = (f i && ((List.range n).drop (i + 1)).all f) := by
  rw [List.drop_eq_getElem_cons (by simpa using hi), List.all_cons]; simp
theorem range_drop_end (f : Nat → Bool) (n : Nat) : ((List.range n).drop n).all f = true := by rw [List.drop_eq_nil_of_le (by simp)]; rfl
theorem IsOrderLoop_ev {m : Nat} {l : List Int} (h : isRel (m : Int) l = true) : Ev (fun k => impl_IsOrder.l0 k l (l.length : Int) 0 (m : Int) l) (ordB l m) := by
  obtain ⟨h1, h2⟩ := rel_len h
  have ok := isRel_ok h
  have k1 : ∀ i, i < m → Ev (fun k => impl_IsOrder.l0 k l (l.length : Int) ((i + 1 : Nat) : Int) (m : Int) l) (((List.range m).drop (i + 1)).all (ordAt l m)) →
      ∀ j, j ≤ (membersN (rowN l m i)).length → Ev (fun k => impl_IsOrder.l1 k ((rowN l m i : Nat) : Int) l (l.length : Int) (i : Int) (L.cast (membersN (rowN l m i))) ((L.cast (membersN (rowN l m i))).length : Int) (j : Int) (m : Int) l)
        (((membersN (rowN l m i)).drop j).all (fun j => L.diff (rowN l m j) (rowN l m i) == 0) && ((List.range m).drop (i + 1)).all (ordAt l m)) := by
    intro i hi hk
    have hl10 := membersN_length (rowN l m i)
    refine L.down ?_ fun j hj ih => ?_
    · refine L.Ev.succ ?_
      simp only [impl_IsOrder.l1]
      rw [List.drop_eq_nil_of_le (Nat.le_refl _), List.all_nil, Bool.true_and]
      refine L.Ev.ifn (by rw [L.cast_length]; omega) ?_
      rw [L.w64n (by omega)]; exact hk
    · refine L.Ev.succ ?_
      simp only [impl_IsOrder.l1]
      have hmem := mem_members_lt (rowN_lt l m i) (List.getElem_mem hj)
      have e : rd (L.cast (membersN (rowN l m i))) (j : Int) = (((membersN (rowN l m i))[j] : Nat) : Int) := by
        rw [L.rd_cast, List.getD_eq_getElem?_getD, List.getElem?_eq_getElem hj]; rfl
      rw [e, rd_rowN h hmem, L.andNot_nat (by have := rowN_lt10 l h2 (membersN (rowN l m i))[j]; omega) (by have := rowN_lt10 l h2 i; omega), List.drop_eq_getElem_cons hj, List.all_cons]
      refine L.Ev.ifp (by rw [L.cast_length]; omega) (L.Ev.ifp (by omega) (L.Ev.ifp (by rw [L.cast_length]; omega) (L.Ev.ifp (by omega) (L.Ev.ifp (by omega) ?_))))
      by_cases hd : L.diff (rowN l m (membersN (rowN l m i))[j]) (rowN l m i) = 0
      · refine L.Ev.ifp (by rw [hd]; rfl) ?_
        have e2 : (L.diff (rowN l m (membersN (rowN l m i))[j]) (rowN l m i) == 0) = true := by rw [hd]; rfl
        rw [e2, Bool.true_and]
        exact Ev.congr (fun k => by rw [L.w64n (by omega)]) ih
      · refine L.Ev.ifn (by omega) ?_
        have e2 : (L.diff (rowN l m (membersN (rowN l m i))[j]) (rowN l m i) == 0) = false := by simp [hd]
        rw [e2, Bool.false_and, Bool.false_and]
        exact Ev.now _
  have k0 : ∀ i, i ≤ m → Ev (fun k => impl_IsOrder.l0 k l (l.length : Int) (i : Int) (m : Int) l) (((List.range m).drop i).all (ordAt l m)) := by
    refine L.down ?_ fun i hi ih => ?_
    · refine L.Ev.succ ?_
      simp only [impl_IsOrder.l0]
      rw [range_drop_end]
      exact L.Ev.ifn (by omega) (Ev.now _)
    · refine L.Ev.succ ?_
      simp only [impl_IsOrder.l0]
      rw [range_drop_step _ _ _ hi]
      refine L.Ev.ifp (by omega) (L.Ev.ifp (by omega) (L.Ev.ifp (by omega) (L.Ev.bindc (impl_Order_better.tells ok i i (by omega) (by omega)) ?_)))
      unfold ordAt
      cases hb : L.bitAt l i i with
      | true => exact L.Ev.ifp rfl (by simp only [Bool.not_true, Bool.false_and]; exact Ev.now _)
      | false =>
        refine L.Ev.ifn (by simp) ?_
        rw [rd_rowN h hi]
        refine Ev.bind (members_ev _ (rowN_lt10 l h2 i)) ?_
        have := k1 i hi ih 0 (by omega)
        rw [List.drop_zero] at this
        simp only [Bool.not_false, Bool.true_and]
        exact this
  have := k0 0 (by omega)
  rw [List.drop_zero] at this
  exact this
theorem orGoodLoop_ev {m : Nat} {l : List Int} (h : isRel (m : Int) l = true) : Ev (fun k => spec_orGood.l0 k l (l.length : Int) 0 (m : Int) l) (ordB l m) := by
  obtain ⟨h1, h2⟩ := rel_len h
  have ok := isRel_ok h
  have k1 : ∀ i, i < m → Ev (fun k => spec_orGood.l0 k l (l.length : Int) ((i + 1 : Nat) : Int) (m : Int) l) (((List.range m).drop (i + 1)).all (ordAt l m)) →
      ∀ j, j ≤ (membersN (rowN l m i)).length → Ev (fun k => spec_orGood.l1 k ((rowN l m i : Nat) : Int) l (l.length : Int) (i : Int) (L.cast (membersN (rowN l m i))) ((L.cast (membersN (rowN l m i))).length : Int) (j : Int) (m : Int) l)
        (((membersN (rowN l m i)).drop j).all (fun j => L.diff (rowN l m j) (rowN l m i) == 0) && ((List.range m).drop (i + 1)).all (ordAt l m)) := by
    intro i hi hk
    have hl10 := membersN_length (rowN l m i)
    refine L.down ?_ fun j hj ih => ?_
    · refine L.Ev.succ ?_
      simp only [spec_orGood.l1]
      rw [List.drop_eq_nil_of_le (Nat.le_refl _), List.all_nil, Bool.true_and]
      refine L.Ev.ifn (by rw [L.cast_length]; omega) ?_
      rw [L.w64n (by omega)]; exact hk
    · refine L.Ev.succ ?_
      simp only [spec_orGood.l1]
      have hmem := mem_members_lt (rowN_lt l m i) (List.getElem_mem hj)
      have e : rd (L.cast (membersN (rowN l m i))) (j : Int) = (((membersN (rowN l m i))[j] : Nat) : Int) := by
        rw [L.rd_cast, List.getD_eq_getElem?_getD, List.getElem?_eq_getElem hj]; rfl
      rw [e, rd_rowN h hmem, L.andNot_nat (by have := rowN_lt10 l h2 (membersN (rowN l m i))[j]; omega) (by have := rowN_lt10 l h2 i; omega), List.drop_eq_getElem_cons hj, List.all_cons]
      refine L.Ev.ifp (by rw [L.cast_length]; omega) (L.Ev.ifp (by omega) (L.Ev.ifp (by rw [L.cast_length]; omega) (L.Ev.ifp (by omega) (L.Ev.ifp (by omega) ?_))))
      by_cases hd : L.diff (rowN l m (membersN (rowN l m i))[j]) (rowN l m i) = 0
      · refine L.Ev.ifp (by rw [hd]; rfl) ?_
        have e2 : (L.diff (rowN l m (membersN (rowN l m i))[j]) (rowN l m i) == 0) = true := by rw [hd]; rfl
        rw [e2, Bool.true_and]
        exact Ev.congr (fun k => by rw [L.w64n (by omega)]) ih
      · refine L.Ev.ifn (by omega) ?_
        have e2 : (L.diff (rowN l m (membersN (rowN l m i))[j]) (rowN l m i) == 0) = false := by simp [hd]
        rw [e2, Bool.false_and, Bool.false_and]
        exact Ev.now _
  have k0 : ∀ i, i ≤ m → Ev (fun k => spec_orGood.l0 k l (l.length : Int) (i : Int) (m : Int) l) (((List.range m).drop i).all (ordAt l m)) := by
    refine L.down ?_ fun i hi ih => ?_
    · refine L.Ev.succ ?_
      simp only [spec_orGood.l0]
      rw [range_drop_end]
      exact L.Ev.ifn (by omega) (Ev.now _)
    · refine L.Ev.succ ?_
      simp only [spec_orGood.l0]
      rw [range_drop_step _ _ _ hi]
      refine L.Ev.ifp (by omega) (L.Ev.ifp (by omega) (L.Ev.ifp (by omega) (L.Ev.bindc (orHas_eq ok i i (by omega)) ?_)))
      unfold ordAt
      cases hb : L.bitAt l i i with
      | true => exact L.Ev.ifp rfl (by simp only [Bool.not_true, Bool.false_and]; exact Ev.now _)
      | false =>
        refine L.Ev.ifn (by simp) ?_
        rw [rd_rowN h hi]
        refine Ev.bind (orList_ev _ (rowN_lt10 l h2 i)) ?_
        have := k1 i hi ih 0 (by omega)
        rw [List.drop_zero] at this
        simp only [Bool.not_false, Bool.true_and]
        exact this
  have := k0 0 (by omega)
  rw [List.drop_zero] at this
  exact this
theorem IsOrder_ev (n : Int) (l : List Int) (hl : l.length ≤ 1048576) : Ev (fun k => impl_IsOrder.f k n l) (isOrd n l) := by
  unfold impl_IsOrder.f isOrd
  refine Ev.bind (IsRelation_ev n l (by omega)) ?_
  cases h : isRel n l with
  | false => exact L.Ev.ifn (by simp) (by rw [Bool.false_and]; exact Ev.now _)
  | true =>
    obtain ⟨m, rfl, hm, hlm⟩ := isRel_nat h
    refine L.Ev.ifp rfl ?_
    rw [Bool.true_and, Int.toNat_natCast]
    exact IsOrderLoop_ev h
theorem orGood_ev (n : Int) (l : List Int) (hl : l.length ≤ 1048576) : Ev (fun k => spec_orGood.f k n l) (isOrd n l) := by
  unfold spec_orGood.f isOrd
  refine Ev.bind (orRelation_ev n l (by omega)) ?_
  cases h : isRel n l with
  | false => exact L.Ev.ifn (by simp) (by rw [Bool.false_and]; exact Ev.now _)
  | true =>
    obtain ⟨m, rfl, hm, hlm⟩ := isRel_nat h
    refine L.Ev.ifp rfl ?_
    rw [Bool.true_and, Int.toNat_natCast]
    exact orGoodLoop_ev h
theorem isOrd_rel {n : Int} {l : List Int} (h : isOrd n l = true) : isRel n l = true := by
  unfold isOrd at h; rw [Bool.and_eq_true] at h; exact h.1
end Go.Proofs.YtoilbeffheijeaaDoor.P

/-! ### PuBelow -/
/- Plain laws: the set below an element. -/
namespace Go.Proofs.YtoilbeffheijeaaDoor.P
open Go.RowKit Go.Proofs.YtoilbeffheijeaaDoorW.PrintWords Go.Proofs.YtoilbeffheijeaaDoorW.PrintLast Go.Proofs.YtoilbeffheijeaaDoorW.PrintMore L
set_option linter.unusedVariables false
set_option linter.unusedSimpArgs false
/-- the set of all elements below one, as a natural number. -/
def belowN (l : List Int) (m i : Nat) : Nat := L.relRow (fun j => L.bitAt l j i) m
theorem belowN_lt (l : List Int) (m i : Nat) : belowN l m i < 2 ^ m := L.relRow_lt _ _
theorem belowN_bit (l : List Int) (m i j : Nat) : (belowN l m i).testBit j = (decide (j < m) && L.bitAt l j i) := L.relRow_testBit _ _ _
theorem orBelow_ev {m : Nat} {l : List Int} (h : isRel (m : Int) l = true) (i : Nat) (hi : i ≤ 64) : Ev (fun k => spec_orBelow.f k (m : Int) l (i : Int)) ((belowN l m i : Nat) : Int) := by
  obtain ⟨m', hm', hm, hlm⟩ := isRel_nat h
  obtain rfl : m = m' := by omega
  have ok := isRel_ok h
  have key : ∀ j, j ≤ m → Ev (fun k => spec_orBelow.l0 k (i : Int) ((L.relRow (fun j => L.bitAt l j i) j : Nat) : Int) l (l.length : Int) (j : Int)) ((belowN l m i : Nat) : Int) := by
    refine L.down ?_ fun j hj ih => ?_
    · refine L.Ev.succ ?_
      simp only [spec_orBelow.l0]
      exact L.Ev.ifn (by omega) (Ev.now _)
    · refine L.Ev.succ ?_
      simp only [spec_orBelow.l0]
      have hlt : L.relRow (fun j => L.bitAt l j i) j < 2 ^ 62 := Nat.lt_of_lt_of_le (L.relRow_lt _ j) (Nat.pow_le_pow_right (by decide) (by omega))
      have hp : (2 : Nat) ^ j < 2 ^ 62 := Nat.pow_lt_pow_right (by decide) (by omega)
      refine L.Ev.ifp (by omega) (L.Ev.ifp (by omega) (L.Ev.ifp (by omega) (L.Ev.bindc (orHas_eq ok j i hi) ?_)))
      rw [L.shl_one (by omega), L.or_nat hlt hp, L.w64n (by omega)]
      have e : L.relRow (fun j => L.bitAt l j i) (j + 1) = if L.bitAt l j i then L.relRow (fun j => L.bitAt l j i) j ||| 2 ^ j else L.relRow (fun j => L.bitAt l j i) j := rfl
      rw [e] at ih
      cases hb : L.bitAt l j i with
      | true => rw [hb] at ih; exact L.Ev.ifp rfl ih
      | false => rw [hb] at ih; exact L.Ev.ifn (by simp) ih
  exact key 0 (by omega)
theorem mirror_eq {m : Nat} {l : List Int} (h : isRel (m : Int) l = true) : impl_Order_mirror.f (m : Int) l = some ((m : Int), L.relL m fun i j => L.bitAt l j i) := by
  unfold impl_Order_mirror.f
  rw [if_pos (isRel_ok h)]; rfl
theorem rd_mirror (l : List Int) {m i : Nat} (hi : i < m) : rd (L.relL m fun i j => L.bitAt l j i) (i : Int) = ((belowN l m i : Nat) : Int) := by
  unfold L.relL
  rw [L.rd_cast, L.relN_get _ _ hi]; rfl
end Go.Proofs.YtoilbeffheijeaaDoor.P

/-! ### PuSets -/
/- Plain laws: sets of elements as numbers. -/
namespace Go.Proofs.YtoilbeffheijeaaDoor.P
open Go.RowKit Go.Proofs.YtoilbeffheijeaaDoorW.PrintWords Go.Proofs.YtoilbeffheijeaaDoorW.PrintLast Go.Proofs.YtoilbeffheijeaaDoorW.PrintMore L
set_option linter.unusedVariables false
set_option linter.unusedSimpArgs false
def allN (m : Nat) : Nat := 2 ^ m - 1
theorem allN_bit (m i : Nat) : (allN m).testBit i = decide (i < m) := by unfold allN; exact Nat.testBit_two_pow_sub_one ..
theorem allN_lt (m : Nat) : allN m < 2 ^ m := by unfold allN; have := Nat.two_pow_pos m; omega
theorem shl_all {m : Nat} (hm : m ≤ 60) : wrap64 ((shl .i64 1 (m : Int)) - 1) = ((allN m : Nat) : Int) := by
  rw [L.shl_one (by omega)]
  have h := L.two_lt hm
  have h0 := Nat.two_pow_pos m
  unfold allN
  rw [L.w64 (by omega) (by omega)]; omega
theorem relRow_lt10 (f : Nat → Bool) {m : Nat} (hm : m ≤ 10) : L.relRow f m < 1024 :=
  Nat.lt_of_lt_of_le (L.relRow_lt f m) (Nat.pow_le_pow_right (n := 2) (by decide) hm)
theorem two_lt10 {i : Nat} (hm : i < 10) : (2 : Nat) ^ i < 1024 := Nat.pow_lt_pow_right (by decide) hm
theorem allN_lt10 {m : Nat} (hm : m ≤ 10) : allN m < 1024 := Nat.lt_of_lt_of_le (allN_lt m) (Nat.pow_le_pow_right (n := 2) (by decide) hm)
/-- the set of the elements of a list. -/
def setN (l : List Int) : Nat := L.relRow (fun j => decide ((j : Int) ∈ l)) 10
theorem setN_lt (l : List Int) : setN l < 1024 := relRow_lt10 _ (by omega)
theorem setN_bit (l : List Int) (j : Nat) : (setN l).testBit j = (decide (j < 10) && decide ((j : Int) ∈ l)) := L.relRow_testBit _ _ _
theorem setN_nil : setN [] = 0 := by decide +kernel
theorem setN_step (l : List Int) (i x : Nat) (hi : i < l.length) (hx : l[i] = (x : Int)) (h10 : x < 10) : setN (l.take i) ||| 2 ^ x = setN (l.take (i + 1)) := by
  refine Nat.eq_of_testBit_eq fun j => ?_
  rw [Nat.testBit_or, setN_bit, setN_bit, Nat.testBit_two_pow]
  have e : l.take (i + 1) = l.take i ++ [l[i]] := by rw [List.take_add_one, List.getElem?_eq_getElem hi]; rfl
  have e2 : ((j : Int) ∈ l.take (i + 1)) = ((j : Int) ∈ l.take i ∨ x = j) := by
    rw [e, List.mem_append, List.mem_singleton, hx]
    exact propext ⟨fun h => h.imp id fun h => by omega, fun h => h.imp id fun h => by omega⟩
  simp only [e2]
  by_cases hj : j < 10
  · by_cases h1 : (j : Int) ∈ l.take i <;> by_cases h2 : x = j <;> simp [hj, h1, h2]
  · by_cases h2 : x = j
    · omega
    · simp [hj, h2]
theorem int_beq (a b : Nat) : ((a : Int) == (b : Int)) = (a == b) := by
  rw [Bool.eq_iff_iff]; simp only [beq_iff_eq]; omega
end Go.Proofs.YtoilbeffheijeaaDoor.P

/-! ### PuLevel -/
/- Plain laws: the levels of all elements, in the program and in the reference. -/
namespace Go.Proofs.YtoilbeffheijeaaDoor.P
open Go.RowKit Go.Proofs.YtoilbeffheijeaaDoorW.PrintWords Go.Proofs.YtoilbeffheijeaaDoorW.PrintLast Go.Proofs.YtoilbeffheijeaaDoorW.PrintMore L
set_option linter.unusedVariables false
set_option linter.unusedSimpArgs false
theorem belowN_lt1k (l : List Int) {m : Nat} (hm : m ≤ 10) (i : Nat) : belowN l m i < 1024 := relRow_lt10 _ hm
/-- the different numbers of a list of naturals, in order. -/
def dN (xs : List Nat) : List Nat := (Diff.diffL (L.cast xs)).map Int.toNat
theorem dN_cast (xs : List Nat) : L.cast (dN xs) = Diff.diffL (L.cast xs) := by
  unfold dN L.cast
  rw [List.map_map]
  have : ∀ x ∈ Diff.diffL (xs.map fun (x : Nat) => (x : Int)), ((fun (x : Nat) => (x : Int)) ∘ Int.toNat) x = id x := by
    intro x hx
    obtain ⟨y, _, rfl⟩ := List.mem_map.1 (((Diff.diffL_props _).2 x).1 hx)
    simp
  rw [List.map_congr_left this, List.map_id]
theorem mem_cast {xs : List Nat} {x : Nat} : (x : Int) ∈ L.cast xs ↔ x ∈ xs := by
  unfold L.cast
  rw [List.mem_map]
  constructor
  · rintro ⟨y, hy, e⟩
    have : y = x := by omega
    rwa [← this]
  · intro h; exact ⟨x, h, rfl⟩
theorem mem_dN {xs : List Nat} {x : Nat} : x ∈ dN xs ↔ x ∈ xs := by
  rw [← mem_cast, dN_cast, (Diff.diffL_props _).2, mem_cast]
theorem dN_asc (xs : List Nat) : (dN xs).Pairwise (· < ·) := by
  have := (Diff.diffL_props (L.cast xs)).1
  rw [← dN_cast] at this
  unfold L.cast at this
  rw [List.pairwise_map] at this
  exact this.imp fun h => by omega
theorem dN_nodup (xs : List Nat) : (dN xs).Nodup := (dN_asc xs).imp fun h => by omega
theorem dN_length (xs : List Nat) : (dN xs).length ≤ xs.length := by
  have := Diff.diffL_length_le (L.cast xs)
  rw [← dN_cast, L.cast_length, L.cast_length] at this
  exact this
def lowL (l : List Int) (m i : Nat) : List Nat := (List.range i).map (belowN l m)
theorem lowL_length (l : List Int) (m i : Nat) : (lowL l m i).length = i := by simp [lowL]
theorem lowL_succ (l : List Int) (m i : Nat) : lowL l m (i + 1) = lowL l m i ++ [belowN l m i] := by simp [lowL, List.range_succ]
def setsN (l : List Int) (m : Nat) : List Nat := dN (lowL l m m)
theorem setsN_length (l : List Int) (m : Nat) : (setsN l m).length ≤ m := by
  have := dN_length (lowL l m m)
  rw [lowL_length] at this; exact this
theorem setsN_lt (l : List Int) {m : Nat} (hm : m ≤ 10) : ∀ x ∈ setsN l m, x < 1024 := by
  intro x hx
  obtain ⟨i, _, rfl⟩ := List.mem_map.1 (mem_dN.1 hx)
  exact belowN_lt1k l hm i
def levN (l : List Int) (m i : Nat) : Nat := Lev.level (setsN l m) (belowN l m i)
theorem levN_le (l : List Int) (m i : Nat) : levN l m i ≤ m := Nat.le_trans (List.length_filter_le _ _) (setsN_length l m)
def levL (l : List Int) (m i : Nat) : List Int := L.cast ((List.range i).map (levN l m))
theorem levL_length (l : List Int) (m i : Nat) : (levL l m i).length = i := by simp [levL, L.cast_length]
theorem levL_succ (l : List Int) (m i : Nat) : levL l m i ++ [((levN l m i : Nat) : Int)] = levL l m (i + 1) := by simp [levL, L.cast, List.range_succ]
theorem rd_levL (l : List Int) {m i n : Nat} (h : i < n) : rd (levL l m n) (i : Int) = ((levN l m i : Nat) : Int) := by
  unfold levL; rw [L.rd_cast]; simp [List.getD_eq_getElem?_getD, h]
def levP (s t : Nat) : Bool := decide (t ≠ s) && Lev.sub t s
theorem levP_count (s : Nat) (D : List Nat) (j : Nat) (hj : j < D.length) : ((D.take (j + 1)).filter (levP s)).length = ((D.take j).filter (levP s)).length + if levP s D[j] then 1 else 0 := by
  have e : D.take (j + 1) = D.take j ++ [D[j]] := by rw [List.take_add_one, List.getElem?_eq_getElem hj]; rfl
  rw [e, List.filter_append, List.length_append, List.filter_cons, List.filter_nil]
  cases levP s D[j] <;> rfl
theorem levN_eq (l : List Int) (m i : Nat) : levN l m i = ((setsN l m).filter (levP (belowN l m i))).length := rfl
theorem levels_ev {m : Nat} {l : List Int} (h : isRel (m : Int) l = true) : Ev (fun k => impl_Order_levels.f k (m : Int) l) (levL l m m) := by
  obtain ⟨h1, h2⟩ := rel_len h
  have hsl := setsN_length l m
  have k1 : ∀ i, i < m → ∀ R, Ev (fun k => impl_Order_levels.l0 k (levL l m (i + 1)) (L.cast (setsN l m)) (L.cast (lowL l m m)) ((L.cast (lowL l m m)).length : Int) ((i + 1 : Nat) : Int)) R →
      ∀ j, j ≤ (setsN l m).length → Ev (fun k => impl_Order_levels.l1 k (levL l m i) (L.cast (setsN l m)) ((belowN l m i : Nat) : Int) ((((setsN l m).take j).filter (levP (belowN l m i))).length : Int) (L.cast (lowL l m m)) ((L.cast (lowL l m m)).length : Int) (i : Int) (L.cast (setsN l m)) ((L.cast (setsN l m)).length : Int) (j : Int)) R := by
    intro i hi R hk
    refine L.down ?_ fun j hj ih => ?_
    · refine L.Ev.succ ?_
      simp only [impl_Order_levels.l1]
      refine L.Ev.ifn (by rw [L.cast_length]; omega) (L.Ev.ifp (by rw [levL_length]; omega) ?_)
      rw [List.take_of_length_le (Nat.le_refl _), ← levN_eq, levL_succ, L.w64n (by omega)]
      exact hk
    · have e : rd (L.cast (setsN l m)) (j : Int) = (((setsN l m)[j] : Nat) : Int) := by
        rw [L.rd_cast, List.getD_eq_getElem?_getD, List.getElem?_eq_getElem hj]; rfl
      have b1 := setsN_lt l h2 _ (List.getElem_mem hj)
      have b2 := belowN_lt1k l h2 i
      have hc := levP_count (belowN l m i) (setsN l m) j hj
      have hcl : (((setsN l m).take j).filter (levP (belowN l m i))).length ≤ j := Nat.le_trans (List.length_filter_le _ _) (by simp; omega)
      refine L.Ev.succ ?_
      simp only [impl_Order_levels.l1]
      rw [e]
      refine L.Ev.ifp (by rw [L.cast_length]; omega) (L.Ev.ifp (by omega) (L.Ev.ifp (by rw [L.cast_length]; omega) ?_))
      rw [L.w64n (n := j) (by omega)]
      by_cases g : (setsN l m)[j] = belowN l m i
      · have gp : levP (belowN l m i) (setsN l m)[j] = false := by unfold levP; simp [g]
        rw [gp, if_neg (by simp), Nat.add_zero] at hc
        rw [hc] at ih
        exact L.Ev.ifp (by omega) ih
      · refine L.Ev.ifn (by omega) ?_
        rw [L.andNot_nat (by omega) (by omega)]
        by_cases g2 : L.diff (setsN l m)[j] (belowN l m i) = 0
        · have gp : levP (belowN l m i) (setsN l m)[j] = true := by unfold levP Lev.sub; unfold L.diff at g2; rw [g2]; simp [g]
          rw [gp, if_pos rfl] at hc
          rw [hc] at ih
          rw [L.w64n (n := (((setsN l m).take j).filter (levP (belowN l m i))).length) (by omega)]
          exact L.Ev.ifp (by omega) ih
        · have gp : levP (belowN l m i) (setsN l m)[j] = false := by
            unfold levP Lev.sub; unfold L.diff at g2
            rw [Bool.and_eq_false_iff]; right; simpa using g2
          rw [gp, if_neg (by simp), Nat.add_zero] at hc
          rw [hc] at ih
          exact L.Ev.ifn (by omega) ih
  have k0 : ∀ i, i ≤ m → Ev (fun k => impl_Order_levels.l0 k (levL l m i) (L.cast (setsN l m)) (L.cast (lowL l m m)) ((L.cast (lowL l m m)).length : Int) (i : Int)) (levL l m m) := by
    refine L.down ?_ fun i hi ih => ?_
    · refine L.Ev.succ ?_
      simp only [impl_Order_levels.l0]
      exact L.Ev.ifn (by rw [L.cast_length, lowL_length]; omega) (Ev.now _)
    · have e : rd (L.cast (lowL l m m)) (i : Int) = ((belowN l m i : Nat) : Int) := by
        rw [L.rd_cast]; simp [lowL, List.getD_eq_getElem?_getD, hi]
      refine L.Ev.succ ?_
      simp only [impl_Order_levels.l0]
      rw [e]
      refine L.Ev.ifp (by rw [L.cast_length, lowL_length]; omega) (L.Ev.ifp (by omega) (L.Ev.ifp (by rw [L.cast_length, lowL_length]; omega) ?_))
      have := k1 i hi _ ih 0 (by omega)
      exact this
  unfold impl_Order_levels.f
  refine L.Ev.bindc (mirror_eq h) ?_
  have e1 : (L.relL m fun i j => L.bitAt l j i) = L.cast (lowL l m m) := rfl
  have e2 : impl_different.f (L.cast (lowL l m m)) = some (L.cast (setsN l m)) := by
    unfold impl_different.f
    rw [if_pos (by rw [L.cast_length, lowL_length]; omega), ← dN_cast]; rfl
  dsimp only
  rw [e1]
  exact L.Ev.bindc e2 (k0 0 (by omega))
/-! ### the reference -/
theorem l1Put_ev (A : List Int) (x : Int) (hA : A.Pairwise (· < ·)) (hl : A.length ≤ 1048576) : ∃ B, Ev (fun k => spec_l1Put.f k A x) B ∧ B.Pairwise (· < ·) ∧ ∀ y, y ∈ B ↔ y ∈ A ∨ y = x := by
  have hp : A.findIdx (fun y => decide (x ≤ y)) ≤ A.length := List.findIdx_le_length
  have hlt : ∀ j, j < A.findIdx (fun y => decide (x ≤ y)) → ∀ hj : j < A.length, A[j] < x := by
    intro j hj hj2
    have := List.not_of_lt_findIdx hj
    simp at this; exact this
  have hge : ∀ hj : A.findIdx (fun y => decide (x ≤ y)) < A.length, x ≤ A[A.findIdx (fun y => decide (x ≤ y))] := by
    intro hj
    have := List.findIdx_getElem (w := hj)
    exact of_decide_eq_true this
  generalize A.findIdx (fun y => decide (x ≤ y)) = p at hp hlt hge
  have step : ∀ B, Ev (fun k => spec_l1Put.l0 k A x (p : Int)) B → Ev (fun k => spec_l1Put.f k A x) B := by
    intro B hB
    have key : ∀ j, j ≤ p → Ev (fun k => spec_l1Put.l0 k A x (j : Int)) B := by
      refine L.down hB fun j hj ih => ?_
      refine L.Ev.succ ?_
      simp only [spec_l1Put.l0]
      have := hlt j hj (by omega)
      refine L.Ev.ifp (by omega) (L.Ev.ifp (by omega) (L.Ev.ifp (by rw [L.rd_get (show j < A.length by omega)]; exact this) ?_))
      rw [L.w64n (by omega)]; exact ih
    exact key 0 (by omega)
  have ins : (A.take p ++ [x] ++ A.drop p).Pairwise (· < ·) ↔ (∀ hj : p < A.length, x < A[p]) := by
    constructor
    · intro h hj
      rw [List.append_assoc, List.pairwise_append] at h
      have h2 := h.2.1
      rw [List.singleton_append, List.pairwise_cons] at h2
      exact h2.1 _ (by rw [List.drop_eq_getElem_cons hj]; exact List.mem_cons_self ..)
    · intro h
      rw [List.append_assoc, List.pairwise_append, List.singleton_append, List.pairwise_cons]
      have hd : ∀ y ∈ A.drop p, x < y := by
        intro y hy
        by_cases hj : p < A.length
        · rw [List.drop_eq_getElem_cons hj] at hy
          have hA2 := hA.sublist (List.drop_sublist p A)
          rw [List.drop_eq_getElem_cons hj, List.pairwise_cons] at hA2
          rcases List.mem_cons.1 hy with rfl | hy
          · exact h hj
          · have := hA2.1 y hy; have := h hj; omega
        · rw [List.drop_eq_nil_of_le (by omega)] at hy; cases hy
      have ht : ∀ y ∈ A.take p, y < x := by
        intro y hy
        obtain ⟨j, hj, rfl⟩ := List.mem_iff_getElem.1 hy
        rw [List.getElem_take]
        rw [List.length_take] at hj
        exact hlt j (by omega) (by omega)
      refine ⟨hA.sublist (List.take_sublist p A), ⟨hd, hA.sublist (List.drop_sublist p A)⟩, fun a ha b hb => ?_⟩
      have := ht a ha
      rcases List.mem_cons.1 hb with rfl | hb
      · exact this
      · have := hd b hb; omega
  have mem : ∀ y, y ∈ (A.take p ++ [x] ++ A.drop p) ↔ y ∈ A ∨ y = x := by
    intro y
    have e : y ∈ A ↔ y ∈ A.take p ∨ y ∈ A.drop p := by rw [← List.mem_append, List.take_append_drop]
    rw [List.mem_append, List.mem_append, List.mem_singleton, e]
    constructor
    · rintro ((a | a) | a)
      · exact .inl (.inl a)
      · exact .inr a
      · exact .inl (.inr a)
    · rintro ((a | a) | a)
      · exact .inl (.inl a)
      · exact .inr a
      · exact .inl (.inr a)
  have htl : (A.take p).length = p := by rw [List.length_take]; omega
  have hdl : (A.drop p).length = A.length - p := List.length_drop
  by_cases hj : p < A.length
  · have h1 := hge hj
    by_cases he : A[p] = x
    · refine ⟨A, step A ?_, hA, fun y => ⟨fun h => .inl h, fun h => h.elim id fun e => by rw [e, ← he]; exact List.getElem_mem hj⟩⟩
      refine L.Ev.succ ?_
      simp only [spec_l1Put.l0]
      rw [L.rd_get hj]
      exact L.Ev.ifp (by omega) (L.Ev.ifp (by omega) (L.Ev.ifn (by omega) (L.Ev.ifp he (Ev.now _))))
    · refine ⟨A.take p ++ [x] ++ A.drop p, step _ ?_, ins.2 fun _ => by omega, mem⟩
      refine L.Ev.succ ?_
      simp only [spec_l1Put.l0]
      rw [L.rd_get hj]
      refine L.Ev.ifp (by omega) (L.Ev.ifp (by omega) (L.Ev.ifn (by omega) (L.Ev.ifn he (L.Ev.bindc rfl (L.Ev.ifp (by omega) (L.Ev.bindc rfl (L.Ev.ifp ?_ (L.Ev.bindc rfl (L.Ev.ifp ?_ (L.Ev.bindc rfl (L.Ev.bindc rfl (L.Ev.ifp ?_ ?_)))))))))))) <;>
      · simp only [Int.toNat_natCast, List.length_append, List.length_nil, htl, hdl, List.length_cons]
        first | omega | exact Ev.now _
  · obtain rfl : p = A.length := by omega
    refine ⟨A.take A.length ++ [x] ++ A.drop A.length, step _ ?_, ins.2 fun h => absurd h hj, mem⟩
    refine L.Ev.succ ?_
    simp only [spec_l1Put.l0]
    refine L.Ev.ifn (by omega) (L.Ev.bindc rfl (L.Ev.ifp (by omega) (L.Ev.ifp (by omega) (L.Ev.bindc rfl (L.Ev.ifp ?_ (L.Ev.bindc rfl (L.Ev.ifp ?_ (L.Ev.bindc rfl (L.Ev.bindc rfl (L.Ev.ifp ?_ ?_)))))))))) <;>
    · simp only [Int.toNat_natCast, List.length_append, List.length_nil, htl, hdl, List.length_cons]
      first | omega | exact Ev.now _
theorem put_diff (xs : List Int) (x : Int) (hl : xs.length ≤ 1048576) : Ev (fun k => spec_l1Put.f k (Diff.diffL xs) x) (Diff.diffL (xs ++ [x])) := by
  obtain ⟨h1, h2⟩ := Diff.diffL_props xs
  obtain ⟨h3, h4⟩ := Diff.diffL_props (xs ++ [x])
  obtain ⟨B, hB, b1, b2⟩ := l1Put_ev (Diff.diffL xs) x h1 (Nat.le_trans (Diff.diffL_length_le xs) hl)
  have : B = Diff.diffL (xs ++ [x]) := Diff.asc_ext _ _ b1 h3 fun y => by rw [b2, h2, h4, List.mem_append, List.mem_singleton]
  rw [← this]; exact hB
theorem ivLevels_ev {m : Nat} {l : List Int} (h : isRel (m : Int) l = true) : Ev (fun k => spec_ivLevels.f k (m : Int) l) (levL l m m) := by
  obtain ⟨h1, h2⟩ := rel_len h
  have hsl := setsN_length l m
  have k2 : ∀ i, i < m → ∀ R, Ev (fun k => spec_ivLevels.l1 k (L.cast (setsN l m)) (levL l m (i + 1)) (l.length : Int) ((i + 1 : Nat) : Int) (m : Int) l) R →
      ∀ j, j ≤ (setsN l m).length → Ev (fun k => spec_ivLevels.l2 k (L.cast (setsN l m)) (levL l m i) (i : Int) ((((setsN l m).take j).filter (levP (belowN l m i))).length : Int) (l.length : Int) (i : Int) (L.cast (setsN l m)) ((L.cast (setsN l m)).length : Int) (j : Int) (m : Int) l) R := by
    intro i hi R hk
    refine L.down ?_ fun j hj ih => ?_
    · refine L.Ev.succ ?_
      simp only [spec_ivLevels.l2]
      refine L.Ev.ifn (by rw [L.cast_length]; omega) (L.Ev.ifp (by rw [levL_length]; omega) ?_)
      rw [List.take_of_length_le (Nat.le_refl _), ← levN_eq, levL_succ, L.w64n (by omega)]
      exact hk
    · have e : rd (L.cast (setsN l m)) (j : Int) = (((setsN l m)[j] : Nat) : Int) := by
        rw [L.rd_cast, List.getD_eq_getElem?_getD, List.getElem?_eq_getElem hj]; rfl
      have b1 := setsN_lt l h2 _ (List.getElem_mem hj)
      have b2 := belowN_lt1k l h2 i
      have hc := levP_count (belowN l m i) (setsN l m) j hj
      have hcl : (((setsN l m).take j).filter (levP (belowN l m i))).length ≤ j := Nat.le_trans (List.length_filter_le _ _) (by simp; omega)
      refine L.Ev.succ ?_
      simp only [spec_ivLevels.l2]
      rw [e]
      refine L.Ev.ifp (by rw [L.cast_length]; omega) (L.Ev.ifp (by omega) (L.Ev.ifp (by rw [L.cast_length]; omega) (Ev.bind (orBelow_ev h i (by omega)) ?_)))
      rw [L.w64n (n := j) (by omega)]
      by_cases g : (setsN l m)[j] = belowN l m i
      · have gp : levP (belowN l m i) (setsN l m)[j] = false := by unfold levP; simp [g]
        rw [gp, if_neg (by simp), Nat.add_zero] at hc
        rw [hc] at ih
        exact L.Ev.ifp (by omega) ih
      · refine L.Ev.ifn (by omega) (Ev.bind (orBelow_ev h i (by omega)) ?_)
        rw [L.andNot_nat (by omega) (by omega)]
        by_cases g2 : L.diff (setsN l m)[j] (belowN l m i) = 0
        · have gp : levP (belowN l m i) (setsN l m)[j] = true := by unfold levP Lev.sub; unfold L.diff at g2; rw [g2]; simp [g]
          rw [gp, if_pos rfl] at hc
          rw [hc] at ih
          rw [L.w64n (n := (((setsN l m).take j).filter (levP (belowN l m i))).length) (by omega)]
          exact L.Ev.ifp (by omega) ih
        · have gp : levP (belowN l m i) (setsN l m)[j] = false := by
            unfold levP Lev.sub; unfold L.diff at g2
            rw [Bool.and_eq_false_iff]; right; simpa using g2
          rw [gp, if_neg (by simp), Nat.add_zero] at hc
          rw [hc] at ih
          exact L.Ev.ifn (by omega) ih
  have k1 : ∀ i, i ≤ m → Ev (fun k => spec_ivLevels.l1 k (L.cast (setsN l m)) (levL l m i) (l.length : Int) (i : Int) (m : Int) l) (levL l m m) := by
    refine L.down ?_ fun i hi ih => ?_
    · refine L.Ev.succ ?_
      simp only [spec_ivLevels.l1]
      exact L.Ev.ifn (by omega) (Ev.now _)
    · refine L.Ev.succ ?_
      simp only [spec_ivLevels.l1]
      exact L.Ev.ifp (by omega) (k2 i hi _ ih 0 (by omega))
  have k0 : ∀ i, i ≤ m → Ev (fun k => spec_ivLevels.l0 k (Diff.diffL (L.cast (lowL l m i))) (l.length : Int) (i : Int) (m : Int) l) (levL l m m) := by
    refine L.down ?_ fun i hi ih => ?_
    · refine L.Ev.succ ?_
      simp only [spec_ivLevels.l0]
      rw [← dN_cast]
      exact L.Ev.ifn (by omega) (k1 0 (by omega))
    · refine L.Ev.succ ?_
      simp only [spec_ivLevels.l0]
      refine L.Ev.ifp (by omega) (Ev.bind (orBelow_ev h i (by omega)) (Ev.bind (put_diff _ _ (by rw [L.cast_length, lowL_length]; omega)) ?_))
      have e : L.cast (lowL l m i) ++ [((belowN l m i : Nat) : Int)] = L.cast (lowL l m (i + 1)) := by rw [lowL_succ, L.cast_append]; rfl
      rw [e, L.w64n (by omega)]
      exact ih
  have e0 : Diff.diffL (L.cast (lowL l m 0)) = [] := by
    have := Diff.diffL_length_le (L.cast (lowL l m 0))
    exact List.eq_nil_of_length_eq_zero (by simp [lowL, L.cast] at this ⊢; omega)
  have := k0 0 (by omega)
  rw [e0] at this
  exact this
end Go.Proofs.YtoilbeffheijeaaDoor.P

/-! ### PuFirst -/
/- Plain lemmas: the first number of a range for which something is found. -/
namespace Go.Proofs.YtoilbeffheijeaaDoor.L
set_option linter.unusedVariables false
set_option linter.unusedSimpArgs false
theorem fs_step {α : Type} (p : Nat → Option α) (m i : Nat) (hi : i < m) : ((List.range m).drop i).findSome? p = (p i).or (((List.range m).drop (i + 1)).findSome? p) := by
  rw [List.drop_eq_getElem_cons (by simpa using hi), List.findSome?_cons]
  simp only [List.getElem_range]
  cases p i <;> rfl
theorem fs_end {α : Type} (p : Nat → Option α) (m : Nat) : ((List.range m).drop m).findSome? p = none := by
  rw [List.drop_eq_nil_of_le (by simp)]; rfl
theorem fs_begin {α : Type} (p : Nat → Option α) (m : Nat) : ((List.range m).drop 0).findSome? p = (List.range m).findSome? p := rfl
end Go.Proofs.YtoilbeffheijeaaDoor.L

/-! ### PuQuad -/
/- Plain lemmas: four elements as a list. -/
namespace Go.Proofs.YtoilbeffheijeaaDoor.P
open Go.RowKit L
set_option linter.unusedVariables false
set_option linter.unusedSimpArgs false
abbrev Quad := Nat × Nat × Nat × Nat
def quadL : Option Quad → List Int
  | none => []
  | some (a, b, c, d) => [(a : Int), (b : Int), (c : Int), (d : Int)]
theorem quadL_empty (q : Option Quad) : (quadL q).isEmpty = !q.isSome := by
  cases q with
  | none => rfl
  | some q => rfl
theorem quadL_length (q : Option Quad) : (quadL q).length ≤ 4 := by
  cases q with
  | none => simp [quadL]
  | some q => simp [quadL]
end Go.Proofs.YtoilbeffheijeaaDoor.P

/-! ### PuTwoTwo -/
/- Plain laws: the first four elements that refuse an order, in the program. -/
namespace Go.Proofs.YtoilbeffheijeaaDoor.P
open Go.RowKit Go.Proofs.YtoilbeffheijeaaDoorW.PrintWords Go.Proofs.YtoilbeffheijeaaDoorW.PrintLast Go.Proofs.YtoilbeffheijeaaDoorW.PrintMore L
set_option linter.unusedVariables false
set_option linter.unusedSimpArgs false
def refuses (l : List Int) (a b c d : Nat) : Bool := L.bitAt l a b && L.bitAt l c d && !L.bitAt l c b && !L.bitAt l a d
def tt3 (l : List Int) (a b c d : Nat) : Option Quad := if refuses l a b c d then some (a, b, c, d) else none
def tt2 (l : List Int) (m a b c : Nat) : Option Quad := (List.range m).findSome? (tt3 l a b c)
def tt1 (l : List Int) (m a b : Nat) : Option Quad := (List.range m).findSome? (tt2 l m a b)
def tt0 (l : List Int) (m a : Nat) : Option Quad := (List.range m).findSome? (tt1 l m a)
def twoTwoN (l : List Int) (m : Nat) : Option Quad := (List.range m).findSome? (tt0 l m)
theorem twoTwo_ev {m : Nat} {l : List Int} (h : isRel (m : Int) l = true) : Ev (fun k => impl_Order_twoTwo.f k (m : Int) l) (quadL (twoTwoN l m)) := by
  obtain ⟨m', hm', hm, hlm⟩ := isRel_nat h
  have ok := isRel_ok h
  have k3 : ∀ a, a < m → ∀ b, b < m → ∀ c, c < m → ∀ q : Option Quad, Ev (fun k => impl_Order_twoTwo.l2 k (a : Int) (b : Int) (m : Int) (a : Int) (m : Int) (b : Int) (m : Int) ((c + 1 : Nat) : Int) (m : Int) l) (quadL q) →
      ∀ d, d ≤ m → Ev (fun k => impl_Order_twoTwo.l3 k (a : Int) (b : Int) (c : Int) (m : Int) (a : Int) (m : Int) (b : Int) (m : Int) (c : Int) (m : Int) (d : Int) (m : Int) l) (quadL ((((List.range m).drop d).findSome? (tt3 l a b c)).or q)) := by
    intro a ha b hb c hc q hk
    refine L.down ?_ fun d hd ih => ?_
    · refine L.Ev.succ ?_
      simp only [impl_Order_twoTwo.l3]
      rw [L.fs_end, Option.none_or]
      refine L.Ev.ifn (by omega) ?_
      rw [L.w64n (by omega)]; exact hk
    · refine L.Ev.succ ?_
      simp only [impl_Order_twoTwo.l3]
      rw [L.fs_step _ _ _ hd]
      refine L.Ev.ifp (by omega) (L.Ev.bindc (impl_Order_better.tells ok a b (by omega) (by omega)) ?_)
      rw [L.w64n (n := d) (by omega)]
      cases h1 : L.bitAt l a b with
      | false => refine L.Ev.ifn (by simp) ?_; have e : tt3 l a b c d = none := (by unfold tt3 refuses; simp [h1]); rw [e, Option.none_or]; exact ih
      | true =>
        refine L.Ev.ifp rfl (L.Ev.bindc (impl_Order_better.tells ok c d (by omega) (by omega)) ?_)
        cases h2 : L.bitAt l c d with
        | false => refine L.Ev.ifn (by simp) ?_; have e : tt3 l a b c d = none := (by unfold tt3 refuses; simp [h1, h2]); rw [e, Option.none_or]; exact ih
        | true =>
          refine L.Ev.ifp rfl (L.Ev.bindc (impl_Order_better.tells ok c b (by omega) (by omega)) ?_)
          cases h3 : L.bitAt l c b with
          | true => refine L.Ev.ifp rfl ?_; have e : tt3 l a b c d = none := (by unfold tt3 refuses; simp [h1, h2, h3]); rw [e, Option.none_or]; exact ih
          | false =>
            refine L.Ev.ifn (by simp) (L.Ev.bindc (impl_Order_better.tells ok a d (by omega) (by omega)) ?_)
            cases h4 : L.bitAt l a d with
            | true => refine L.Ev.ifp rfl ?_; have e : tt3 l a b c d = none := (by unfold tt3 refuses; simp [h1, h2, h3, h4]); rw [e, Option.none_or]; exact ih
            | false => refine L.Ev.ifn (by simp) ?_; have e : tt3 l a b c d = some (a, b, c, d) := (by unfold tt3 refuses; simp [h1, h2, h3, h4]); rw [e, Option.some_or]; exact Ev.now _
  have k2 : ∀ a, a < m → ∀ b, b < m → ∀ q : Option Quad, Ev (fun k => impl_Order_twoTwo.l1 k (a : Int) (m : Int) (a : Int) (m : Int) ((b + 1 : Nat) : Int) (m : Int) l) (quadL q) →
      ∀ c, c ≤ m → Ev (fun k => impl_Order_twoTwo.l2 k (a : Int) (b : Int) (m : Int) (a : Int) (m : Int) (b : Int) (m : Int) (c : Int) (m : Int) l) (quadL ((((List.range m).drop c).findSome? (tt2 l m a b)).or q)) := by
    intro a ha b hb q hk
    refine L.down ?_ fun c hc ih => ?_
    · refine L.Ev.succ ?_
      simp only [impl_Order_twoTwo.l2]
      rw [L.fs_end, Option.none_or]
      refine L.Ev.ifn (by omega) ?_
      rw [L.w64n (by omega)]; exact hk
    · refine L.Ev.succ ?_
      simp only [impl_Order_twoTwo.l2]
      rw [L.fs_step _ _ _ hc, Option.or_assoc]
      exact L.Ev.ifp (by omega) (k3 a ha b hb c hc _ ih 0 (by omega))
  have k1 : ∀ a, a < m → ∀ q : Option Quad, Ev (fun k => impl_Order_twoTwo.l0 k (m : Int) ((a + 1 : Nat) : Int) (m : Int) l) (quadL q) →
      ∀ b, b ≤ m → Ev (fun k => impl_Order_twoTwo.l1 k (a : Int) (m : Int) (a : Int) (m : Int) (b : Int) (m : Int) l) (quadL ((((List.range m).drop b).findSome? (tt1 l m a)).or q)) := by
    intro a ha q hk
    refine L.down ?_ fun b hb ih => ?_
    · refine L.Ev.succ ?_
      simp only [impl_Order_twoTwo.l1]
      rw [L.fs_end, Option.none_or]
      refine L.Ev.ifn (by omega) ?_
      rw [L.w64n (by omega)]; exact hk
    · refine L.Ev.succ ?_
      simp only [impl_Order_twoTwo.l1]
      rw [L.fs_step _ _ _ hb, Option.or_assoc]
      exact L.Ev.ifp (by omega) (k2 a ha b hb _ ih 0 (by omega))
  have k0 : ∀ a, a ≤ m → Ev (fun k => impl_Order_twoTwo.l0 k (m : Int) (a : Int) (m : Int) l) (quadL (((List.range m).drop a).findSome? (tt0 l m))) := by
    refine L.down ?_ fun a ha ih => ?_
    · refine L.Ev.succ ?_
      simp only [impl_Order_twoTwo.l0]
      rw [L.fs_end]
      exact L.Ev.ifn (by omega) (Ev.now _)
    · refine L.Ev.succ ?_
      simp only [impl_Order_twoTwo.l0]
      rw [L.fs_step _ _ _ ha]
      exact L.Ev.ifp (by omega) (k1 a ha _ ih 0 (by omega))
  exact k0 0 (by omega)
end Go.Proofs.YtoilbeffheijeaaDoor.P

/-! ### PuInterval -/
/- Plain laws: interval orders, in the program. -/
namespace Go.Proofs.YtoilbeffheijeaaDoor.P
open Go.RowKit Go.Proofs.YtoilbeffheijeaaDoorW.PrintWords Go.Proofs.YtoilbeffheijeaaDoorW.PrintLast Go.Proofs.YtoilbeffheijeaaDoorW.PrintMore L
set_option linter.unusedVariables false
set_option linter.unusedSimpArgs false
def isIvOrd (n : Int) (l : List Int) : Bool := isOrd n l && !(twoTwoN l n.toNat).isSome
theorem isInterval_ev (n : Int) (l : List Int) (hl : l.length ≤ 1048576) : Ev (fun k => impl_isInterval.f k n l) (isIvOrd n l) := by
  unfold impl_isInterval.f isIvOrd
  cases h : isOrd n l with
  | false => exact Ev.bind (IsOrder_ev n l hl) (L.Ev.ifn (by simp [h]) (by rw [Bool.false_and]; exact Ev.now _))
  | true =>
    have hr := isOrd_rel h
    obtain ⟨m, rfl, hm, hlm⟩ := isRel_nat hr
    refine Ev.bind (IsOrder_ev _ l hl) (L.Ev.ifp h (Ev.bind (twoTwo_ev hr) ?_))
    rw [quadL_empty, Bool.true_and, Int.toNat_natCast]; exact Ev.now _
theorem isIvOrd_ord {n : Int} {l : List Int} (h : isIvOrd n l = true) : isOrd n l = true := by
  unfold isIvOrd at h; rw [Bool.and_eq_true] at h; exact h.1
end Go.Proofs.YtoilbeffheijeaaDoor.P

/-! ### PuTwoTwoS -/
/- Plain laws: the first four elements that refuse an order, in the reference. -/
namespace Go.Proofs.YtoilbeffheijeaaDoor.P
open Go.RowKit Go.Proofs.YtoilbeffheijeaaDoorW.PrintWords Go.Proofs.YtoilbeffheijeaaDoorW.PrintLast Go.Proofs.YtoilbeffheijeaaDoorW.PrintMore L
set_option linter.unusedVariables false
set_option linter.unusedSimpArgs false
theorem ivRefuses_eq {m : Nat} {l : List Int} (h : isRel (m : Int) l = true) {a b c d : Nat} (ha : a < m) (hb : b < m) (hc : c < m) (hd : d < m) :
    spec_ivRefuses.f (m : Int) l (a : Int) (b : Int) (c : Int) (d : Int) = some (refuses l a b c d) := by
  obtain ⟨m', hm', hm, hlm⟩ := isRel_nat h
  have ok := isRel_ok h
  unfold spec_ivRefuses.f refuses
  rw [if_pos (by omega), if_pos (by omega), orHas_eq ok a b (by omega)]
  simp only [Option.bind_some]
  cases L.bitAt l a b with
  | false => rfl
  | true =>
    rw [if_pos rfl, if_pos (by omega), if_pos (by omega), orHas_eq ok c d (by omega)]
    simp only [Option.bind_some]
    cases L.bitAt l c d with
    | false => rfl
    | true =>
      rw [if_pos rfl, orHas_eq ok c b (by omega)]
      simp only [Option.bind_some]
      cases L.bitAt l c b with
      | true => rfl
      | false =>
        rw [if_neg (by simp), orHas_eq ok a d (by omega)]
        cases L.bitAt l a d <;> rfl
theorem ivTwoTwo_ev {m : Nat} {l : List Int} (h : isRel (m : Int) l = true) : Ev (fun k => spec_ivTwoTwo.f k (m : Int) l) (quadL (twoTwoN l m), (twoTwoN l m).isSome) := by
  obtain ⟨m', hm', hm, hlm⟩ := isRel_nat h
  have k3 : ∀ a, a < m → ∀ b, b < m → ∀ c, c < m → ∀ q : Option Quad, Ev (fun k => spec_ivTwoTwo.l2 k (a : Int) (b : Int) ((c + 1 : Nat) : Int) (m : Int) l) (quadL q, q.isSome) →
      ∀ d, d ≤ m → Ev (fun k => spec_ivTwoTwo.l3 k (a : Int) (b : Int) (c : Int) (d : Int) (m : Int) l) (quadL ((((List.range m).drop d).findSome? (tt3 l a b c)).or q), ((((List.range m).drop d).findSome? (tt3 l a b c)).or q).isSome) := by
    intro a ha b hb c hc q hk
    refine L.down ?_ fun d hd ih => ?_
    · refine L.Ev.succ ?_
      simp only [spec_ivTwoTwo.l3]
      rw [L.fs_end, Option.none_or]
      refine L.Ev.ifn (by omega) ?_
      rw [L.w64n (by omega)]; exact hk
    · refine L.Ev.succ ?_
      simp only [spec_ivTwoTwo.l3]
      rw [L.fs_step _ _ _ hd]
      refine L.Ev.ifp (by omega) (L.Ev.bindc (ivRefuses_eq h ha hb hc hd) ?_)
      rw [L.w64n (n := d) (by omega)]
      cases hr : refuses l a b c d with
      | true => refine L.Ev.ifp rfl ?_; have e : tt3 l a b c d = some (a, b, c, d) := (by unfold tt3; simp [hr]); rw [e, Option.some_or]; exact Ev.now _
      | false => refine L.Ev.ifn (by simp) ?_; have e : tt3 l a b c d = none := (by unfold tt3; simp [hr]); rw [e, Option.none_or]; exact ih
  have k2 : ∀ a, a < m → ∀ b, b < m → ∀ q : Option Quad, Ev (fun k => spec_ivTwoTwo.l1 k (a : Int) ((b + 1 : Nat) : Int) (m : Int) l) (quadL q, q.isSome) →
      ∀ c, c ≤ m → Ev (fun k => spec_ivTwoTwo.l2 k (a : Int) (b : Int) (c : Int) (m : Int) l) (quadL ((((List.range m).drop c).findSome? (tt2 l m a b)).or q), ((((List.range m).drop c).findSome? (tt2 l m a b)).or q).isSome) := by
    intro a ha b hb q hk
    refine L.down ?_ fun c hc ih => ?_
    · refine L.Ev.succ ?_
      simp only [spec_ivTwoTwo.l2]
      rw [L.fs_end, Option.none_or]
      refine L.Ev.ifn (by omega) ?_
      rw [L.w64n (by omega)]; exact hk
    · refine L.Ev.succ ?_
      simp only [spec_ivTwoTwo.l2]
      rw [L.fs_step _ _ _ hc, Option.or_assoc]
      exact L.Ev.ifp (by omega) (k3 a ha b hb c hc _ ih 0 (by omega))
  have k1 : ∀ a, a < m → ∀ q : Option Quad, Ev (fun k => spec_ivTwoTwo.l0 k ((a + 1 : Nat) : Int) (m : Int) l) (quadL q, q.isSome) →
      ∀ b, b ≤ m → Ev (fun k => spec_ivTwoTwo.l1 k (a : Int) (b : Int) (m : Int) l) (quadL ((((List.range m).drop b).findSome? (tt1 l m a)).or q), ((((List.range m).drop b).findSome? (tt1 l m a)).or q).isSome) := by
    intro a ha q hk
    refine L.down ?_ fun b hb ih => ?_
    · refine L.Ev.succ ?_
      simp only [spec_ivTwoTwo.l1]
      rw [L.fs_end, Option.none_or]
      refine L.Ev.ifn (by omega) ?_
      rw [L.w64n (by omega)]; exact hk
    · refine L.Ev.succ ?_
      simp only [spec_ivTwoTwo.l1]
      rw [L.fs_step _ _ _ hb, Option.or_assoc]
      exact L.Ev.ifp (by omega) (k2 a ha b hb _ ih 0 (by omega))
  have k0 : ∀ a, a ≤ m → Ev (fun k => spec_ivTwoTwo.l0 k (a : Int) (m : Int) l) (quadL (((List.range m).drop a).findSome? (tt0 l m)), (((List.range m).drop a).findSome? (tt0 l m)).isSome) := by
    refine L.down ?_ fun a ha ih => ?_
    · refine L.Ev.succ ?_
      simp only [spec_ivTwoTwo.l0]
      rw [L.fs_end]
      exact L.Ev.ifn (by omega) (Ev.now _)
    · refine L.Ev.succ ?_
      simp only [spec_ivTwoTwo.l0]
      rw [L.fs_step _ _ _ ha]
      exact L.Ev.ifp (by omega) (k1 a ha _ ih 0 (by omega))
  exact k0 0 (by omega)
end Go.Proofs.YtoilbeffheijeaaDoor.P

/-! ### PuIntervalS -/
/- Plain laws: interval orders, in the reference. -/
namespace Go.Proofs.YtoilbeffheijeaaDoor.P
open Go.RowKit Go.Proofs.YtoilbeffheijeaaDoorW.PrintWords Go.Proofs.YtoilbeffheijeaaDoorW.PrintLast Go.Proofs.YtoilbeffheijeaaDoorW.PrintMore L
set_option linter.unusedVariables false
set_option linter.unusedSimpArgs false
theorem ivIs_ev {m : Nat} {l : List Int} (h : isRel (m : Int) l = true) : Ev (fun k => spec_ivIs.f k (m : Int) l) (!(twoTwoN l m).isSome) := by
  unfold spec_ivIs.f
  exact Ev.bind (ivTwoTwo_ev h) (Ev.now _)
end Go.Proofs.YtoilbeffheijeaaDoor.P

/-! ### PuIv0 -/
/- Plain laws of rows of intervals: reading, comparing; no conditions beyond the rows' lengths. -/
namespace Go.Proofs.YtoilbeffheijeaaDoor.P
open Go.RowKit Go.Proofs.YtoilbeffheijeaaDoorW.PrintWords Go.Proofs.YtoilbeffheijeaaDoorW.PrintLast Go.Proofs.YtoilbeffheijeaaDoorW.PrintMore L
set_option linter.unusedVariables false
set_option linter.unusedSimpArgs false
abbrev Iv := S40
abbrev rdIv (l : List Iv) (i : Int) : Iv := rd_T40 l i
theorem rdIv_get {l : List Iv} {i : Nat} (h : i < l.length) : rd_T40 l (i : Int) = l[i] := by
  simp [rd_T40, List.getD_eq_getElem?_getD, List.getElem?_eq_getElem h]
theorem eqInterval_eq (x y : Iv) : laws_eqInterval.f x.f0 x.f1 y.f0 y.f1 = some (decide (x.f0 = y.f0 ∧ x.f1 = y.f1)) := by
  unfold laws_eqInterval.f
  by_cases h : x.f0 = y.f0 <;> by_cases h2 : x.f1 = y.f1 <;> simp [h, h2]
theorem eqIntervalS_self (l : List Iv) (hl : l.length ≤ 9223372036854775806) : Ev (fun k => laws_eqIntervalS.f k l l) true := by
  have key : ∀ i, i ≤ l.length → Ev (fun k => laws_eqIntervalS.l0 k l l (i : Int)) true := by
    refine L.down ?_ fun i hi ih => ?_
    · refine L.Ev.succ ?_
      simp only [laws_eqIntervalS.l0]
      exact L.Ev.ifn (by omega) (Ev.now _)
    · refine L.Ev.succ ?_
      simp only [laws_eqIntervalS.l0]
      refine L.Ev.ifp (by omega) (L.Ev.ifp (by omega) (L.Ev.ifp (by omega) (L.Ev.bindc (eqInterval_eq _ _) (L.Ev.ifp (by simp) ?_))))
      exact Ev.congr (fun k => by rw [L.w64n (by omega)]) ih
  refine Ev.congr (fun k => ?_) (key 0 (by omega))
  unfold laws_eqIntervalS.f
  rw [if_pos rfl]; rfl
end Go.Proofs.YtoilbeffheijeaaDoor.P

/-! ### PuEnds -/
/- Plain laws: the ends of all elements and the magnitude, in the program and in the reference; interval orders. -/
namespace Go.Proofs.YtoilbeffheijeaaDoor.P
open Go.RowKit Go.Proofs.YtoilbeffheijeaaDoorW.PrintWords Go.Proofs.YtoilbeffheijeaaDoorW.PrintLast Go.Proofs.YtoilbeffheijeaaDoorW.PrintMore L
set_option linter.unusedVariables false
set_option linter.unusedSimpArgs false
theorem ivGoodOrder_ev (n : Int) (l : List Int) (hl : l.length ≤ 1048576) : Ev (fun k => spec_ivGoodOrder.f k n l) (isIvOrd n l) := by
  unfold spec_ivGoodOrder.f isIvOrd
  cases h : isOrd n l with
  | false => exact Ev.bind (orGood_ev n l hl) (L.Ev.ifn (by simp [h]) (by rw [Bool.false_and]; exact Ev.now _))
  | true =>
    have hr := isOrd_rel h
    obtain ⟨m, rfl, hm, hlm⟩ := isRel_nat hr
    refine Ev.bind (orGood_ev _ l hl) (L.Ev.ifp h (Ev.bind (ivIs_ev hr) ?_))
    rw [Bool.true_and, Int.toNat_natCast]; exact Ev.now _
theorem l1Most_eq (a b : Int) : spec_l1Most.f a b = some (max a b) := by
  unfold spec_l1Most.f
  by_cases h : a > b
  · rw [if_pos h, Int.max_eq_left (by omega)]
  · rw [if_neg h, Int.max_eq_right (by omega)]
theorem mx_eq (a b : Int) : mx a b = max a b := by
  unfold mx
  by_cases h : a < b
  · rw [if_pos h, Int.max_eq_right (by omega)]
  · rw [if_neg h, Int.max_eq_left (by omega)]
/-- the right end, when j elements have been looked at. -/
def rgt (l : List Int) (m i : Nat) : Nat → Int
  | 0 => ((levN l m i : Nat) : Int)
  | j + 1 => if L.bitAt l i j then rgt l m i j else max (rgt l m i j) ((levN l m j : Nat) : Int)
def endAt (l : List Int) (m i : Nat) : Iv := ⟨((levN l m i : Nat) : Int), rgt l m i m⟩
def endsL (l : List Int) (m i : Nat) : List Iv := (List.range i).map (endAt l m)
theorem endsL_length (l : List Int) (m i : Nat) : (endsL l m i).length = i := by simp [endsL]
theorem endsL_succ (l : List Int) (m i : Nat) : endsL l m i ++ [endAt l m i] = endsL l m (i + 1) := by simp [endsL, List.range_succ]
theorem rd_endsL (l : List Int) {m i n : Nat} (h : i < n) : rd_T40 (endsL l m n) (i : Int) = endAt l m i := by
  rw [rdIv_get (by rw [endsL_length]; exact h)]
  simp [endsL]
theorem ends_ev {m : Nat} {l : List Int} (h : isRel (m : Int) l = true) : Ev (fun k => impl_Order_ends.f k (m : Int) l) (endsL l m m) := by
  obtain ⟨h1, h2⟩ := rel_len h
  have ok := isRel_ok h
  have k1 : ∀ i, i < m → ∀ R, Ev (fun k => impl_Order_ends.l0 k (endsL l m (i + 1)) (levL l m m) (levL l m m) ((levL l m m).length : Int) ((i + 1 : Nat) : Int) (m : Int) l) R →
      ∀ j, j ≤ m → Ev (fun k => impl_Order_ends.l1 k (endsL l m i) (levL l m m) (i : Int) ((levN l m i : Nat) : Int) (rgt l m i j) (levL l m m) ((levL l m m).length : Int) (i : Int) (levL l m m) ((levL l m m).length : Int) (j : Int) (m : Int) l) R := by
    intro i hi R hk
    refine L.down ?_ fun j hj ih => ?_
    · refine L.Ev.succ ?_
      simp only [impl_Order_ends.l1]
      refine L.Ev.ifn (by rw [levL_length]; omega) (L.Ev.ifp (by rw [endsL_length]; omega) ?_)
      have e : endsL l m i ++ [(⟨((levN l m i : Nat) : Int), rgt l m i m⟩ : Iv)] = endsL l m (i + 1) := endsL_succ l m i
      rw [e, L.w64n (by omega)]
      exact hk
    · refine L.Ev.succ ?_
      simp only [impl_Order_ends.l1]
      refine L.Ev.ifp (by rw [levL_length]; omega) (L.Ev.ifp (by omega) (L.Ev.ifp (by rw [levL_length]; omega) (L.Ev.bindc (impl_Order_better.tells ok i j (by omega) (by omega)) ?_)))
      rw [rd_levL l hj, L.w64n (n := j) (by omega), mx_eq]
      unfold rgt at ih
      cases hb : L.bitAt l i j with
      | true => rw [hb, if_pos rfl] at ih; exact L.Ev.ifp rfl ih
      | false => rw [hb, if_neg (by simp)] at ih; exact L.Ev.ifn (by simp) ih
  have k0 : ∀ i, i ≤ m → Ev (fun k => impl_Order_ends.l0 k (endsL l m i) (levL l m m) (levL l m m) ((levL l m m).length : Int) (i : Int) (m : Int) l) (endsL l m m) := by
    refine L.down ?_ fun i hi ih => ?_
    · refine L.Ev.succ ?_
      simp only [impl_Order_ends.l0]
      exact L.Ev.ifn (by rw [levL_length]; omega) (Ev.now _)
    · refine L.Ev.succ ?_
      simp only [impl_Order_ends.l0]
      rw [rd_levL l hi]
      exact L.Ev.ifp (by rw [levL_length]; omega) (L.Ev.ifp (by omega) (L.Ev.ifp (by rw [levL_length]; omega) (k1 i hi _ ih 0 (by omega))))
  unfold impl_Order_ends.f
  exact Ev.bind (levels_ev h) (k0 0 (by omega))
theorem ivEnds_ev {m : Nat} {l : List Int} (h : isRel (m : Int) l = true) : Ev (fun k => spec_ivEnds.f k (m : Int) l) (endsL l m m) := by
  obtain ⟨h1, h2⟩ := rel_len h
  have ok := isRel_ok h
  have k1 : ∀ i, i < m → ∀ R, Ev (fun k => spec_ivEnds.l0 k (levL l m m) (endsL l m (i + 1)) (levL l m m) ((levL l m m).length : Int) ((i + 1 : Nat) : Int) (m : Int) l) R →
      ∀ j, j ≤ m → Ev (fun k => spec_ivEnds.l1 k (levL l m m) (endsL l m i) (i : Int) (levL l m m) ((levL l m m).length : Int) (i : Int) (levL l m m) ((levL l m m).length : Int) (j : Int) (m : Int) l ((levN l m i : Nat) : Int) (rgt l m i j)) R := by
    intro i hi R hk
    refine L.down ?_ fun j hj ih => ?_
    · refine L.Ev.succ ?_
      simp only [spec_ivEnds.l1]
      refine L.Ev.ifn (by rw [levL_length]; omega) (L.Ev.ifp (by rw [endsL_length]; omega) ?_)
      have e : endsL l m i ++ [(⟨((levN l m i : Nat) : Int), rgt l m i m⟩ : Iv)] = endsL l m (i + 1) := endsL_succ l m i
      rw [e, L.w64n (by omega)]
      exact hk
    · refine L.Ev.succ ?_
      simp only [spec_ivEnds.l1]
      refine L.Ev.ifp (by rw [levL_length]; omega) (L.Ev.ifp (by omega) (L.Ev.ifp (by rw [levL_length]; omega) (L.Ev.ifp (by omega) (L.Ev.ifp (by omega) (L.Ev.bindc (orHas_eq ok i j (by omega)) ?_)))))
      rw [rd_levL l hj, L.w64n (n := j) (by omega)]
      unfold rgt at ih
      cases hb : L.bitAt l i j with
      | true => rw [hb, if_pos rfl] at ih; exact L.Ev.ifp rfl ih
      | false => rw [hb, if_neg (by simp)] at ih; exact L.Ev.ifn (by simp) (L.Ev.bindc (l1Most_eq _ _) ih)
  have k0 : ∀ i, i ≤ m → Ev (fun k => spec_ivEnds.l0 k (levL l m m) (endsL l m i) (levL l m m) ((levL l m m).length : Int) (i : Int) (m : Int) l) (endsL l m m) := by
    refine L.down ?_ fun i hi ih => ?_
    · refine L.Ev.succ ?_
      simp only [spec_ivEnds.l0]
      exact L.Ev.ifn (by rw [levL_length]; omega) (Ev.now _)
    · refine L.Ev.succ ?_
      simp only [spec_ivEnds.l0]
      rw [rd_levL l hi]
      exact L.Ev.ifp (by rw [levL_length]; omega) (L.Ev.ifp (by omega) (L.Ev.ifp (by rw [levL_length]; omega) (k1 i hi _ ih 0 (by omega))))
  unfold spec_ivEnds.f
  exact Ev.bind (ivLevels_ev h) (k0 0 (by omega))
/-! ### the magnitude -/
theorem ivMost_ev (xs : List Int) (hl : xs.length ≤ 1048576) : Ev (fun k => spec_ivMost.f k xs) (Lev.most xs) := by
  have key : ∀ j, j ≤ xs.length → Ev (fun k => spec_ivMost.l0 k ((xs.take j).foldl max (-1)) xs (xs.length : Int) (j : Int)) (Lev.most xs) := by
    refine L.down ?_ fun j hj ih => ?_
    · refine L.Ev.succ ?_
      simp only [spec_ivMost.l0]
      rw [List.take_of_length_le (Nat.le_refl _)]
      exact L.Ev.ifn (by omega) (Ev.now _)
    · refine L.Ev.succ ?_
      simp only [spec_ivMost.l0]
      refine L.Ev.ifp (by omega) (L.Ev.ifp (by omega) (L.Ev.ifp (by omega) (L.Ev.bindc (l1Most_eq _ _) ?_)))
      have e : xs.take (j + 1) = xs.take j ++ [rd xs (j : Int)] := by rw [List.take_add_one, List.getElem?_eq_getElem hj, L.rd_get hj]; rfl
      rw [e, List.foldl_append] at ih
      rw [L.w64n (by omega)]
      exact ih
  exact key 0 (by omega)
def magN (l : List Int) (m : Nat) : Nat := (Diff.diffL (levL l m m)).length
theorem magN_le (l : List Int) (m : Nat) : magN l m ≤ m := by
  have := Diff.diffL_length_le (levL l m m)
  rw [levL_length] at this; exact this
theorem magnitude_ev {m : Nat} {l : List Int} (h : isRel (m : Int) l = true) : Ev (fun k => impl_Order_magnitude.f k (m : Int) l) ((magN l m : Nat) : Int) := by
  obtain ⟨h1, h2⟩ := rel_len h
  unfold impl_Order_magnitude.f
  refine Ev.bind (levels_ev h) (L.Ev.bindc (a := Diff.diffL (levL l m m)) ?_ (Ev.now _))
  unfold impl_different.f
  rw [if_pos (by rw [levL_length]; omega)]
theorem findSome_none {α : Type} {p : Nat → Option α} {m : Nat} (h : (List.range m).findSome? p = none) {i : Nat} (hi : i < m) : p i = none :=
  List.findSome?_eq_none_iff.1 h i (List.mem_range.2 hi)
theorem no_refuse {l : List Int} {m : Nat} (h : twoTwoN l m = none) {a b c d : Nat} (ha : a < m) (hb : b < m) (hc : c < m) (hd : d < m) : refuses l a b c d = false := by
  have h1 := findSome_none (findSome_none (findSome_none (findSome_none h ha) hb) hc) hd
  unfold tt3 at h1
  cases hr : refuses l a b c d with
  | false => rfl
  | true => rw [hr, if_pos rfl] at h1; cases h1
theorem below_chain {l : List Int} {m : Nat} (h : twoTwoN l m = none) {i j : Nat} (hi : i < m) (hj : j < m) : Lev.sub (belowN l m i) (belowN l m j) = true ∨ Lev.sub (belowN l m j) (belowN l m i) = true := by
  refine Classical.byContradiction fun hno => ?_
  have f1 : ¬ Lev.sub (belowN l m i) (belowN l m j) = true := fun e => hno (.inl e)
  have f2 : ¬ Lev.sub (belowN l m j) (belowN l m i) = true := fun e => hno (.inr e)
  rw [Lev.sub_iff] at f1 f2
  obtain ⟨a, ha⟩ := Classical.not_forall.1 f1
  obtain ⟨b, hb⟩ := Classical.not_forall.1 f2
  obtain ⟨a1, a2⟩ := Classical.not_imp.1 ha
  obtain ⟨b1, b2⟩ := Classical.not_imp.1 hb
  rw [belowN_bit] at a1 a2 b1 b2
  simp only [Bool.and_eq_true, decide_eq_true_eq] at a1 a2 b1 b2
  have a3 : L.bitAt l a j = false := by cases e : L.bitAt l a j with | false => rfl | true => exact absurd ⟨a1.1, e⟩ a2
  have b3 : L.bitAt l b i = false := by cases e : L.bitAt l b i with | false => rfl | true => exact absurd ⟨b1.1, e⟩ b2
  have := no_refuse h a1.1 hi b1.1 hj
  unfold refuses at this
  rw [a1.2, b1.2, a3, b3] at this
  cases this
theorem mag_most {l : List Int} {m : Nat} (h : isIvOrd (m : Int) l = true) : ((magN l m : Nat) : Int) = Lev.most (levL l m m) + 1 := by
  have ht : twoTwoN l m = none := by
    unfold isIvOrd at h
    simp only [Bool.and_eq_true, Bool.not_eq_true', Int.toNat_natCast, Option.isSome_eq_false_iff, Option.isNone_iff_eq_none] at h
    exact h.2
  have := (Lev.magnitude (low := lowL l m m) (D := setsN l m) (dN_nodup _) (fun x => mem_dN) (fun a ha b hb => by
    obtain ⟨i, hi, rfl⟩ := List.mem_map.1 ha
    obtain ⟨j, hj, rfl⟩ := List.mem_map.1 hb
    exact below_chain ht (List.mem_range.1 hi) (List.mem_range.1 hj))).1
  have e : ((lowL l m m).map fun s => ((Lev.level (setsN l m) s : Nat) : Int)) = levL l m m := by
    unfold levL lowL L.cast; rw [List.map_map, List.map_map]; rfl
  rw [e] at this
  exact this
end Go.Proofs.YtoilbeffheijeaaDoor.P

/-! ### BoSetsAlong -/
/- What SetsAlong comes to, in the program and in the reference. -/
namespace Go.Proofs.YtoilbeffheijeaaDoor.P
open Go.RowKit Go.Proofs.YtoilbeffheijeaaDoorW.PrintWords Go.Proofs.YtoilbeffheijeaaDoorW.PrintLast Go.Proofs.YtoilbeffheijeaaDoorW.PrintMore L
set_option linter.unusedVariables false
set_option linter.unusedSimpArgs false
def alongB (l : List Int) (m t i : Nat) : Bool := decide ((endAt l m i).f0 ≤ (t : Int) ∧ (t : Int) ≤ (endAt l m i).f1)
def alongL (l : List Int) (m t : Nat) : List Int := L.cast ((List.range t).map fun t => L.relRow (alongB l m t) m)
theorem alongL_length (l : List Int) (m t : Nat) : (alongL l m t).length = t := by simp [alongL, L.cast_length]
theorem alongL_succ (l : List Int) (m t : Nat) : alongL l m t ++ [((L.relRow (alongB l m t) m : Nat) : Int)] = alongL l m (t + 1) := by simp [alongL, L.cast, List.range_succ]
theorem setsAlong_ev {m : Nat} {l : List Int} (h : isRel (m : Int) l = true) : Ev (fun k => impl_Order_setsAlong.f k (m : Int) l) (alongL l m (magN l m)) := by
  obtain ⟨h1, h2⟩ := rel_len h
  have hmag := magN_le l m
  have k1 : ∀ t, t < magN l m → ∀ R, Ev (fun k => impl_Order_setsAlong.l0 k (alongL l m (t + 1)) (endsL l m m) ((magN l m : Nat) : Int) ((t + 1 : Nat) : Int)) R →
      ∀ j, j ≤ m → Ev (fun k => impl_Order_setsAlong.l1 k (alongL l m t) (endsL l m m) (t : Int) ((L.relRow (alongB l m t) j : Nat) : Int) ((magN l m : Nat) : Int) (t : Int) (endsL l m m) ((endsL l m m).length : Int) (j : Int)) R := by
    intro t ht R hk
    refine L.down ?_ fun j hj ih => ?_
    · refine L.Ev.succ ?_
      simp only [impl_Order_setsAlong.l1]
      refine L.Ev.ifn (by rw [endsL_length]; omega) (L.Ev.ifp (by rw [alongL_length]; omega) ?_)
      rw [alongL_succ, L.w64n (by omega)]
      exact hk
    · refine L.Ev.succ ?_
      simp only [impl_Order_setsAlong.l1]
      refine L.Ev.ifp (by rw [endsL_length]; omega) (L.Ev.ifp (by omega) (L.Ev.ifp (by rw [endsL_length]; omega) (L.Ev.bindc (within_eq _ _ _) ?_)))
      rw [rd_endsL l hj, L.w64n (n := j) (by omega)]
      cases hb : alongB l m t j with
      | true => rw [L.row_yes hb (by omega)]; exact L.Ev.ifp hb ih
      | false => rw [← L.row_no hb] at ih; exact L.Ev.ifn (by unfold alongB at hb; simpa using hb) ih
  have k0 : ∀ t, t ≤ magN l m → Ev (fun k => impl_Order_setsAlong.l0 k (alongL l m t) (endsL l m m) ((magN l m : Nat) : Int) (t : Int)) (alongL l m (magN l m)) := by
    refine L.down ?_ fun t ht ih => ?_
    · refine L.Ev.succ ?_
      simp only [impl_Order_setsAlong.l0]
      exact L.Ev.ifn (by omega) (Ev.now _)
    · refine L.Ev.succ ?_
      simp only [impl_Order_setsAlong.l0]
      exact L.Ev.ifp (by omega) (k1 t ht _ ih 0 (by omega))
  unfold impl_Order_setsAlong.f
  exact Ev.bind (ends_ev h) (Ev.bind (magnitude_ev h) (k0 0 (by omega)))
theorem specAlong_ev {m : Nat} {l : List Int} (h : isRel (m : Int) l = true) (hmost : ((magN l m : Nat) : Int) = Lev.most (levL l m m) + 1) : Ev (fun k => spec_SetsAlong.l0 k ([] : List Int) 0 (m : Int) l) (alongL l m (magN l m), true) := by
  obtain ⟨h1, h2⟩ := rel_len h
  have hmag := magN_le l m
  have k1 : ∀ t, t < magN l m → ∀ R, Ev (fun k => spec_SetsAlong.l0 k (alongL l m (t + 1)) ((t + 1 : Nat) : Int) (m : Int) l) R →
      ∀ j, j ≤ m → Ev (fun k => spec_SetsAlong.l1 k (alongL l m t) (t : Int) ((L.relRow (alongB l m t) j : Nat) : Int) (endsL l m m) ((endsL l m m).length : Int) (j : Int) (m : Int) l) R := by
    intro t ht R hk
    refine L.down ?_ fun j hj ih => ?_
    · refine L.Ev.succ ?_
      simp only [spec_SetsAlong.l1]
      refine L.Ev.ifn (by rw [endsL_length]; omega) (L.Ev.ifp (by rw [alongL_length]; omega) ?_)
      rw [alongL_succ, L.w64n (by omega)]
      exact hk
    · refine L.Ev.succ ?_
      simp only [spec_SetsAlong.l1]
      refine L.Ev.ifp (by rw [endsL_length]; omega) (L.Ev.ifp (by omega) (L.Ev.ifp (by rw [endsL_length]; omega) (L.Ev.bindc (l1In_eq _ _ _) ?_)))
      rw [rd_endsL l hj, L.w64n (n := j) (by omega)]
      cases hb : alongB l m t j with
      | true => rw [L.row_yes hb (by omega)]; exact L.Ev.ifp hb ih
      | false => rw [← L.row_no hb] at ih; exact L.Ev.ifn (by unfold alongB at hb; simpa using hb) ih
  have k0 : ∀ t, t ≤ magN l m → Ev (fun k => spec_SetsAlong.l0 k (alongL l m t) (t : Int) (m : Int) l) (alongL l m (magN l m), true) := by
    refine L.down ?_ fun t ht ih => ?_
    · refine L.Ev.succ ?_
      simp only [spec_SetsAlong.l0]
      exact Ev.bind (ivLevels_ev h) (Ev.bind (ivMost_ev _ (by rw [levL_length]; omega)) (L.Ev.ifn (by omega) (Ev.now _)))
    · refine L.Ev.succ ?_
      simp only [spec_SetsAlong.l0]
      exact Ev.bind (ivLevels_ev h) (Ev.bind (ivMost_ev _ (by rw [levL_length]; omega)) (L.Ev.ifp (by omega) (Ev.bind (ivEnds_ev h) (k1 t ht _ ih 0 (by omega)))))
  exact k0 0 (by omega)
theorem SetsAlong_both (n : Int) (l : List Int) (wn : R.wf n) (hl : l.length ≤ 1048576) (w0 : ∀ x ∈ l, R.wf x) :
    ∃ (r : List Int) (b : Bool), Ev (fun k => spec_SetsAlong.f k n l) (r, b) ∧ Ev (fun k => impl_SetsAlong.f k n l) (r, b) ∧ r.length ≤ 1048576 := by
  cases h : isIvOrd n l with
  | false =>
    refine ⟨[], false, ?_, ?_, by simp⟩
    · unfold spec_SetsAlong.f
      exact Ev.bind (ivGoodOrder_ev n l hl) (L.Ev.ifn (by simp [h]) (Ev.now _))
    · unfold impl_SetsAlong.f
      exact Ev.bind (isInterval_ev n l hl) (L.Ev.ifn (by simp [h]) (Ev.now _))
  | true =>
    have hr := isOrd_rel (isIvOrd_ord h)
    obtain ⟨m, rfl, hm, hlm⟩ := isRel_nat hr
    have hle := magN_le l m
    refine ⟨alongL l m (magN l m), true, ?_, ?_, by rw [alongL_length]; omega⟩
    · unfold spec_SetsAlong.f
      exact Ev.bind (ivGoodOrder_ev _ l hl) (L.Ev.ifp h (specAlong_ev hr (mag_most h)))
    · unfold impl_SetsAlong.f
      exact Ev.bind (isInterval_ev _ l hl) (L.Ev.ifp h (Ev.bind (setsAlong_ev hr) (Ev.now _)))
end Go.Proofs.YtoilbeffheijeaaDoor.P

/-! ### PuFnExactSetsAlong -/
/- The plain law behind FnExactSetsAlong, out of what the program's and the reference's function come to. -/
namespace Go.Proofs.YtoilbeffheijeaaDoor.P
open Go.RowKit Go.Proofs.YtoilbeffheijeaaDoorW.PrintWords Go.Proofs.YtoilbeffheijeaaDoorW.PrintLast Go.Proofs.YtoilbeffheijeaaDoorW.PrintMore L
set_option linter.unusedVariables false
set_option linter.unusedSimpArgs false
set_option maxHeartbeats 1000000 in
theorem FnExactSetsAlong_pure (a0 : Int) (l0 : List Int) (w0a : R.wf a0) (m0 : l0.length ≤ 9223372036854775807) (w0 : ∀ x ∈ l0, R.wf x) : ∃ k, laws_FnExactSetsAlong.f k a0 l0 = some true := by
  refine Ev.rounds (r := true) ?_
  unfold laws_FnExactSetsAlong.f
  refine L.Ev.bindc (szOrder_eq a0 l0 1048576 (by omega) m0) ?_
  by_cases hb0 : (l0.length : Int) ≤ 1048576
  case neg => rw [if_neg hb0]; exact L.Ev.ifp (by omega) (Ev.now true)
  rw [if_pos hb0]
  refine L.Ev.ifn (by omega) ?_
  have hn0 : l0.length ≤ 1048576 := by omega
  obtain ⟨r0, r1, hs, hi, hl0⟩ := SetsAlong_both a0 l0 w0a hn0 w0
  repeat' (first
    | exact Ev.now true
    | exact Ev.now _
    | with_reducible exact rfl
    | (with_reducible refine Ev.bind hs ?_)
    | (with_reducible refine Ev.bind hi ?_)
    | (with_reducible refine Ev.bind (toIntS_ev _ ?hs1) ?_; (case hs1 => first | omega | (dsimp only; omega)))
    | (with_reducible refine Ev.bind (eqIntS_self _ ?hs1) ?_; (case hs1 => first | omega | (dsimp only; omega)))
    | (with_reducible refine Ev.bind (toOrder_ev _ _ ?hs1) ?_; (case hs1 => first | omega | (dsimp only; omega)))
    | (with_reducible refine Ev.bind (eqOrder_self _ _ ?hs1) ?_; (case hs1 => first | omega | (dsimp only; omega)))
    | (with_reducible refine Ev.bind (markIntS_ev _ _ ?hs1 ?hs2) ?_; (case hs1 => first | omega | (dsimp only; omega)); (case hs2 => first | omega | (dsimp only; omega)))
    | (with_reducible refine Ev.bind (held_marks _ _ ?hs1 ?hs2) ?_; (case hs1 => first | omega | (dsimp only; omega)); (case hs2 => first | omega | (dsimp only; omega)))
    | (with_reducible refine Ev.bind (markOrder_ev _ _ _ ?hs1 ?hs2) ?_; (case hs1 => first | omega | (dsimp only; omega)); (case hs2 => first | omega | (dsimp only; omega)))
    | (refine L.Ev.ifp ?hc ?_; (case hc => first | rfl | omega | (simp; done)))
    | (refine L.Ev.ifn ?hc ?_; (case hc => first | omega | (simp; done)))
    | (refine L.Ev.succ ?_; simp only [laws_FnExactSetsAlong.j0])
    | (refine L.Ev.succ ?_; simp only [laws_FnExactSetsAlong.j1])
    | (refine L.Ev.succ ?_; simp only [laws_FnExactSetsAlong.j2])
    | (refine L.Ev.succ ?_; simp only [laws_FnExactSetsAlong.j3])
    | (refine L.Ev.succ ?_; simp only [laws_FnExactSetsAlong.j4]))
end Go.Proofs.YtoilbeffheijeaaDoor.P
