/- The plain laws behind FnExactParseOrder, in one text (merged by wip/merge.py). -/
import Derived.Test.YthfkdgecclnffaaDoorLib
import Derived.Test.YthfkdgecclnffaaDoorPx7
import Derived.Test.YthfkdgecclnffaaDoorPx1
import Derived.Test.YthfkdgecclnffaaDoorPx15
import Derived.Test.YthfkdgecclnffaaDoorPx6
import Derived.Test.YthfkdgecclnffaaDoorPx4
import Derived.Test.YthfkdgecclnffaaDoorJo
import Derived.Test.YthfkdgecclnffaaDoorPx3
import Derived.Test.YthfkdgecclnffaaDoorPx5
import Derived.Test.YthfkdgecclnffaaDoorPa
import Derived.Lib.SplitLaws
import Derived.Test.YthfkdgecclnffaaDoorPx10
import Derived.Test.YthfkdgecclnffaaDoorPx11
import Derived.Test.YthfkdgecclnffaaDoorPx14
import Derived.Test.YthfkdgecclnffaaDoorPx13
import Derived.Test.YthfkdgecclnffaaDoorPx8
import Derived.Test.YthfkdgecclnffaaDoorPx2
import Derived.Test.YthfkdgecclnffaaDoorPx12
import Derived.Test.YthfkdgecclnffaaDoorRowLib
import Derived.Test.YthfkdgecclnffaaDoorPx16
/-! ### PuInts -/
/- Plain laws of the copies and comparisons of rows of whole numbers; no conditions beyond the rows' lengths. -/
namespace Go.Proofs.YthfkdgecclnffaaDoor.P
open Go.RowKit Go.Proofs.YthfkdgecclnffaaDoorW.PrintWords Go.Proofs.YthfkdgecclnffaaDoorW.PrintLast Go.Proofs.YthfkdgecclnffaaDoorW.PrintMore L
set_option linter.unusedVariables false
set_option linter.unusedSimpArgs false
theorem toIntS_ev (l : List Int) (hl : l.length ≤ 35184372088832) : Ev (fun k => laws_toIntS.f k l) l := by
  have key : ∀ i, i ≤ l.length → Ev (fun k => laws_toIntS.l0 k l (l.take i ++ List.replicate (l.length - i) 0) (i : Int)) l := by
    refine L.down ?_ fun i hi ih => ?_
    · refine L.Ev.succ ?_
      simp only [laws_toIntS.l0]
      refine L.Ev.ifn (by omega) ?_
      rw [Nat.sub_self, List.take_of_length_le (Nat.le_refl _)]
      simp only [List.replicate_zero, List.append_nil]
      exact Ev.now l
    · refine L.Ev.succ ?_
      simp only [laws_toIntS.l0]
      refine L.Ev.ifp (by omega) (L.Ev.ifp (by omega) (L.Ev.ifp ?_ ?_))
      · simp only [List.length_append, List.length_take, List.length_replicate]; omega
      · have e : (l.take i ++ List.replicate (l.length - i) 0).set i (rd l (i : Int)) = l.take (i + 1) ++ List.replicate (l.length - (i + 1)) 0 := by
          rw [L.rd_get hi]
          refine List.ext_getElem? fun j => ?_
          rw [List.getElem?_set]
          by_cases hj : i = j
          · subst hj
            rw [if_pos rfl, if_pos (by simp only [List.length_append, List.length_take, List.length_replicate]; omega), List.getElem?_append_left (by simp only [List.length_take]; omega), List.getElem?_take, if_pos (by omega), List.getElem?_eq_getElem hi]
          · rw [if_neg hj]
            by_cases h1 : j < i
            · rw [List.getElem?_append_left (by simp only [List.length_take]; omega), List.getElem?_append_left (by simp only [List.length_take]; omega), List.getElem?_take, List.getElem?_take, if_pos h1, if_pos (by omega)]
            · rw [List.getElem?_append_right (by simp only [List.length_take]; omega), List.getElem?_append_right (by simp only [List.length_take]; omega)]
              simp only [List.length_take, List.getElem?_replicate]
              by_cases h2 : j < l.length
              · rw [if_pos (by omega), if_pos (by omega)]
              · rw [if_neg (by omega), if_neg (by omega)]
        refine Ev.congr (fun k => ?_) ih
        rw [L.w64n (by omega), Int.toNat_natCast, e]
  refine Ev.congr (fun k => ?_) (key 0 (by omega))
  unfold laws_toIntS.f
  rw [if_pos (by omega), if_pos (by omega)]
  simp
theorem eqIntS_ev (l m : List Int) (hl : l.length ≤ 9223372036854775806) : Ev (fun k => laws_eqIntS.f k l m) (decide (l = m)) := by
  by_cases hlen : l.length = m.length
  · have key : ∀ i, i ≤ l.length → Ev (fun k => laws_eqIntS.l0 k l m (i : Int)) (decide (l.drop i = m.drop i)) := by
      refine L.down ?_ fun i hi ih => ?_
      · refine L.Ev.succ ?_
        simp only [laws_eqIntS.l0]
        refine L.Ev.ifn (by omega) ?_
        rw [List.drop_eq_nil_of_le (Nat.le_refl _), List.drop_eq_nil_of_le (by omega)]
        exact Ev.now _
      · refine L.Ev.succ ?_
        simp only [laws_eqIntS.l0]
        refine L.Ev.ifp (by omega) (L.Ev.ifp (by omega) (L.Ev.ifp (by omega) ?_))
        rw [L.rd_get hi, L.rd_get (l := m) (by omega), List.drop_eq_getElem_cons hi, List.drop_eq_getElem_cons (l := m) (by omega)]
        by_cases e : l[i] = m[i]'(by omega)
        · refine L.Ev.ifp e ?_
          refine Ev.congr (fun k => by rw [L.w64n (by omega)]) ?_
          have e2 : (l[i] :: List.drop (i + 1) l = m[i]'(by omega) :: List.drop (i + 1) m) = (List.drop (i + 1) l = List.drop (i + 1) m) := propext ⟨fun h => (List.cons.inj h).2, fun h => by rw [e, h]⟩
          simp only [e2]
          exact ih
        · refine L.Ev.ifn e ?_
          simp only [List.cons.injEq, e, false_and, decide_false]
          exact Ev.now _
    have h := key 0 (by omega)
    refine Ev.congr (fun k => ?_) h
    unfold laws_eqIntS.f
    rw [if_pos (by omega)]; rfl
  · have e : l ≠ m := fun h => hlen (by rw [h])
    refine Ev.congr (fun k => ?_) (f := fun _ => some false) (by simp only [e, decide_false]; exact Ev.now _)
    unfold laws_eqIntS.f
    rw [if_neg (by omega)]
theorem eqIntS_self (l : List Int) (hl : l.length ≤ 9223372036854775806) : Ev (fun k => laws_eqIntS.f k l l) true := by
  have h := eqIntS_ev l l hl
  simpa using h
end Go.Proofs.YthfkdgecclnffaaDoor.P

/-! ### PuOrder -/
/- Plain laws of the copies and comparisons of relations; no conditions beyond the rows' lengths. -/
namespace Go.Proofs.YthfkdgecclnffaaDoor.P
open Go.RowKit Go.Proofs.YthfkdgecclnffaaDoorW.PrintWords Go.Proofs.YthfkdgecclnffaaDoorW.PrintLast Go.Proofs.YthfkdgecclnffaaDoorW.PrintMore L
set_option linter.unusedVariables false
set_option linter.unusedSimpArgs false
theorem szIntS_eq (l : List Int) (a : Int) (ha : 0 ≤ a ∧ a ≤ 1048576) (hl : l.length ≤ 9223372036854775807) : laws_szIntS.f l a = some (if (l.length : Int) ≤ a then a - l.length else -1) := by
  unfold laws_szIntS.f
  rw [L.w64 (by omega) (by omega)]
  by_cases h : (l.length : Int) ≤ a
  · rw [if_neg (by omega), if_pos h]
  · rw [if_pos (by omega), if_neg h]
theorem szOrder_eq (n : Int) (l : List Int) (a : Int) (ha : 0 ≤ a ∧ a ≤ 1048576) (hl : l.length ≤ 9223372036854775807) : laws_szOrder.f n l a = some (if (l.length : Int) ≤ a then a - l.length else -1) := by
  unfold laws_szOrder.f
  rw [szIntS_eq l a ha hl]
  simp only [Option.bind_some]
  by_cases h : (l.length : Int) ≤ a
  · rw [if_pos h, if_neg (by omega)]
  · rw [if_neg h, if_pos (by omega)]
theorem toOrder_ev (n : Int) (l : List Int) (hl : l.length ≤ 35184372088832) : Ev (fun k => laws_toOrder.f k n l) (n, l) := by
  unfold laws_toOrder.f
  exact Ev.bind (toIntS_ev l hl) (Ev.now _)
theorem eqOrder_ev (n : Int) (l : List Int) (m : Int) (o : List Int) (hl : l.length ≤ 9223372036854775806) : Ev (fun k => laws_eqOrder.f k n l m o) (decide (n = m ∧ l = o)) := by
  unfold laws_eqOrder.f
  by_cases h : n = m
  · refine L.Ev.ifp h ?_
    refine Ev.bind (eqIntS_ev l o hl) ?_
    by_cases h2 : l = o
    · simp only [h, h2, and_self, decide_true, if_true]; exact Ev.now _
    · simp only [h2, and_false, decide_false]; exact L.Ev.ifn (by simp) (Ev.now _)
  · refine L.Ev.ifn h ?_
    simp only [h, false_and, decide_false]
    exact Ev.now _
theorem eqOrder_self (n : Int) (l : List Int) (hl : l.length ≤ 9223372036854775806) : Ev (fun k => laws_eqOrder.f k n l n l) true := by
  have h := eqOrder_ev n l n l hl
  simpa using h
end Go.Proofs.YthfkdgecclnffaaDoor.P

/-! ### PuMark -/
/- Plain laws of the marks that are laid into rows of whole numbers and looked for again; no conditions beyond the rows' lengths. -/
namespace Go.Proofs.YthfkdgecclnffaaDoor.P
open Go.RowKit Go.Proofs.YthfkdgecclnffaaDoorW.PrintWords Go.Proofs.YthfkdgecclnffaaDoorW.PrintLast Go.Proofs.YthfkdgecclnffaaDoorW.PrintMore L
set_option linter.unusedVariables false
set_option linter.unusedSimpArgs false
/-- a, a + 1, .. -/
def marks (a : Int) (n : Nat) : List Int := (List.range n).map fun (i : Nat) => a + (i : Int)
theorem marks_length (a : Int) (n : Nat) : (marks a n).length = n := by simp [marks]
theorem markIntS_ev (l : List Int) (a : Int) (ha : 0 ≤ a ∧ a ≤ 4194304) (hl : l.length ≤ 1048576) : Ev (fun k => laws_markIntS.f k l a) (a + l.length, marks a l.length) := by
  have key : ∀ i, i ≤ l.length → Ev (fun k => laws_markIntS.l0 k (marks a i ++ l.drop i) (a + i) (i : Int)) (a + l.length, marks a l.length) := by
    refine L.down ?_ fun i hi ih => ?_
    · refine L.Ev.succ ?_
      simp only [laws_markIntS.l0]
      rw [List.drop_eq_nil_of_le (Nat.le_refl _), List.append_nil]
      refine L.Ev.ifn (by rw [marks_length]; omega) ?_
      exact Ev.now _
    · refine L.Ev.succ ?_
      simp only [laws_markIntS.l0]
      refine L.Ev.ifp (by rw [List.length_append, marks_length, List.length_drop]; omega) (L.Ev.ifp (by omega) ?_)
      have e : (marks a i ++ l.drop i).set i (a + i) = marks a (i + 1) ++ l.drop (i + 1) := by
        refine List.ext_getElem? fun j => ?_
        rw [List.getElem?_set]
        by_cases hj : i = j
        · subst hj
          rw [if_pos rfl, if_pos (by rw [List.length_append, marks_length, List.length_drop]; omega), List.getElem?_append_left (by rw [marks_length]; omega)]
          simp [marks]
        · rw [if_neg hj]
          by_cases h1 : j < i
          · rw [List.getElem?_append_left (by rw [marks_length]; omega), List.getElem?_append_left (by rw [marks_length]; omega)]
            simp [marks, h1, show j < i + 1 by omega]
          · rw [List.getElem?_append_right (by rw [marks_length]; omega), List.getElem?_append_right (by rw [marks_length]; omega), marks_length, marks_length, List.getElem?_drop, List.getElem?_drop]
            congr 1; omega
      refine Ev.congr (fun k => ?_) ih
      rw [L.w64n (n := i) (by omega), L.w64 (x := a + i + 1) (by omega) (by omega), Int.toNat_natCast, e]
      congr 1; omega
  refine Ev.congr (fun k => ?_) (key 0 (by omega))
  unfold laws_markIntS.f
  simp [marks]
theorem heldIntS_ev (l : List Int) (a : Int) (ha : 0 ≤ a ∧ a ≤ 4194304) (hl : l.length ≤ 1048576) : Ev (fun k => laws_heldIntS.f k l a) (if l = marks a l.length then a + l.length else -1) := by
  by_cases hm : l = marks a l.length
  · rw [if_pos hm]
    have key : ∀ i, i ≤ l.length → Ev (fun k => laws_heldIntS.l0 k l (a + i) (i : Int)) (a + l.length) := by
      refine L.down ?_ fun i hi ih => ?_
      · refine L.Ev.succ ?_
        simp only [laws_heldIntS.l0]
        refine L.Ev.ifn (by omega) ?_
        exact Ev.now _
      · refine L.Ev.succ ?_
        simp only [laws_heldIntS.l0]
        refine L.Ev.ifp (by omega) (L.Ev.ifp (by omega) (L.Ev.ifp ?_ ?_))
        · rw [L.rd_nat]
          have e : l.getD i 0 = (marks a l.length).getD i 0 := by rw [← hm]
          rw [e, List.getD_eq_getElem?_getD]
          simp [marks, hi]
        · refine Ev.congr (fun k => ?_) ih
          rw [L.w64n (n := i) (by omega), L.w64 (x := a + i + 1) (by omega) (by omega)]
          congr 1; omega
    exact Ev.congr (fun k => by unfold laws_heldIntS.f; simp) (key 0 (by omega))
  · rw [if_neg hm]
    have key : ∀ i, i ≤ l.length → (∀ j, j < i → l.getD j 0 = a + j) → Ev (fun k => laws_heldIntS.l0 k l (a + i) (i : Int)) (-1) := by
      refine L.down ?_ fun i hi ih => ?_
      · intro h
        refine absurd ?_ hm
        refine List.ext_getElem? fun j => ?_
        by_cases hj : j < l.length
        · have := h j hj
          rw [List.getD_eq_getElem?_getD, List.getElem?_eq_getElem hj] at this
          rw [List.getElem?_eq_getElem hj]
          simp only [Option.getD_some] at this
          simp [marks, hj, this]
        · rw [List.getElem?_eq_none (by omega), List.getElem?_eq_none (by rw [marks_length]; omega)]
      · intro h
        refine L.Ev.succ ?_
        simp only [laws_heldIntS.l0]
        refine L.Ev.ifp (by omega) (L.Ev.ifp (by omega) ?_)
        by_cases e : rd l (i : Int) = a + i
        · refine L.Ev.ifp e ?_
          refine Ev.congr (fun k => ?_) (ih fun j hj => ?_)
          · rw [L.w64n (n := i) (by omega), L.w64 (x := a + i + 1) (by omega) (by omega)]
            congr 1; omega
          · by_cases hji : j = i
            · rw [hji, ← L.rd_nat]; exact e
            · exact h j (by omega)
        · exact L.Ev.ifn e (Ev.now _)
    exact Ev.congr (fun k => by unfold laws_heldIntS.f; simp) (key 0 (by omega) (by omega))
theorem held_marks (a : Int) (n : Nat) (ha : 0 ≤ a ∧ a ≤ 4194304) (hn : n ≤ 1048576) : Ev (fun k => laws_heldIntS.f k (marks a n) a) (a + n) := by
  have h := heldIntS_ev (marks a n) a ha (by rw [marks_length]; omega)
  rw [marks_length, if_pos rfl] at h
  exact h
end Go.Proofs.YthfkdgecclnffaaDoor.P

/-! ### PuMarkO -/
/- Plain laws of the marks that are laid into relations and looked for again; no conditions beyond the rows' lengths. -/
namespace Go.Proofs.YthfkdgecclnffaaDoor.P
open Go.RowKit Go.Proofs.YthfkdgecclnffaaDoorW.PrintWords Go.Proofs.YthfkdgecclnffaaDoorW.PrintLast Go.Proofs.YthfkdgecclnffaaDoorW.PrintMore L
set_option linter.unusedVariables false
set_option linter.unusedSimpArgs false
theorem markOrder_ev (n : Int) (l : List Int) (a : Int) (ha : 0 ≤ a ∧ a ≤ 4194304) (hl : l.length ≤ 1048576) : Ev (fun k => laws_markOrder.f k n l a) (a + l.length, marks a l.length) := by
  unfold laws_markOrder.f
  exact Ev.bind (markIntS_ev l a ha hl) (Ev.now _)
end Go.Proofs.YthfkdgecclnffaaDoor.P

/-! ### PuMarkOH -/
/- Plain laws of the marks looked for in relations; no conditions beyond the rows' lengths. -/
namespace Go.Proofs.YthfkdgecclnffaaDoor.P
open Go.RowKit Go.Proofs.YthfkdgecclnffaaDoorW.PrintWords Go.Proofs.YthfkdgecclnffaaDoorW.PrintLast Go.Proofs.YthfkdgecclnffaaDoorW.PrintMore L
set_option linter.unusedVariables false
set_option linter.unusedSimpArgs false
theorem heldOrder_marks (m : Int) (a : Int) (n : Nat) (ha : 0 ≤ a ∧ a ≤ 4194304) (hn : n ≤ 1048576) : Ev (fun k => laws_heldOrder.f k m (marks a n) a) (a + n) := by
  unfold laws_heldOrder.f
  refine Ev.bind (held_marks a n ha hn) ?_
  exact L.Ev.ifn (by omega) (Ev.now _)
end Go.Proofs.YthfkdgecclnffaaDoor.P

/-! ### PuRel0 -/
/- Plain laws: which lists are relations. -/
namespace Go.Proofs.YthfkdgecclnffaaDoor.P
open Go.RowKit Go.Proofs.YthfkdgecclnffaaDoorW.PrintWords Go.Proofs.YthfkdgecclnffaaDoorW.PrintLast Go.Proofs.YthfkdgecclnffaaDoorW.PrintMore L
set_option linter.unusedVariables false
set_option linter.unusedSimpArgs false
/-- the numbers of a relation. -/
def isRel (n : Int) (l : List Int) : Bool := decide (0 ≤ n ∧ n ≤ 10 ∧ (l.length : Int) = n ∧ ∀ x ∈ l, 0 ≤ x ∧ x < 2 ^ n.toNat)
theorem isRel_iff (n : Int) (l : List Int) : isRel n l = true ↔ 0 ≤ n ∧ n ≤ 10 ∧ (l.length : Int) = n ∧ ∀ x ∈ l, 0 ≤ x ∧ x < 2 ^ n.toNat := by simp [isRel]
theorem isRel_big {n : Nat} {l : List Int} (h : isRel n l = true) : ∀ x ∈ l, 0 ≤ x ∧ x < 1024 := by
  obtain ⟨h0, h1, h2, h3⟩ := (isRel_iff _ _).1 h
  intro x hx
  obtain ⟨a, b⟩ := h3 x hx
  have : (2 : Int) ^ (n : Int).toNat ≤ 2 ^ 10 := by
    have := Nat.pow_le_pow_right (n := 2) (by decide) (show (n : Int).toNat ≤ 10 by omega)
    exact_mod_cast this
  omega
theorem isRel_ok {n : Int} {l : List Int} (h : isRel n l = true) : L.okRel n l := by
  obtain ⟨h0, h1, h2, h3⟩ := (isRel_iff _ _).1 h
  obtain ⟨m, rfl⟩ := Int.eq_ofNat_of_zero_le h0
  refine ⟨h0, by omega, h2, fun x hx => ?_⟩
  have := isRel_big h x hx
  omega
end Go.Proofs.YthfkdgecclnffaaDoor.P

/-! ### PuRel20 -/
/- Plain laws: single elements of relations: above, below, in bounds; for the program and the reference alike. -/
namespace Go.Proofs.YthfkdgecclnffaaDoor.P
open Go.RowKit Go.Proofs.YthfkdgecclnffaaDoorW.PrintWords Go.Proofs.YthfkdgecclnffaaDoorW.PrintLast Go.Proofs.YthfkdgecclnffaaDoorW.PrintMore L
set_option linter.unusedVariables false
set_option linter.unusedSimpArgs false
theorem isRel_nat {n : Int} {l : List Int} (h : isRel n l = true) : ∃ m : Nat, n = m ∧ m ≤ 10 ∧ l.length = m := by
  obtain ⟨h0, h1, h2, h3⟩ := (isRel_iff _ _).1 h
  obtain ⟨m, rfl⟩ := Int.eq_ofNat_of_zero_le h0
  exact ⟨m, rfl, by omega, by omega⟩
theorem orHas_eq {n : Int} {l : List Int} (h : L.okRel n l) (i j : Nat) (hj : j ≤ 64) : spec_orHas.f (rd l (i : Int)) (j : Int) = some (L.bitAt l i j) := by
  unfold spec_orHas.f
  rw [if_pos (by omega), h.bitm i j hj]
def R0 (n : Int) : Prop := -9223372036854775807 ≤ n ∧ n ≤ 9223372036854775807
theorem rel_len {m : Nat} {l : List Int} (h : isRel (m : Int) l = true) : l.length = m ∧ m ≤ 10 := by
  obtain ⟨m', hm', hm, hlm⟩ := isRel_nat h
  omega
end Go.Proofs.YthfkdgecclnffaaDoor.P

/-! ### PuText -/
/- Plain laws: the text of a relation, in the program and in the reference. -/
namespace Go.Proofs.YthfkdgecclnffaaDoor.P
open Go.RowKit Go.Proofs.YthfkdgecclnffaaDoorW.PrintWords Go.Proofs.YthfkdgecclnffaaDoorW.PrintLast Go.Proofs.YthfkdgecclnffaaDoorW.PrintMore L
set_option linter.unusedVariables false
set_option linter.unusedSimpArgs false
theorem ba_ext {a b : ByteArray} (h : a.data.toList = b.data.toList) : a = b := ByteArray.ext (Array.toList_inj.1 h)
theorem ba_app (a b : ByteArray) : (a ++ b).data.toList = a.data.toList ++ b.data.toList := by rw [ByteArray.data_append, Array.toList_append]
theorem ba_size (a : ByteArray) : a.size = a.data.toList.length := by cases a; simp [ByteArray.size]
set_option maxRecDepth 100000 in
theorem num_all : ∀ m : Nat, m < 10 → strOfNums ([(wrap64 (48 + (m : Int))) % 256] : List Int) = itoaB m := by decide +kernel
set_option maxRecDepth 100000 in
theorem num_ten : strOfNums ([(wrap64 (48 + 1)) % 256] : List Int) ++ strOfNums ([(wrap64 (48 + 0)) % 256] : List Int) = itoaB 10 := by decide +kernel
set_option maxRecDepth 100000 in
theorem itoa_size : ∀ m : Nat, m ≤ 10 → (itoaB m).size ≤ 2 := by decide +kernel
theorem l1Num_ev {m : Nat} (hm : m ≤ 10) : Ev (fun k => spec_l1Num.f k (m : Int)) (itoaB m) := by
  by_cases h : m < 10
  · refine L.Ev.succ ?_
    simp only [spec_l1Num.f]
    refine L.Ev.ifp (by omega) ?_
    rw [num_all m h]; exact Ev.now _
  · have e : m = 10 := by omega
    subst e
    refine L.Ev.succ ?_
    simp only [spec_l1Num.f]
    have e1 : wrap64 (Int.tdiv ((10 : Nat) : Int) 10) = ((1 : Nat) : Int) := by
      rw [show Int.tdiv ((10 : Nat) : Int) 10 = 1 from rfl]; exact L.w64 (by omega) (by omega)
    have e2 : Int.tmod ((10 : Nat) : Int) 10 = 0 := rfl
    rw [e1, e2]
    refine L.Ev.ifn (by omega) (Ev.bind (a := itoaB 1) ?_ ?_)
    · refine L.Ev.succ ?_
      simp only [spec_l1Num.f]
      refine L.Ev.ifp (by omega) ?_
      rw [num_all 1 (by omega)]; exact Ev.now _
    · have e3 : strOfNums ([(wrap64 (48 + 0)) % 256] : List Int) = itoaB 0 := num_all 0 (by omega)
      have e4 : itoaB 1 ++ itoaB 0 = itoaB 10 := by rw [← num_all 1 (by omega), ← e3]; exact num_ten
      simp only [Option.bind_some]
      rw [e3, e4]
      exact L.Ev.ifp (by have := itoa_size 1 (by omega); have := itoa_size 0 (by omega); omega) (Ev.now _)
/-- the text of a row, up to j. -/
def rowT (l : List Int) (i : Nat) : Nat → ByteArray
  | 0 => ⟨#[]⟩
  | j + 1 => rowT l i j ++ if L.bitAt l i j then ⟨#[49]⟩ else ⟨#[48]⟩
theorem rowT_size (l : List Int) (i : Nat) : ∀ j, (rowT l i j).size = j
  | 0 => rfl
  | j + 1 => by
    unfold rowT
    rw [ByteArray.size_append, rowT_size l i j]
    split <;> rfl
def rowsT (l : List Int) (m i : Nat) : List ByteArray := (List.range i).map fun i => rowT l i m
theorem rowsT_length (l : List Int) (m i : Nat) : (rowsT l m i).length = i := by simp [rowsT]
theorem rowsT_succ (l : List Int) (m i : Nat) : rowsT l m (i + 1) = rowsT l m i ++ [rowT l i m] := by simp [rowsT, List.range_succ]
theorem joinB_nil (s : ByteArray) : joinB [] s = ⟨#[]⟩ := rfl
theorem join_snoc (xs : List (List UInt8)) (x sep : List UInt8) (h : xs ≠ []) : Lib.join (xs ++ [x]) sep = Lib.join xs sep ++ (sep ++ x) := by
  cases xs with
  | nil => exact absurd rfl h
  | cons y ys =>
    rw [List.cons_append, Lib.join_cons, Lib.join_cons, List.append_assoc]
    congr 1
    unfold Lib.joinTail
    simp
theorem joinB_list (xs : List ByteArray) (s : ByteArray) : (joinB xs s).data.toList = Lib.join (xs.map (·.data.toList)) s.data.toList := by simp [joinB]
theorem joinB_one (x s : ByteArray) : joinB [x] s = x := ba_ext (by rw [joinB_list]; simp [Lib.join_one])
theorem joinB_snoc (xs : List ByteArray) (x s : ByteArray) (h : xs ≠ []) : joinB (xs ++ [x]) s = joinB xs s ++ s ++ x := by
  refine ba_ext ?_
  rw [ba_app, ba_app, joinB_list, joinB_list, List.map_append, List.map_cons, List.map_nil, join_snoc _ _ _ (by simpa using h), List.append_assoc]
def slash : ByteArray := ⟨#[47]⟩
def headT (m : Nat) : ByteArray := itoaB m ++ ⟨#[58]⟩
def textT (l : List Int) (m i : Nat) : ByteArray := headT m ++ joinB (rowsT l m i) slash
theorem rows_size (l : List Int) (m : Nat) : ∀ i, (joinB (rowsT l m i) slash).size ≤ i * (m + 1)
  | 0 => by rw [show rowsT l m 0 = [] from rfl, joinB_nil]; exact Nat.zero_le _
  | i + 1 => by
    have ih := rows_size l m i
    rw [rowsT_succ]
    cases i with
    | zero =>
      rw [show rowsT l m 0 = [] from rfl, List.nil_append, joinB_one, rowT_size]; omega
    | succ i =>
      rw [joinB_snoc _ _ _ (by intro e; have := rowsT_length l m (i + 1); rw [e] at this; simp at this), ByteArray.size_append, ByteArray.size_append, rowT_size, show slash.size = 1 from rfl, Nat.add_mul (i + 1) 1]
      omega
theorem head_size {m : Nat} (hm : m ≤ 10) : (headT m).size ≤ 3 := by
  unfold headT
  rw [ByteArray.size_append, show (⟨#[58]⟩ : ByteArray).size = 1 from rfl]
  have := itoa_size m hm
  omega
theorem text_size (l : List Int) {m i : Nat} (hm : m ≤ 10) (hi : i ≤ 10) : (textT l m i).size ≤ 200 := by
  unfold textT
  rw [ByteArray.size_append]
  have h1 := head_size hm
  have h2 := rows_size l m i
  have h3 : i * (m + 1) ≤ 10 * 11 := Nat.mul_le_mul hi (by omega)
  omega
theorem text_zero (l : List Int) (m : Nat) : textT l m 0 = headT m := by
  unfold textT
  rw [show rowsT l m 0 = [] from rfl, joinB_nil]
  exact ba_ext (by rw [ba_app]; simp)
theorem text_one (l : List Int) (m : Nat) : headT m ++ rowT l 0 m = textT l m 1 := by
  unfold textT
  rw [rowsT_succ, show rowsT l m 0 = [] from rfl, List.nil_append, joinB_one]
theorem text_step (l : List Int) (m i : Nat) : textT l m (i + 1) ++ slash ++ rowT l (i + 1) m = textT l m (i + 1 + 1) := by
  unfold textT
  rw [rowsT_succ l m (i + 1), joinB_snoc _ _ _ (by intro e; have := rowsT_length l m (i + 1); rw [e] at this; simp at this)]
  simp only [ByteArray.append_assoc]
theorem empty_app (a : ByteArray) : a ++ (⟨#[]⟩ : ByteArray) = a := ba_ext (by rw [ba_app]; simp)
theorem better_tells {n : Int} {l : List Int} (h : L.okRel n l) (i j : Nat) (hi : (i : Int) < n) (hj : j ≤ 64) : impl_Order_better.f n l (i : Int) (j : Int) = some (L.bitAt l i j) := by
  unfold impl_Order_better.f
  rw [if_pos (by omega), if_pos (by have := h.len; omega), if_pos (by omega), h.bit i j hj]
theorem orText_ev {m : Nat} {l : List Int} (h : isRel (m : Int) l = true) : Ev (fun k => spec_orText.f k (m : Int) l) (textT l m m) := by
  obtain ⟨h1, h2⟩ := rel_len h
  have ok := isRel_ok h
  have inner : ∀ i, i < m → ∀ T : ByteArray, T.size ≤ 300 → T ++ rowT l i m = textT l m (i + 1) → Ev (fun k => spec_orText.l0 k (textT l m (i + 1)) l (l.length : Int) ((i + 1 : Nat) : Int) (m : Int) l) (textT l m m) →
      Ev (fun k => spec_orText.j1 k T (rd l (i : Int)) l (l.length : Int) (i : Int) (m : Int) l) (textT l m m) := by
    intro i hi T hT he hk
    have key : ∀ j, j ≤ m → Ev (fun k => spec_orText.l1 k (T ++ rowT l i j) (rd l (i : Int)) l (l.length : Int) (i : Int) (m : Int) (j : Int) (m : Int) l) (textT l m m) := by
      refine L.down ?_ fun j hj ih => ?_
      · refine L.Ev.succ ?_
        simp only [spec_orText.l1]
        rw [he]
        refine L.Ev.ifn (by omega) ?_
        exact Ev.congr (fun k => by rw [L.w64n (by omega)]) hk
      · have hs : (T ++ rowT l i j).size ≤ 400 := by rw [ByteArray.size_append, rowT_size]; omega
        refine L.Ev.succ ?_
        simp only [spec_orText.l1]
        rw [L.w64n (n := j) (by omega)]
        refine L.Ev.ifp (by omega) (L.Ev.bindc (orHas_eq ok i j (by omega)) ?_)
        have e : ∀ c : ByteArray, (T ++ rowT l i j) ++ c = T ++ (rowT l i j ++ c) := fun c => ByteArray.append_assoc
        cases hb : L.bitAt l i j with
        | true =>
          unfold rowT at ih
          rw [hb, if_pos rfl] at ih
          refine L.Ev.ifp rfl (L.Ev.ifp (by omega) ?_)
          rw [e]; exact ih
        | false =>
          unfold rowT at ih
          rw [hb, if_neg (by simp)] at ih
          refine L.Ev.ifn (by simp) (L.Ev.ifp (by omega) ?_)
          rw [e]; exact ih
    have h0 := key 0 (by omega)
    rw [show rowT l i 0 = ⟨#[]⟩ from rfl, empty_app] at h0
    refine L.Ev.succ ?_
    simp only [spec_orText.j1]
    rw [show ((l.length : Nat) : Int) = (m : Int) by omega] at h0 ⊢
    exact h0
  have outer : ∀ i, i ≤ m → Ev (fun k => spec_orText.l0 k (textT l m i) l (l.length : Int) (i : Int) (m : Int) l) (textT l m m) := by
    refine L.down ?_ fun i hi ih => ?_
    · refine L.Ev.succ ?_
      simp only [spec_orText.l0]
      exact L.Ev.ifn (by omega) (Ev.now _)
    · have hs := text_size l h2 (show i ≤ 10 by omega)
      refine L.Ev.succ ?_
      simp only [spec_orText.l0]
      refine L.Ev.ifp (by omega) (L.Ev.ifp (by omega) (L.Ev.ifp (by omega) ?_))
      cases i with
      | zero =>
        refine L.Ev.ifn (by omega) ?_
        exact inner 0 hi _ (by omega) (by rw [text_zero]; exact text_one l m) ih
      | succ i =>
        refine L.Ev.ifp (by omega) (L.Ev.ifp (by omega) ?_)
        exact inner (i + 1) hi _ (by rw [ByteArray.size_append, show (⟨#[47]⟩ : ByteArray).size = 1 from rfl]; omega) (text_step l m i) ih
  unfold spec_orText.f
  refine Ev.bind (l1Num_ev h2) (L.Ev.ifp (by have := itoa_size m h2; omega) ?_)
  have h0 := outer 0 (by omega)
  rw [text_zero] at h0
  exact h0
theorem orderText_ev {m : Nat} {l : List Int} (h : isRel (m : Int) l = true) : Ev (fun k => impl_orderText.f k (m : Int) l) (textT l m m) := by
  obtain ⟨h1, h2⟩ := rel_len h
  have ok := isRel_ok h
  have inner : ∀ i, i < m → Ev (fun k => impl_orderText.l0 k (rowsT l m (i + 1)) (m : Int) ((i + 1 : Nat) : Int) (m : Int) l) (textT l m m) →
      Ev (fun k => impl_orderText.l1 k (rowsT l m i) (i : Int) (⟨#[]⟩ : ByteArray) (m : Int) (i : Int) (m : Int) 0 (m : Int) l) (textT l m m) := by
    intro i hi hk
    have key : ∀ j, j ≤ m → Ev (fun k => impl_orderText.l1 k (rowsT l m i) (i : Int) (rowT l i j) (m : Int) (i : Int) (m : Int) (j : Int) (m : Int) l) (textT l m m) := by
      refine L.down ?_ fun j hj ih => ?_
      · refine L.Ev.succ ?_
        simp only [impl_orderText.l1]
        refine L.Ev.ifn (by omega) (L.Ev.ifp (by rw [rowsT_length]; omega) ?_)
        rw [← rowsT_succ]
        exact Ev.congr (fun k => by rw [L.w64n (by omega)]) hk
      · have hs : (rowT l i j).size ≤ 10 := by rw [rowT_size]; omega
        refine L.Ev.succ ?_
        simp only [impl_orderText.l1]
        rw [L.w64n (n := j) (by omega)]
        refine L.Ev.ifp (by omega) (L.Ev.bindc (better_tells ok i j (by omega) (by omega)) ?_)
        cases hb : L.bitAt l i j with
        | true =>
          unfold rowT at ih
          rw [hb, if_pos rfl] at ih
          exact L.Ev.ifp rfl (L.Ev.ifp (by omega) ih)
        | false =>
          unfold rowT at ih
          rw [hb, if_neg (by simp)] at ih
          exact L.Ev.ifn (by simp) (L.Ev.ifp (by omega) ih)
    exact key 0 (by omega)
  have outer : ∀ i, i ≤ m → Ev (fun k => impl_orderText.l0 k (rowsT l m i) (m : Int) (i : Int) (m : Int) l) (textT l m m) := by
    refine L.down ?_ fun i hi ih => ?_
    · have hr := rows_size l m m
      have hr2 : m * (m + 1) ≤ 10 * 11 := Nat.mul_le_mul h2 (by omega)
      have hd := head_size h2
      have hi2 := itoa_size m h2
      refine L.Ev.succ ?_
      simp only [impl_orderText.l0]
      refine L.Ev.ifn (by omega) (L.Ev.bindc (a := itoaB m) (by unfold strconv_Itoa.f; rw [if_pos (by omega), Int.toNat_natCast]) (L.Ev.ifp (by omega) (L.Ev.bindc (a := joinB (rowsT l m m) slash) (by unfold strings_Join.f; rw [if_pos ⟨by rw [rowsT_length]; omega, by show (joinB (rowsT l m m) slash).size ≤ _; omega⟩]; rfl) (L.Ev.ifp ?_ (Ev.now _)))))
      show (headT m).size + (joinB (rowsT l m m) slash).size ≤ _
      omega
    · refine L.Ev.succ ?_
      simp only [impl_orderText.l0]
      exact L.Ev.ifp (by omega) (inner i hi ih)
  exact outer 0 (by omega)
end Go.Proofs.YthfkdgecclnffaaDoor.P

/-! ### PuSplit -/
/- Plain laws: texts cut and split at a byte. -/
namespace Go.Proofs.YthfkdgecclnffaaDoor.P
open Go.RowKit Go.Proofs.YthfkdgecclnffaaDoorW.PrintWords Go.Proofs.YthfkdgecclnffaaDoorW.PrintLast Go.Proofs.YthfkdgecclnffaaDoorW.PrintMore L
set_option linter.unusedVariables false
set_option linter.unusedSimpArgs false
theorem index_at (c : UInt8) (b : List UInt8) : ∀ a : List UInt8, c ∉ a → Lib.index (a ++ c :: b) [c] = a.length
  | [], _ => by simp [Lib.index]
  | x :: a, h => by
    have hx : x ≠ c := fun e => h (by rw [e]; exact List.mem_cons_self)
    have ih := index_at c b a (fun e => h (List.mem_cons_of_mem _ e))
    rw [List.cons_append]
    unfold Lib.index
    rw [ih]
    have h1 : ([c].isPrefixOf (x :: (a ++ c :: b))) = false := by
      have : (c == x) = false := beq_eq_false_iff_ne.2 hx.symm
      simp only [List.isPrefixOf, this, Bool.false_and]
    have h2 : (((a.length : Nat) : Int) == -1) = false := beq_eq_false_iff_ne.2 (by omega)
    rw [h1, if_neg (by simp), h2, if_neg (by simp), List.length_cons]
    omega
theorem index_no (c : UInt8) : ∀ a : List UInt8, c ∉ a → Lib.index a [c] = -1
  | [], _ => by simp [Lib.index]
  | x :: a, h => by
    have hx : x ≠ c := fun e => h (by rw [e]; exact List.mem_cons_self)
    have ih := index_no c a (fun e => h (List.mem_cons_of_mem _ e))
    unfold Lib.index
    rw [ih]
    have h1 : ([c].isPrefixOf (x :: a)) = false := by
      have : (c == x) = false := beq_eq_false_iff_ne.2 hx.symm
      simp only [List.isPrefixOf, this, Bool.false_and]
    rw [h1]; simp
theorem cut_at (c : UInt8) (a b : List UInt8) (h : c ∉ a) : Lib.cut (a ++ c :: b) [c] = (a, b, true) := by
  unfold Lib.cut
  rw [index_at c b a h, if_pos (by omega), Int.toNat_natCast]
  simp
def one (c : UInt8) : ByteArray := ⟨#[c]⟩
theorem cutA_at (c : UInt8) (a b : ByteArray) (h : c ∉ a.data.toList) : cutA (a ++ one c ++ b) (one c) = a ∧ cutB (a ++ one c ++ b) (one c) = b := by
  have e : (a ++ one c ++ b).data.toList = a.data.toList ++ c :: b.data.toList := by rw [ba_app, ba_app, List.append_assoc]; rfl
  have e2 : (one c).data.toList = [c] := rfl
  unfold cutA cutB
  rw [e, e2, cut_at c _ _ h]
  exact ⟨ba_ext (by simp), ba_ext (by simp)⟩
theorem extract_left (a b : ByteArray) : (a ++ b).extract 0 a.size = a := by
  refine ba_ext ?_
  rw [Lib.extract_from_zero, ba_app, ba_size]
  simp
theorem indexB_at (c : UInt8) (a b : ByteArray) (h : c ∉ a.data.toList) : Lib.indexB (a ++ one c ++ b) (one c) = (a.size : Int) := by
  have e : (a ++ one c ++ b).data.toList = a.data.toList ++ c :: b.data.toList := by rw [ba_app, ba_app, List.append_assoc]; rfl
  unfold Lib.indexB
  rw [e, show (one c).data.toList = [c] from rfl, index_at c _ _ h, ba_size]
theorem indexB_no (c : UInt8) (a : ByteArray) (h : c ∉ a.data.toList) : Lib.indexB a (one c) = -1 := by
  unfold Lib.indexB
  rw [show (one c).data.toList = [c] from rfl, index_no c _ h]
theorem splitL_no (c : UInt8) (a : ByteArray) (h : c ∉ a.data.toList) : splitL a (one c) = [a] := by
  unfold splitL
  exact Lib.splitB_miss _ _ _ _ (indexB_no c a h)
theorem extract_right (a b : ByteArray) (n : Nat) (hn : n = (a ++ b).size) : (a ++ b).extract a.size n = b := by
  subst hn
  rw [ByteArray.size_append]
  refine ba_ext ?_
  rw [ByteArray.data_extract, Array.toList_extract, ByteArray.data_append, Array.toList_append]
  simp only [ba_size]
  simp [List.extract]
  exact List.take_of_length_le (by rw [ba_size]; exact Nat.le_refl _)
theorem splitL_at (c : UInt8) (a b : ByteArray) (h : c ∉ a.data.toList) : splitL (a ++ one c ++ b) (one c) = a :: splitL b (one c) := by
  have hi := indexB_at c a b h
  have hx : (a ++ one c ++ b).extract (a.size + (one c).size) (a ++ one c ++ b).size = b := by
    have := extract_right (a ++ one c) b (a ++ one c ++ b).size rfl
    rwa [ByteArray.size_append] at this
  have hc := Lib.countB_hit (a ++ one c ++ b) (one c) a.size (show 1 ≤ (one c).size from Nat.le_refl 1) hi
  rw [hx] at hc
  unfold splitL
  rw [hc, Nat.add_comm 1, Lib.splitB_hit _ _ _ _ _ hi, hx, Nat.add_zero, ByteArray.append_assoc, extract_left]
set_option maxRecDepth 100000 in
theorem atoi_itoa : ∀ m : Nat, m ≤ 10 → atoiV (itoaB m) = (m : Int) ∧ atoiE (itoaB m) = false := by decide +kernel
set_option maxRecDepth 100000 in
theorem itoa_colon : ∀ m : Nat, m ≤ 10 → (58 : UInt8) ∉ (itoaB m).data.toList := by decide +kernel
theorem rowT_mem (l : List Int) (i : Nat) : ∀ j, ∀ x ∈ (rowT l i j).data.toList, x = 48 ∨ x = 49
  | 0, x, h => by simp [rowT] at h
  | j + 1, x, h => by
    unfold rowT at h
    rw [ba_app, List.mem_append] at h
    rcases h with h | h
    · exact rowT_mem l i j x h
    · split at h <;> simp at h <;> simp [h]
theorem rowT_no (l : List Int) (i j : Nat) : (47 : UInt8) ∉ (rowT l i j).data.toList := fun h => by
  rcases rowT_mem l i j _ h with e | e <;> cases e
end Go.Proofs.YthfkdgecclnffaaDoor.P

/-! ### PuWithin -/
/- Plain laws: numbers between two numbers, in the program and in the reference. -/
namespace Go.Proofs.YthfkdgecclnffaaDoor.P
open Go.RowKit Go.Proofs.YthfkdgecclnffaaDoorW.PrintWords Go.Proofs.YthfkdgecclnffaaDoorW.PrintLast Go.Proofs.YthfkdgecclnffaaDoorW.PrintMore L
set_option linter.unusedVariables false
set_option linter.unusedSimpArgs false
theorem within_eq (a b c : Int) : impl_within.f a b c = some (decide (b ≤ a ∧ a ≤ c)) := by
  unfold impl_within.f
  by_cases h : a ≥ b
  · rw [if_pos h]; congr 1; simp; omega
  · rw [if_neg h]; congr 1; simp; omega
theorem l1In_eq (a b c : Int) : spec_l1In.f a b c = some (decide (b ≤ a ∧ a ≤ c)) := within_eq a b c
end Go.Proofs.YthfkdgecclnffaaDoor.P

/-! ### PuRows -/
/- Plain lemmas: rows of bits that are built element by element; relations that are built row by row or mark by mark. -/
namespace Go.Proofs.YthfkdgecclnffaaDoor.L
open Go.RowKit Go.Proofs.YthfkdgecclnffaaDoorW.PrintWords Go.Proofs.YthfkdgecclnffaaDoorW.PrintLast Go.Proofs.YthfkdgecclnffaaDoorW.PrintMore
set_option linter.unusedVariables false
set_option linter.unusedSimpArgs false
theorem two_lt {j : Nat} (hj : j ≤ 60) : (2 : Nat) ^ j < 2 ^ 62 := Nat.pow_lt_pow_right (by decide) (by omega)
theorem relRow_lt62 (f : Nat → Bool) {j : Nat} (hj : j ≤ 60) : relRow f j < 2 ^ 62 := Nat.lt_trans (relRow_lt f j) (two_lt hj)
theorem row_yes {f : Nat → Bool} {j : Nat} (h : f j = true) (hj : j ≤ 60) : Go.bits .or .i64 ((relRow f j : Nat) : Int) (shl .i64 1 (j : Int)) = ((relRow f (j + 1) : Nat) : Int) := by
  rw [shl_one (by omega), or_nat (relRow_lt62 f hj) (two_lt hj)]
  show _ = ((if f j = true then _ else _ : Nat) : Int)
  rw [if_pos h]
theorem row_no {f : Nat → Bool} {j : Nat} (h : f j = false) : ((relRow f j : Nat) : Int) = ((relRow f (j + 1) : Nat) : Int) := by
  show _ = ((if f j = true then _ else _ : Nat) : Int)
  rw [if_neg (by rw [h]; simp)]
/-- the first i rows of a relation. -/
def relPre (n : Nat) (is : Nat → Nat → Bool) (i : Nat) : List Int := cast ((List.range i).map fun i => relRow (is i) n)
theorem relPre_zero (n : Nat) (is : Nat → Nat → Bool) : relPre n is 0 = [] := rfl
theorem relPre_length (n : Nat) (is : Nat → Nat → Bool) (i : Nat) : (relPre n is i).length = i := by simp [relPre, cast_length]
theorem relPre_full (n : Nat) (is : Nat → Nat → Bool) : relPre n is n = relL n is := rfl
theorem relPre_succ (n : Nat) (is : Nat → Nat → Bool) (i : Nat) : relPre n is i ++ [((relRow (is i) n : Nat) : Int)] = relPre n is (i + 1) := by
  simp [relPre, cast, List.range_succ]
theorem rd_relL (n : Nat) (is : Nat → Nat → Bool) {i : Nat} (h : i < n) : rd (relL n is) (i : Int) = ((relRow (is i) n : Nat) : Int) := by
  unfold relL; rw [rd_cast, relN_get n is h]
theorem relRow_congr {f g : Nat → Bool} {n : Nat} (h : ∀ j, j < n → f j = g j) : relRow f n = relRow g n := by
  refine Nat.eq_of_testBit_eq fun j => ?_
  rw [relRow_testBit, relRow_testBit]
  by_cases hj : j < n
  · rw [h j hj]
  · simp [hj]
theorem relRow_zero {n : Nat} : relRow (fun _ => false) n = 0 := by
  refine Nat.eq_of_testBit_eq fun j => ?_
  rw [relRow_testBit]; simp
theorem relL_none (n : Nat) : relL n (fun _ _ => false) = List.replicate n 0 := by
  refine List.ext_getElem (by simp [relL_length]) fun i h1 h2 => ?_
  have h3 : i < n := by rw [relL_length] at h1; exact h1
  have e := rd_relL n (fun _ _ => false) h3
  rw [rd_get h1, relRow_zero] at e
  rw [e]; simp
theorem relL_set {n : Nat} {is : Nat → Nat → Bool} {i : Nat} (hi : i < n) (f : Nat → Bool) : (relL n is).set i ((relRow f n : Nat) : Int) = relL n (fun a b => if a = i then f b else is a b) := by
  refine List.ext_getElem (by simp [relL_length]) fun j h1 h2 => ?_
  have h3 : j < n := by rw [relL_length] at h2; exact h2
  rw [List.getElem_set, ← rd_get h2, rd_relL n _ h3]
  by_cases e : i = j
  · subst e
    simp
  · rw [if_neg e, ← rd_get (by rw [relL_length]; exact h3), rd_relL n _ h3]
    exact congrArg (fun (x : Nat) => (x : Int)) (relRow_congr fun b _ => by show is j b = if j = i then f b else is j b; rw [if_neg (by omega)])
/-- a mark more. -/
theorem relL_mark {n : Nat} (hn : n ≤ 60) {is : Nat → Nat → Bool} {i j : Nat} (hi : i < n) (hj : j < n) : (relL n is).set i (Go.bits .or .i64 (rd (relL n is) (i : Int)) (shl .i64 1 (j : Int))) = relL n (fun a b => is a b || (decide (a = i) && decide (b = j))) := by
  rw [rd_relL n is hi, shl_one (by omega), or_nat (relRow_lt62 _ hn) (two_lt (by omega))]
  have e : relRow (is i) n ||| 2 ^ j = relRow (fun b => is i b || decide (b = j)) n := by
    refine Nat.eq_of_testBit_eq fun k => ?_
    rw [Nat.testBit_or, relRow_testBit, relRow_testBit, Nat.testBit_two_pow]
    by_cases hk : k < n
    · by_cases hkj : j = k
      · subst hkj; simp [hk]
      · simp [hk, hkj, show ¬ k = j from fun h => hkj h.symm]
    · simp [hk, show ¬ j = k by omega]
  rw [e, relL_set hi]
  refine relL_congr fun a b ha hb => ?_
  by_cases h : a = i
  · subst h; simp
  · simp [h]
/-- a row more in a row. -/
theorem relL_or {n : Nat} (hn : n ≤ 60) {is : Nat → Nat → Bool} {i k : Nat} (hi : i < n) (hk : k < n) : (relL n is).set i (Go.bits .or .i64 (rd (relL n is) (i : Int)) (rd (relL n is) (k : Int))) = relL n (fun a b => is a b || (decide (a = i) && is k b)) := by
  rw [rd_relL n is hi, rd_relL n is hk, or_nat (relRow_lt62 _ hn) (relRow_lt62 _ hn)]
  have e : relRow (is i) n ||| relRow (is k) n = relRow (fun b => is i b || is k b) n := by
    refine Nat.eq_of_testBit_eq fun j => ?_
    rw [Nat.testBit_or, relRow_testBit, relRow_testBit, relRow_testBit]
    cases decide (j < n) <;> simp
  rw [e, relL_set hi]
  refine relL_congr fun a b ha hb => ?_
  by_cases h : a = i
  · subst h; simp
  · simp [h]
/-- a relation that came in is the relation of its bits. -/
theorem okRel_eq {n : Nat} {l : List Int} (hl : l.length = n) (hn : n ≤ 60) (hb : ∀ x ∈ l, 0 ≤ x ∧ x < 2 ^ n) : l = relL n (bitAt l) := by
  refine List.ext_getElem (by rw [relL_length]; exact hl) fun i h1 h2 => ?_
  have h3 : i < n := by omega
  rw [← rd_get h2, rd_relL n _ h3]
  obtain ⟨a, b⟩ := hb l[i] (List.getElem_mem h1)
  obtain ⟨x, hx⟩ := Int.eq_ofNat_of_zero_le a
  rw [hx]
  have hlt : x < 2 ^ n := by rw [hx] at b; exact_mod_cast b
  congr 1
  refine Nat.eq_of_testBit_eq fun j => ?_
  rw [relRow_testBit]
  have e : bitAt l i j = x.testBit j := by
    unfold bitAt
    rw [List.getD_eq_getElem?_getD, List.getElem?_eq_getElem h1, Option.getD_some, hx, Int.toNat_natCast]
  rw [e]
  by_cases hj : j < n
  · simp [hj]
  · simp only [hj, decide_false, Bool.false_and]
    exact Nat.testBit_lt_two_pow (Nat.lt_of_lt_of_le hlt (Nat.pow_le_pow_right (by decide) (by omega)))
theorem rd_okRel {n : Nat} {l : List Int} (hl : l.length = n) (hn : n ≤ 60) (hb : ∀ x ∈ l, 0 ≤ x ∧ x < 2 ^ n) {i : Nat} (hi : i < n) : rd l (i : Int) = ((relRow (bitAt l i) n : Nat) : Int) := by
  have h := okRel_eq hl hn hb
  have e : rd l (i : Int) = rd (relL n (bitAt l)) (i : Int) := by rw [← h]
  rw [e, rd_relL n _ hi]
end Go.Proofs.YthfkdgecclnffaaDoor.L

/-! ### PuParseI -/
/- Plain laws: the rows of a text, read by the program. -/
namespace Go.Proofs.YthfkdgecclnffaaDoor.P
open Go.RowKit Go.Proofs.YthfkdgecclnffaaDoorW.PrintWords Go.Proofs.YthfkdgecclnffaaDoorW.PrintLast Go.Proofs.YthfkdgecclnffaaDoorW.PrintMore L
set_option linter.unusedVariables false
set_option linter.unusedSimpArgs false
def rowAt (rs : List ByteArray) (a : Nat) : ByteArray := rdOf ByteArray.empty rs (a : Int)
def bitR (rs : List ByteArray) (a b : Nat) : Bool := decide (b < (rowAt rs a).size) && decide (bt (rowAt rs a) (b : Int) = 49)
theorem isRel_relLP {m : Nat} (hm : m ≤ 10) (is : Nat → Nat → Bool) : isRel (m : Int) (L.relL m is) = true := by
  refine (isRel_iff _ _).2 ⟨by omega, by omega, by rw [L.relL_length], fun x hx => ?_⟩
  rw [Int.toNat_natCast]
  obtain ⟨i, hi, e⟩ := List.mem_iff_getElem.1 hx
  rw [L.relL_length] at hi
  have e2 := L.rd_relL m is hi
  rw [L.rd_get (by rw [L.relL_length]; exact hi), e] at e2
  have := L.relRow_lt (is i) m
  rw [e2]
  refine ⟨by omega, ?_⟩
  have e3 : (2 : Int) ^ m = ((2 ^ m : Nat) : Int) := by norm_cast
  rw [e3]; omega
/-- where the reading stands: the rows ahead of i, and row i up to j. -/
def stB (rs : List ByteArray) (i j a b : Nat) : Bool := bitR rs a b && (decide (a < i) || (decide (a = i) && decide (b < j)))
theorem stB_next (rs : List ByteArray) (m i : Nat) : L.relL m (stB rs i (rowAt rs i).size) = L.relL m (stB rs (i + 1) 0) := by
  refine L.relL_congr fun a b ha hb => ?_
  unfold stB bitR
  by_cases h : a = i
  · subst h
    by_cases h2 : b < (rowAt rs a).size
    · simp [h2]
    · simp [h2]
  · by_cases h3 : a < i
    · simp [h3, show a < i + 1 by omega]
    · simp [h3, h, show ¬ a < i + 1 by omega]
theorem stB_skip (rs : List ByteArray) (m i j : Nat) (h : ¬ (i < m ∧ j < m ∧ bitR rs i j = true)) : L.relL m (stB rs i (j + 1)) = L.relL m (stB rs i j) := by
  refine L.relL_congr fun a b ha hb => ?_
  unfold stB
  by_cases h1 : a = i
  · subst h1
    by_cases h2 : b = j
    · subst h2
      have : bitR rs a b = false := by
        cases e : bitR rs a b with
        | false => rfl
        | true => exact absurd ⟨ha, hb, e⟩ h
      rw [this]; rfl
    · have e : decide (b < j + 1) = decide (b < j) := decide_eq_decide.2 (by omega)
      rw [e]
  · simp [h1]
theorem stB_mark (rs : List ByteArray) (m i j : Nat) (h : bitR rs i j = true) : L.relL m (stB rs i (j + 1)) = L.relL m (fun a b => stB rs i j a b || (decide (a = i) && decide (b = j))) := by
  refine L.relL_congr fun a b ha hb => ?_
  unfold stB
  by_cases h1 : a = i
  · subst h1
    by_cases h2 : b = j
    · subst h2; simp [h]
    · have e : decide (b < j + 1) = decide (b < j) := decide_eq_decide.2 (by omega)
      rw [e]; simp [h2]
  · simp [h1]
def failP : Int × List Int × Bool := (0, [], false)
def endP (s : ByteArray) (m : Nat) (l : List Int) : Int × List Int × Bool := if (textT l m m).toList = s.toList then ((m : Int), l, true) else failP
theorem parseRows_ev (s : ByteArray) (rs : List ByteArray) (m : Nat) (hm : m ≤ 10) (hr : rs.length ≤ 1048577) (hz : ∀ a, (rowAt rs a).size ≤ 1048576) :
    Ev (fun k => impl_ParseOrder.l0 k s (m : Int) rs (rs.length : Int) 0 (m : Int) (List.replicate (m : Int).toNat 0)) (endP s m (L.relL m (bitR rs))) := by
  have inner : ∀ i, i < rs.length → Ev (fun k => impl_ParseOrder.l0 k s (m : Int) rs (rs.length : Int) ((i + 1 : Nat) : Int) (m : Int) (L.relL m (stB rs (i + 1) 0))) (endP s m (L.relL m (bitR rs))) →
      ∀ j, j ≤ (rowAt rs i).size → Ev (fun k => impl_ParseOrder.l1 k s (m : Int) (i : Int) (rowAt rs i) rs (rs.length : Int) (i : Int) ((rowAt rs i).size : Int) (j : Int) (m : Int) (L.relL m (stB rs i j))) (endP s m (L.relL m (bitR rs))) := by
    intro i hi hk
    have hzi := hz i
    refine L.down ?_ fun j hj ih => ?_
    · refine L.Ev.succ ?_
      simp only [impl_ParseOrder.l1]
      rw [stB_next]
      refine L.Ev.ifn (by omega) ?_
      exact Ev.congr (fun k => by rw [L.w64n (by omega)]) hk
    · have hbit : bitR rs i j = decide (bt (rowAt rs i) (j : Int) = 49) := by unfold bitR; rw [decide_eq_true hj, Bool.true_and]
      refine L.Ev.succ ?_
      simp only [impl_ParseOrder.l1]
      rw [L.w64n (n := j) (by omega)]
      refine L.Ev.ifp (by omega) ?_
      by_cases h1 : i < m
      · refine L.Ev.ifp (by omega) ?_
        by_cases h2 : j < m
        · refine L.Ev.ifp (by omega) (L.Ev.ifp (by omega) (L.Ev.ifp (by omega) ?_))
          by_cases h3 : bt (rowAt rs i) (j : Int) = 49
          · refine L.Ev.ifp h3 (L.Ev.ifp (by omega) (L.Ev.ifp (by rw [L.relL_length]; omega) ?_))
            rw [Int.toNat_natCast, L.relL_mark (by omega) h1 h2, ← stB_mark rs m i j (by rw [hbit]; exact decide_eq_true h3)]
            exact ih
          · refine L.Ev.ifn h3 ?_
            rw [← stB_skip rs m i j (fun e => h3 (of_decide_eq_true (by rw [← hbit]; exact e.2.2)))]
            exact ih
        · refine L.Ev.ifn (by omega) ?_
          rw [← stB_skip rs m i j (fun e => h2 e.2.1)]
          exact ih
      · refine L.Ev.ifn (by omega) ?_
        rw [← stB_skip rs m i j (fun e => h1 e.1)]
        exact ih
  have outer : ∀ i, i ≤ rs.length → Ev (fun k => impl_ParseOrder.l0 k s (m : Int) rs (rs.length : Int) (i : Int) (m : Int) (L.relL m (stB rs i 0))) (endP s m (L.relL m (bitR rs))) := by
    refine L.down ?_ fun i hi ih => ?_
    · refine L.Ev.succ ?_
      simp only [impl_ParseOrder.l0]
      have e : L.relL m (stB rs rs.length 0) = L.relL m (bitR rs) := by
        refine L.relL_congr fun a b ha hb => ?_
        unfold stB
        by_cases h : a < rs.length
        · simp [h]
        · have h0 : rowAt rs a = ByteArray.empty := by
            unfold rowAt rdOf
            rw [Int.toNat_natCast, List.getD_eq_getElem?_getD, List.getElem?_eq_none (by omega)]; rfl
          have : bitR rs a b = false := by unfold bitR; rw [h0]; rfl
          rw [this]; rfl
      rw [e]
      refine L.Ev.ifn (by omega) (Ev.bind (orderText_ev (isRel_relLP hm _)) ?_)
      unfold endP
      by_cases h : (textT (L.relL m (bitR rs)) m m).toList = s.toList
      · simp only [if_pos h]; exact Ev.now _
      · simp only [if_neg h]; exact Ev.now _
    · refine L.Ev.succ ?_
      simp only [impl_ParseOrder.l0]
      exact L.Ev.ifp (by omega) (L.Ev.ifp (by omega) (L.Ev.ifp (by omega) (inner i hi ih 0 (by omega))))
  have h0 := outer 0 (by omega)
  have e0 : L.relL m (stB rs 0 0) = List.replicate (m : Int).toNat 0 := by
    rw [Int.toNat_natCast, ← L.relL_none]
    refine L.relL_congr fun a b ha hb => ?_
    unfold stB; simp
  rw [e0] at h0
  exact h0
theorem ba_len (s : ByteArray) : s.size = s.data.toList.length := ba_size s
theorem cut_sizes (s sep : ByteArray) : (cutA s sep).size ≤ s.size ∧ (cutB s sep).size ≤ s.size := by
  have hA : (cutA s sep).size = (Lib.cut s.data.toList sep.data.toList).1.length := by unfold cutA; simp [ByteArray.size]
  have hB : (cutB s sep).size = (Lib.cut s.data.toList sep.data.toList).2.1.length := by unfold cutB; simp [ByteArray.size]
  rw [hA, hB, ba_size s]
  unfold Lib.cut
  split
  · exact ⟨by simp only [List.length_take]; omega, by simp only [List.length_drop]; omega⟩
  · exact ⟨Nat.le_refl _, by simp⟩
theorem splitB_size (sep : ByteArray) : ∀ (k : Nat) (s : ByteArray), ∀ x ∈ Lib.splitB sep 0 k s, x.size ≤ s.size
  | 0, s, x, h => by
    rw [Lib.splitB_zero, List.mem_singleton] at h
    rw [h]; exact Nat.le_refl _
  | k + 1, s, x, h => by
    unfold Lib.splitB at h
    split at h
    · rw [List.mem_singleton] at h
      rw [h]; exact Nat.le_refl _
    · rcases List.mem_cons.1 h with e | e
      · rw [e, ByteArray.size_extract]; omega
      · have := splitB_size sep k _ x e
        rw [ByteArray.size_extract] at this; omega
theorem splitL_length (s : ByteArray) (c : UInt8) : (splitL s (one c)).length ≤ s.size + 1 := by
  unfold splitL
  have := Lib.splitB_length_le (one c) 0 (Lib.countB s (one c)) s
  have := Lib.countB_le (one c) (show 1 ≤ (one c).size from Nat.le_refl 1) s.size s (Nat.le_refl _)
  omega
theorem rowAt_size (s : ByteArray) (c : UInt8) (a : Nat) : (rowAt (splitL s (one c)) a).size ≤ s.size := by
  unfold rowAt rdOf
  rw [Int.toNat_natCast, List.getD_eq_getElem?_getD]
  by_cases h : a < (splitL s (one c)).length
  · rw [List.getElem?_eq_getElem h]
    exact splitB_size _ _ s _ (List.getElem_mem h)
  · rw [List.getElem?_eq_none (by omega)]; exact Nat.zero_le _
/-- what the program comes to. -/
def implP (s : ByteArray) : Int × List Int × Bool :=
  if atoiE (cutA s (one 58)) = false ∧ (0 ≤ atoiV (cutA s (one 58)) ∧ atoiV (cutA s (one 58)) ≤ 10) ∧ s.size ≤ 120 then
    endP s (atoiV (cutA s (one 58))).toNat (L.relL (atoiV (cutA s (one 58))).toNat (bitR (splitL (cutB s (one 58)) (one 47))))
  else failP
theorem implP_ev (s : ByteArray) (hs : s.size ≤ 1048576) : Ev (fun k => impl_ParseOrder.f k s) (implP s) := by
  obtain ⟨hA, hB⟩ := cut_sizes s (one 58)
  have hbad : ∀ (b x : Bool) (t : ByteArray) (v : Int), b = true → Ev (fun k => impl_ParseOrder.j0 k s t v b) failP := by
    intro b x t v hb
    refine L.Ev.succ ?_
    simp only [impl_ParseOrder.j0]
    exact L.Ev.ifp hb (Ev.now _)
  unfold impl_ParseOrder.f implP
  refine L.Ev.bindc (a := (cutA s (one 58), cutB s (one 58), cutF s (one 58))) (by unfold strings_Cut.f; rw [if_pos hs]; rfl) ?_
  refine L.Ev.bindc (a := (atoiV (cutA s (one 58)), if atoiE (cutA s (one 58)) then some 0 else none)) (by unfold strconv_Atoi.f; rw [if_pos (show (cutA s (one 58)).size ≤ 1048576 by omega)]) ?_
  dsimp only
  cases he : atoiE (cutA s (one 58)) with
  | true =>
    rw [if_neg (show ¬ (true = false ∧ (0 ≤ atoiV (cutA s (one 58)) ∧ atoiV (cutA s (one 58)) ≤ 10) ∧ s.size ≤ 120) by simp)]
    exact L.Ev.ifn (by simp) (hbad _ true _ _ rfl)
  | false =>
    refine L.Ev.ifp (by simp) (L.Ev.bindc (within_eq _ _ _) ?_)
    by_cases h1 : 0 ≤ atoiV (cutA s (one 58)) ∧ atoiV (cutA s (one 58)) ≤ 10
    · refine L.Ev.ifp (decide_eq_true h1) ?_
      by_cases h2 : s.size ≤ 120
      · rw [if_pos ⟨rfl, h1, h2⟩]
        obtain ⟨m, hm⟩ := Int.eq_ofNat_of_zero_le h1.1
        rw [hm]
        have hm10 : m ≤ 10 := by omega
        refine L.Ev.succ ?_
        simp only [impl_ParseOrder.j0]
        refine L.Ev.ifn (by rw [decide_eq_true_eq]; omega) (L.Ev.ifp (by omega) (L.Ev.ifp (by rw [Int.toNat_natCast]; omega) (L.Ev.bindc (a := splitL (cutB s (one 58)) (one 47)) (by unfold strings_Split.f; rw [if_pos ⟨by omega, Nat.le_refl 1⟩]; rfl) ?_)))
        have hl := splitL_length (cutB s (one 58)) 47
        exact parseRows_ev s _ m hm10 (by omega) (fun a => by have := rowAt_size (cutB s (one 58)) 47 a; omega)
      · rw [if_neg (show ¬ (false = false ∧ (0 ≤ atoiV (cutA s (one 58)) ∧ atoiV (cutA s (one 58)) ≤ 10) ∧ s.size ≤ 120) from fun e => h2 e.2.2)]
        exact hbad _ true _ _ (decide_eq_true (by omega))
    · rw [if_neg (show ¬ (false = false ∧ (0 ≤ atoiV (cutA s (one 58)) ∧ atoiV (cutA s (one 58)) ≤ 10) ∧ s.size ≤ 120) from fun e => h1 e.2.1)]
      exact L.Ev.ifn (by rw [decide_eq_true_eq]; exact h1) (hbad _ true _ _ rfl)
end Go.Proofs.YthfkdgecclnffaaDoor.P

/-! ### PuSplitS -/
/- Plain laws: the reference's split of a text at a byte is the library's. -/
namespace Go.Proofs.YthfkdgecclnffaaDoor.P
open Go.RowKit Go.Proofs.YthfkdgecclnffaaDoorW.PrintWords Go.Proofs.YthfkdgecclnffaaDoorW.PrintLast Go.Proofs.YthfkdgecclnffaaDoorW.PrintMore L
set_option linter.unusedVariables false
set_option linter.unusedSimpArgs false
def sgo (s : ByteArray) (c : Int) : Nat → List ByteArray → Nat → Nat → List ByteArray
  | 0, out, fr, i => out ++ [s.extract fr s.size]
  | d + 1, out, fr, i => if bt s (i : Int) = c then sgo s c d (out ++ [s.extract fr i]) (i + 1) (i + 1) else sgo s c d out fr (i + 1)
theorem sgo_succ (s : ByteArray) (c : Int) (d : Nat) (out : List ByteArray) (fr i : Nat) : sgo s c (d + 1) out fr i = if bt s (i : Int) = c then sgo s c d (out ++ [s.extract fr i]) (i + 1) (i + 1) else sgo s c d out fr (i + 1) := rfl
theorem sgo_loop (s : ByteArray) (c : Int) (hs : s.size ≤ 1048576) : ∀ (d : Nat) (out : List ByteArray) (fr i : Nat), i + d = s.size → fr ≤ i → out.length ≤ i →
    Ev (fun k => spec_l1Split.l0 k s c out (fr : Int) (i : Int)) (sgo s c d out fr i) := by
  intro d
  induction d with
  | zero =>
    intro out fr i h1 h2 h3
    refine L.Ev.succ ?_
    simp only [spec_l1Split.l0]
    unfold sgo
    rw [Int.toNat_natCast]
    exact L.Ev.ifn (by omega) (L.Ev.ifp (by omega) (L.Ev.ifp (by omega) (L.Ev.ifp (by omega) (Ev.now _))))
  | succ d ih =>
    intro out fr i h1 h2 h3
    refine L.Ev.succ ?_
    simp only [spec_l1Split.l0]
    unfold sgo
    rw [Int.toNat_natCast, Int.toNat_natCast, L.w64n (by omega)]
    refine L.Ev.ifp (by omega) (L.Ev.ifp (by omega) ?_)
    by_cases h : bt s (i : Int) = c
    · rw [if_pos h]
      refine L.Ev.ifp h (L.Ev.ifp (by omega) (L.Ev.ifp (by omega) (L.Ev.ifp (by omega) (L.Ev.ifp (by omega) ?_))))
      exact ih _ (i + 1) (i + 1) (by omega) (by omega) (by simp; omega)
    · rw [if_neg h]
      exact L.Ev.ifn h (ih _ fr (i + 1) (by omega) (by omega) (by omega))
theorem bt_list (s : ByteArray) (i : Nat) (h : i < s.data.toList.length) : bt s (i : Int) = ((s.data.toList[i]).toNat : Int) := by
  have h2 : i < s.size := by rw [ba_size]; exact h
  unfold bt
  rw [Int.toNat_natCast, dif_pos h2]
  rfl
theorem sgo_seg (s : ByteArray) (c : Int) : ∀ (n d : Nat) (out : List ByteArray) (fr i : Nat), (∀ k, k < n → bt s ((i + k : Nat) : Int) ≠ c) → sgo s c (n + d) out fr i = sgo s c d out fr (i + n)
  | 0, d, out, fr, i, _ => by rw [Nat.zero_add]; rfl
  | n + 1, d, out, fr, i, h => by
    rw [show n + 1 + d = (n + d) + 1 by omega, sgo_succ]
    have h0 := h 0 (by omega)
    rw [Nat.add_zero] at h0
    rw [if_neg h0, sgo_seg s c n d out fr (i + 1) (fun k hk => by have := h (k + 1) (by omega); rwa [show i + (k + 1) = i + 1 + k by omega] at this), show i + 1 + n = i + (n + 1) by omega]
theorem toNat_ne {x c : UInt8} (h : x ≠ c) : ((x.toNat : Nat) : Int) ≠ ((c.toNat : Nat) : Int) := fun e => h (UInt8.toNat_inj.1 (by omega))
theorem get_app (p t : List UInt8) (i n : Nat) (hn : n = p.length) (h : i < t.length) (h2 : n + i < (p ++ t).length) : (p ++ t)[n + i]'h2 = t[i] := by
  subst hn
  rw [List.getElem_append_right (by omega)]
  congr 1
  omega
theorem bt_app (P t : ByteArray) (k : Nat) (h : k < t.size) : bt (P ++ t) ((P.size + k : Nat) : Int) = bt t (k : Int) := by
  have h1 : k < t.data.toList.length := by rw [← ba_size]; exact h
  have h2 : P.size + k < (P.data.toList ++ t.data.toList).length := by rw [List.length_append, ← ba_size P]; omega
  rw [bt_list (P ++ t) (P.size + k) (by rw [ba_app]; exact h2), bt_list t k h1]
  simp only [ba_app]
  rw [get_app _ _ k P.size (ba_size P) h1 h2]
theorem bt_left (A X : ByteArray) (k : Nat) (h : k < A.size) : bt (A ++ X) (k : Int) = bt A (k : Int) := by
  have h1 : k < A.data.toList.length := by rw [← ba_size]; exact h
  have h2 : k < (A.data.toList ++ X.data.toList).length := by rw [List.length_append]; omega
  rw [bt_list (A ++ X) k (by rw [ba_app]; exact h2), bt_list A k h1]
  simp only [ba_app]
  rw [List.getElem_append_left h1]
theorem bt_ne {A : ByteArray} {c : UInt8} (h : c ∉ A.data.toList) {k : Nat} (hk : k < A.size) : bt A (k : Int) ≠ ((c.toNat : Nat) : Int) := by
  have h1 : k < A.data.toList.length := by rw [← ba_size]; exact hk
  rw [bt_list A k h1]
  exact toNat_ne fun e => h (by rw [← e]; exact List.getElem_mem _)
theorem bt_one (c : UInt8) : bt (one c) ((0 : Nat) : Int) = ((c.toNat : Nat) : Int) := rfl
theorem extract_mid (P A X : ByteArray) : (P ++ (A ++ X)).extract P.size (P.size + A.size) = A := by
  refine ba_ext ?_
  rw [ByteArray.data_extract, Array.toList_extract]
  have hl : (P ++ (A ++ X)).data.toList = P.data.toList ++ (A.data.toList ++ X.data.toList) := by rw [ba_app, ba_app]
  rw [hl, List.extract_eq_take_drop, ba_size P, ba_size A, List.drop_left, Nat.add_sub_cancel_left, List.take_left]
theorem sgo_split (c : UInt8) : ∀ (n : Nat) (t P : ByteArray) (out : List ByteArray), t.size ≤ n → sgo (P ++ t) ((c.toNat : Nat) : Int) t.size out P.size P.size = out ++ splitL t (one c) := by
  intro n
  induction n with
  | zero =>
    intro t P out ht
    have e : t.data.toList = [] := List.eq_nil_of_length_eq_zero (by rw [← ba_size]; omega)
    rw [splitL_no c t (by rw [e]; simp), show t.size = 0 by omega]
    show out ++ [(P ++ t).extract P.size (P ++ t).size] = _
    rw [extract_right P t _ rfl]
  | succ n ih =>
    intro t P out ht
    by_cases h : c ∈ t.data.toList
    · obtain ⟨a, b, e, ha⟩ := List.eq_append_cons_of_mem h
      obtain ⟨A, rfl⟩ : ∃ A : ByteArray, A.data.toList = a := ⟨⟨a.toArray⟩, rfl⟩
      obtain ⟨B, rfl⟩ : ∃ B : ByteArray, B.data.toList = b := ⟨⟨b.toArray⟩, rfl⟩
      have et : t = A ++ one c ++ B := ba_ext (by rw [e, ba_app, ba_app, List.append_assoc]; rfl)
      subst et
      have o1 : (one c).size = 1 := rfl
      have hsz : (A ++ one c ++ B).size = A.size + (1 + B.size) := by rw [ByteArray.size_append, ByteArray.size_append, o1]; omega
      rw [splitL_at c A B ha, hsz, sgo_seg _ _ A.size (1 + B.size) out P.size P.size (fun k hk => by
        rw [bt_app _ _ k (by rw [hsz]; omega), ByteArray.append_assoc, bt_left _ _ k hk]
        exact bt_ne ha hk), Nat.add_comm 1, sgo_succ]
      have hc : bt (P ++ (A ++ one c ++ B)) ((P.size + A.size : Nat) : Int) = ((c.toNat : Nat) : Int) := by
        have q := bt_app A (one c) 0 (by rw [o1]; omega)
        rw [Nat.add_zero] at q
        rw [bt_app _ _ A.size (by rw [hsz]; omega), bt_left (A ++ one c) B A.size (by rw [ByteArray.size_append, o1]; omega), q, bt_one]
      have e3 : P ++ (A ++ one c ++ B) = (P ++ A ++ one c) ++ B := by simp only [ByteArray.append_assoc]
      have e4 : (P ++ A ++ one c).size = P.size + A.size + 1 := by rw [ByteArray.size_append, ByteArray.size_append, o1]
      have e5 : (P ++ (A ++ one c ++ B)).extract P.size (P.size + A.size) = A := by rw [ByteArray.append_assoc]; exact extract_mid P A _
      rw [if_pos hc, e5, e3, ← e4, ih B (P ++ A ++ one c) (out ++ [A]) (by omega), List.append_assoc]
      rfl
    · rw [splitL_no c t h]
      have := sgo_seg (P ++ t) ((c.toNat : Nat) : Int) t.size 0 out P.size P.size (fun k hk => by
        rw [bt_app _ _ k hk]
        exact bt_ne h hk)
      rw [Nat.add_zero] at this
      rw [this]
      show out ++ [(P ++ t).extract P.size (P ++ t).size] = _
      rw [extract_right P t _ rfl]
theorem l1Split_ev (s : ByteArray) (c : UInt8) (hs : s.size ≤ 1048576) : Ev (fun k => spec_l1Split.f k s ((c.toNat : Nat) : Int)) (splitL s (one c)) := by
  have h := sgo_loop s ((c.toNat : Nat) : Int) hs s.size [] 0 0 (by omega) (by omega) (by simp)
  have e := sgo_split c s.size s (⟨#[]⟩ : ByteArray) [] (Nat.le_refl _)
  have e2 : (⟨#[]⟩ : ByteArray) ++ s = s := ba_ext (by rw [ba_app]; simp)
  rw [e2, List.nil_append] at e
  rw [← e]
  exact h
end Go.Proofs.YthfkdgecclnffaaDoor.P

/-! ### PuRead -/
/- Plain laws: the reference's number of a text. -/
namespace Go.Proofs.YthfkdgecclnffaaDoor.P
open Go.RowKit Go.Proofs.YthfkdgecclnffaaDoorW.PrintWords Go.Proofs.YthfkdgecclnffaaDoorW.PrintLast Go.Proofs.YthfkdgecclnffaaDoorW.PrintMore L
set_option linter.unusedVariables false
set_option linter.unusedSimpArgs false
def rgo (s : ByteArray) : Nat → Int → Nat → Int
  | 0, x, _ => x
  | d + 1, x, i => if bt s (i : Int) < 48 then -1 else if bt s (i : Int) > 57 then -1 else rgo s d (wrap64 (wrap64 (10 * x) + (bt s (i : Int) - 48) % 256)) (i + 1)
def readV (s : ByteArray) : Int := if 1 ≤ s.size ∧ s.size ≤ 6 then (if bt s 0 = 48 ∧ 1 < s.size then -1 else rgo s s.size 0 0) else -1
theorem rgo_ev (s : ByteArray) (hs : s.size ≤ 1048576) : ∀ (d : Nat) (x : Int) (i : Nat), i + d = s.size → Ev (fun k => spec_l1Read.l0 k s x (i : Int)) (rgo s d x i) := by
  intro d
  induction d with
  | zero =>
    intro x i h
    refine L.Ev.succ ?_
    simp only [spec_l1Read.l0]
    unfold rgo
    exact L.Ev.ifn (by omega) (Ev.now _)
  | succ d ih =>
    intro x i h
    refine L.Ev.succ ?_
    simp only [spec_l1Read.l0]
    unfold rgo
    rw [L.w64n (by omega)]
    refine L.Ev.ifp (by omega) (L.Ev.ifp (by omega) ?_)
    by_cases h1 : bt s (i : Int) < 48
    · rw [if_pos h1]; exact L.Ev.ifp h1 (Ev.now _)
    · rw [if_neg h1]
      refine L.Ev.ifn h1 ?_
      by_cases h2 : bt s (i : Int) > 57
      · rw [if_pos h2]; exact L.Ev.ifp h2 (Ev.now _)
      · rw [if_neg h2]; exact L.Ev.ifn h2 (ih _ (i + 1) (by omega))
theorem l1Read_ev (s : ByteArray) (hs : s.size ≤ 1048576) : Ev (fun k => spec_l1Read.f k s) (readV s) := by
  have hbad : ∀ b : Bool, b = true → Ev (fun k => spec_l1Read.j0 k s b) (-1) := by
    intro b hb
    refine L.Ev.succ ?_
    simp only [spec_l1Read.j0]
    exact L.Ev.ifp hb (Ev.now _)
  have hgood : ∀ b : Bool, b = false → Ev (fun k => spec_l1Read.j0 k s b) (rgo s s.size 0 0) := by
    intro b hb
    refine L.Ev.succ ?_
    simp only [spec_l1Read.j0]
    exact L.Ev.ifn (by rw [hb]; simp) (rgo_ev s hs s.size 0 0 (by omega))
  unfold spec_l1Read.f readV
  refine L.Ev.bindc (l1In_eq _ _ _) ?_
  by_cases h : 1 ≤ s.size ∧ s.size ≤ 6
  · rw [if_pos h]
    refine L.Ev.ifp (by simp; omega) (L.Ev.ifp (by omega) ?_)
    by_cases h0 : bt s 0 = 48
    · refine L.Ev.ifp h0 ?_
      by_cases h1 : 1 < s.size
      · rw [if_pos ⟨h0, h1⟩]; exact hbad _ (decide_eq_true (by omega))
      · rw [if_neg (fun e => h1 e.2)]; exact hgood _ (decide_eq_false (by omega))
    · rw [if_neg (fun e => h0 e.1)]
      exact L.Ev.ifn h0 (hgood _ rfl)
  · rw [if_neg h]
    exact L.Ev.ifn (by simp; omega) (hbad _ rfl)
theorem readV_itoa : ∀ m : Nat, m ≤ 10 → readV (itoaB m) = (m : Int) := by
  intro m hm
  have w : ∀ x : Int, -1000 ≤ x → x ≤ 1000 → wrap64 x = x := fun x h0 h1 => L.w64 (by omega) (by omega)
  by_cases h : m < 10
  · have e : itoaB m = ⟨#[UInt8.ofNat (48 + m)]⟩ := by unfold itoaB; rw [Lib.decDigits_one h]
    have hb : bt (itoaB m) 0 = 48 + (m : Int) := by
      rw [e]
      show (((UInt8.ofNat (48 + m)).toNat : Nat) : Int) = _
      rw [UInt8.toNat_ofNat']
      omega
    have hz : (itoaB m).size = 1 := by rw [e]; rfl
    unfold readV
    rw [hz, if_pos (by omega), if_neg (by omega)]
    show rgo (itoaB m) (0 + 1) 0 0 = _
    unfold rgo
    rw [show ((0 : Nat) : Int) = 0 from rfl, hb, if_neg (by omega), if_neg (by omega)]
    unfold rgo
    rw [w (10 * 0) (by omega) (by omega), w _ (by omega) (by omega)]
    omega
  · have e : m = 10 := by omega
    subst e
    have b0 : bt (itoaB 10) 0 = 49 := by decide +kernel
    have b1 : bt (itoaB 10) 1 = 48 := by decide +kernel
    have hz : (itoaB 10).size = 2 := by decide +kernel
    unfold readV
    rw [hz, if_pos (by omega), if_neg (by omega)]
    show rgo (itoaB 10) (1 + 1) 0 0 = _
    unfold rgo
    rw [show ((0 : Nat) : Int) = 0 from rfl, b0, if_neg (by omega), if_neg (by omega), w (10 * 0) (by omega) (by omega), w _ (by omega) (by omega)]
    show rgo (itoaB 10) (0 + 1) _ 1 = _
    unfold rgo
    rw [show ((1 : Nat) : Int) = 1 from rfl, b1, if_neg (by omega), if_neg (by omega)]
    unfold rgo
    rw [w (10 * (10 * 0 + (49 - 48) % 256)) (by omega) (by omega), w _ (by omega) (by omega)]
    omega
end Go.Proofs.YthfkdgecclnffaaDoor.P

/-! ### PuRel -/
/- Plain laws: which lists are relations, for the program and the reference alike; conditions: the numbers are 64-bit numbers. -/
namespace Go.Proofs.YthfkdgecclnffaaDoor.P
open Go.RowKit Go.Proofs.YthfkdgecclnffaaDoorW.PrintWords Go.Proofs.YthfkdgecclnffaaDoorW.PrintLast Go.Proofs.YthfkdgecclnffaaDoorW.PrintMore L
set_option linter.unusedVariables false
set_option linter.unusedSimpArgs false
/-- all of a list lie between two numbers. -/
def allIn (l : List Int) (b c : Int) : Bool := l.all fun x => decide (b ≤ x ∧ x ≤ c)
theorem allIn_iff (l : List Int) (b c : Int) : allIn l b c = true ↔ ∀ x ∈ l, b ≤ x ∧ x ≤ c := by simp [allIn]
theorem allIn_step (l : List Int) (b c : Int) (i : Nat) (hi : i < l.length) : allIn (l.drop i) b c = (decide (b ≤ l[i] ∧ l[i] ≤ c) && allIn (l.drop (i + 1)) b c) := by
  unfold allIn; rw [List.drop_eq_getElem_cons hi, List.all_cons]
theorem allWithin_ev (l : List Int) (b c : Int) (hl : l.length ≤ 9223372036854775806) : Ev (fun k => impl_allWithin.f k l b c) (allIn l b c) := by
  have key : ∀ i, i ≤ l.length → Ev (fun k => impl_allWithin.l0 k b c l (l.length : Int) (i : Int)) (allIn (l.drop i) b c) := by
    refine L.down ?_ fun i hi ih => ?_
    · refine L.Ev.succ ?_
      simp only [impl_allWithin.l0]
      refine L.Ev.ifn (by omega) ?_
      rw [List.drop_eq_nil_of_le (Nat.le_refl _)]
      exact Ev.now _
    · refine L.Ev.succ ?_
      simp only [impl_allWithin.l0]
      refine L.Ev.ifp (by omega) (L.Ev.ifp (by omega) (L.Ev.ifp (by omega) (L.Ev.bindc (within_eq _ _ _) ?_)))
      rw [allIn_step l b c i hi, L.rd_get hi]
      by_cases h : b ≤ l[i] ∧ l[i] ≤ c
      · refine L.Ev.ifp (by simpa using h) ?_
        simp only [h, and_self, decide_true, Bool.true_and]
        exact Ev.congr (fun k => by rw [L.w64n (by omega)]) ih
      · refine L.Ev.ifn (by simpa using h) ?_
        simp only [h, decide_false, Bool.false_and]
        exact Ev.now _
  exact key 0 (by omega)
theorem l1All_same : ∀ k a b c d e, spec_l1All.l0 k a b c d e = impl_allWithin.l0 k a b c d e := by
  intro k
  induction k with
  | zero => intros; rfl
  | succ k ih => intro a b c d e; simp only [spec_l1All.l0, impl_allWithin.l0, ih, l1In_eq, within_eq]
theorem l1All_ev (l : List Int) (b c : Int) (hl : l.length ≤ 9223372036854775806) : Ev (fun k => spec_l1All.f k l b c) (allIn l b c) :=
  Ev.congr (fun k => l1All_same k b c l _ _) (allWithin_ev l b c hl)
theorem IsRelation_ev (n : Int) (l : List Int) (hl : l.length ≤ 9223372036854775806) : Ev (fun k => impl_IsRelation.f k n l) (isRel n l) := by
  unfold impl_IsRelation.f
  refine L.Ev.bindc (within_eq _ _ _) ?_
  by_cases h : 0 ≤ n ∧ n ≤ 10
  · refine L.Ev.ifp (by simpa using h) ?_
    by_cases h2 : (l.length : Int) = n
    · refine L.Ev.ifp h2 (L.Ev.ifp h.1 ?_)
      obtain ⟨m, rfl⟩ := Int.eq_ofNat_of_zero_le h.1
      have e : wrap64 (shl .i64 1 (m : Int) - 1) = 2 ^ m - 1 := by
        rw [L.shl_one (by omega)]
        have h1 : (2 : Nat) ^ m ≤ 2 ^ 10 := Nat.pow_le_pow_right (by decide) (by omega)
        have e3 : ((2 ^ m : Nat) : Int) = 2 ^ m := by push_cast; rfl
        rw [← e3]
        generalize (2 : Nat) ^ m = z at *
        rw [L.w64 (by omega) (by omega)]
      have e2 : isRel (m : Int) l = allIn l 0 (2 ^ m - 1) := by
        rw [Bool.eq_iff_iff, isRel_iff, allIn_iff, Int.toNat_natCast]
        constructor
        · rintro ⟨_, _, _, h4⟩ x hx
          have := h4 x hx
          omega
        · intro h4
          refine ⟨h.1, h.2, h2, fun x hx => ?_⟩
          have := h4 x hx
          omega
      refine Ev.congr (fun k => ?_) (Ev.bind (allWithin_ev l 0 (2 ^ m - 1) hl) (f := fun _ t => some t) (r := isRel (m : Int) l) (by rw [e2]; exact Ev.now _))
      rw [e]
    · refine L.Ev.ifn h2 ?_
      have e : isRel n l = false := by
        rw [← Bool.not_eq_true, isRel_iff]; rintro ⟨_, _, h3, _⟩; exact h2 h3
      rw [e]; exact Ev.now _
  · refine L.Ev.ifn (by simpa using h) ?_
    have e : isRel n l = false := by
      rw [← Bool.not_eq_true, isRel_iff]; rintro ⟨h3, h4, _⟩; exact h ⟨h3, h4⟩
    rw [e]; exact Ev.now _
theorem orRelation_ev (n : Int) (l : List Int) (hl : l.length ≤ 9223372036854775806) : Ev (fun k => spec_orRelation.f k n l) (isRel n l) := by
  refine Ev.congr (fun k => ?_) (IsRelation_ev n l hl)
  unfold spec_orRelation.f impl_IsRelation.f
  simp only [l1In_eq, within_eq]
  have e : ∀ b c, spec_l1All.f k l b c = impl_allWithin.f k l b c := fun b c => l1All_same k b c l _ _
  simp only [e]
end Go.Proofs.YthfkdgecclnffaaDoor.P

/-! ### PuParseS -/
/- Plain laws: what the reference's ParseOrder comes to. -/
namespace Go.Proofs.YthfkdgecclnffaaDoor.P
open Go.RowKit Go.Proofs.YthfkdgecclnffaaDoorW.PrintWords Go.Proofs.YthfkdgecclnffaaDoorW.PrintLast Go.Proofs.YthfkdgecclnffaaDoorW.PrintMore L
set_option linter.unusedVariables false
set_option linter.unusedSimpArgs false
def setR (rs : List ByteArray) (i : Nat) : Nat := L.relRow (bitR rs i) (min (rowAt rs i).size 10)
def listR (n : Int) (rs : List ByteArray) (i : Nat) : List Int := if n > 0 then L.cast ((List.range i).map (setR rs)) else []
theorem listR_length (n : Int) (rs : List ByteArray) (i : Nat) : (listR n rs i).length ≤ i := by
  unfold listR
  split
  · rw [L.cast_length]; simp
  · simp
def endS (s : ByteArray) (n : Int) (l : List Int) : Int × List Int × Bool := if isRel n l = true then (if (textT l n.toNat n.toNat).toList = s.toList then (n, l, true) else failP) else failP
theorem parseS_ev (s : ByteArray) (rs : List ByteArray) (n : Int) (hr : rs.length ≤ 1048577) (hz : ∀ a, (rowAt rs a).size ≤ 1048576) :
    Ev (fun k => spec_ParseOrder.l0 k s rs (rs.length : Int) 0 n ([] : List Int)) (endS s n (listR n rs rs.length)) := by
  have inner : ∀ i, i < rs.length → Ev (fun k => spec_ParseOrder.l0 k s rs (rs.length : Int) ((i + 1 : Nat) : Int) n (listR n rs (i + 1))) (endS s n (listR n rs rs.length)) →
      ∀ j, j ≤ min (rowAt rs i).size 10 → Ev (fun k => spec_ParseOrder.l1 k s (rowAt rs i) ((L.relRow (bitR rs i) j : Nat) : Int) (j : Int) rs (rs.length : Int) (i : Int) n (listR n rs i)) (endS s n (listR n rs rs.length)) := by
    intro i hi hk
    have hzi := hz i
    have hll := listR_length n rs i
    have fin : ∀ b : Bool, b = false → Ev (fun k => spec_ParseOrder.j3 k s (rowAt rs i) ((setR rs i : Nat) : Int) ((min (rowAt rs i).size 10 : Nat) : Int) rs (rs.length : Int) (i : Int) b n (listR n rs i)) (endS s n (listR n rs rs.length)) := by
      intro b hb
      refine L.Ev.succ ?_
      simp only [spec_ParseOrder.j3]
      refine L.Ev.ifn (by rw [hb]; simp) ?_
      rw [L.w64n (n := i) (by omega)]
      by_cases hn : n > 0
      · have e : listR n rs i ++ [((setR rs i : Nat) : Int)] = listR n rs (i + 1) := by
          unfold listR
          rw [if_pos hn, if_pos hn, List.range_succ, List.map_append, L.cast_append]; rfl
        rw [e]
        exact L.Ev.ifp hn (L.Ev.ifp (by omega) hk)
      · have e : listR n rs i = listR n rs (i + 1) := by unfold listR; rw [if_neg hn, if_neg hn]
        rw [← e] at hk
        exact L.Ev.ifn hn hk
    refine L.down ?_ fun j hj ih => ?_
    · refine L.Ev.succ ?_
      simp only [spec_ParseOrder.l1]
      by_cases h : min (rowAt rs i).size 10 < (rowAt rs i).size
      · exact L.Ev.ifp (by omega) (fin _ (decide_eq_false (by omega)))
      · exact L.Ev.ifn (by omega) (fin _ rfl)
    · have hjs : j < (rowAt rs i).size := by omega
      have hbit : bitR rs i j = decide (bt (rowAt rs i) (j : Int) = 49) := by unfold bitR; rw [decide_eq_true hjs, Bool.true_and]
      refine L.Ev.succ ?_
      simp only [spec_ParseOrder.l1]
      refine L.Ev.ifp (by omega) (L.Ev.succ ?_)
      simp only [spec_ParseOrder.j3]
      rw [L.w64n (n := j) (by omega)]
      refine L.Ev.ifp (decide_eq_true (by omega)) (L.Ev.ifp (by omega) (L.Ev.ifp (by omega) ?_))
      by_cases h3 : bt (rowAt rs i) (j : Int) = 49
      · refine L.Ev.ifp h3 ?_
        rw [L.row_yes (f := bitR rs i) (by rw [hbit]; exact decide_eq_true h3) (by omega)]
        exact ih
      · refine L.Ev.ifn h3 ?_
        rw [L.row_no (f := bitR rs i) (j := j) (by rw [hbit]; exact decide_eq_false h3)]
        exact ih
  have outer : ∀ i, i ≤ rs.length → Ev (fun k => spec_ParseOrder.l0 k s rs (rs.length : Int) (i : Int) n (listR n rs i)) (endS s n (listR n rs rs.length)) := by
    refine L.down ?_ fun i hi ih => ?_
    · have hll := listR_length n rs rs.length
      refine L.Ev.succ ?_
      simp only [spec_ParseOrder.l0]
      refine L.Ev.ifn (by omega) (Ev.bind (orRelation_ev n _ (by omega)) ?_)
      unfold endS
      cases h : isRel n (listR n rs rs.length) with
      | false => exact L.Ev.ifn (by simp) (by rw [if_neg (by simp)]; exact Ev.now _)
      | true =>
        obtain ⟨m, hm, hm10, hlm⟩ := isRel_nat h
        generalize listR n rs rs.length = l at h hlm
        subst hm
        rw [if_pos rfl]
        refine L.Ev.ifp rfl (Ev.bind (orText_ev h) ?_)
        rw [Int.toNat_natCast]
        by_cases ht : (textT l m m).toList = s.toList
        · simp only [if_pos ht]; exact Ev.now _
        · simp only [if_neg ht]; exact Ev.now _
    · refine L.Ev.succ ?_
      simp only [spec_ParseOrder.l0]
      exact L.Ev.ifp (by omega) (L.Ev.ifp (by omega) (L.Ev.ifp (by omega) (inner i hi ih 0 (by omega))))
  have h0 := outer 0 (by omega)
  have e0 : listR n rs 0 = [] := by unfold listR; split <;> rfl
  rw [e0] at h0
  exact h0
def partsOf (s : ByteArray) : List ByteArray := splitL s (one 58)
/-- what the reference comes to. -/
def specP (s : ByteArray) : Int × List Int × Bool :=
  if (partsOf s).length = 2 ∧ (0 ≤ readV (rowAt (partsOf s) 0) ∧ readV (rowAt (partsOf s) 0) ≤ 10) then
    endS s (readV (rowAt (partsOf s) 0)) (listR (readV (rowAt (partsOf s) 0)) (splitL (rowAt (partsOf s) 1) (one 47)) (splitL (rowAt (partsOf s) 1) (one 47)).length)
  else failP
theorem specP_ev (s : ByteArray) (hs : s.size ≤ 1048576) : Ev (fun k => spec_ParseOrder.f k s) (specP s) := by
  have z0 := rowAt_size s 58 0
  have z1 := rowAt_size s 58 1
  have hpos : 0 < (partsOf s).length := by
    unfold partsOf splitL
    rw [Lib.splitB_all (one 58) (Nat.le_refl 1) 0 _ s rfl]; omega
  have hbad : ∀ (b : Bool) (v : Int), b = true → Ev (fun k => spec_ParseOrder.j0 k s (partsOf s) b v) failP := by
    intro b v hb
    refine L.Ev.succ ?_
    simp only [spec_ParseOrder.j0]
    exact L.Ev.ifp hb (Ev.now _)
  have hsp : Ev (fun k => spec_l1Split.f k s 58) (partsOf s) := l1Split_ev s 58 hs
  unfold spec_ParseOrder.f specP
  refine Ev.bind hsp (L.Ev.ifp (by omega) (Ev.bind (a := readV (rowAt (partsOf s) 0)) (l1Read_ev _ (show (rowAt (partsOf s) 0).size ≤ 1048576 by unfold partsOf; omega)) ?_))
  by_cases h2 : (partsOf s).length = 2
  · refine L.Ev.ifp (by omega) (L.Ev.bindc (l1In_eq _ _ _) ?_)
    by_cases h1 : 0 ≤ readV (rowAt (partsOf s) 0) ∧ readV (rowAt (partsOf s) 0) ≤ 10
    · rw [if_pos ⟨h2, h1⟩]
      have hsp2 : Ev (fun k => spec_l1Split.f k (rowAt (partsOf s) 1) 47) (splitL (rowAt (partsOf s) 1) (one 47)) := l1Split_ev _ 47 (show (rowAt (partsOf s) 1).size ≤ 1048576 by unfold partsOf; omega)
      refine L.Ev.succ ?_
      simp only [spec_ParseOrder.j0]
      refine L.Ev.ifn (by rw [decide_eq_true h1]; simp) (L.Ev.ifp (by omega) (Ev.bind hsp2 ?_))
      have hl := splitL_length (rowAt (partsOf s) 1) 47
      exact parseS_ev s _ _ (by unfold partsOf at *; omega) (fun a => by have := rowAt_size (rowAt (partsOf s) 1) 47 a; unfold partsOf at *; omega)
    · rw [if_neg (fun e => h1 e.2)]
      exact hbad _ _ (by rw [decide_eq_false h1]; rfl)
  · rw [if_neg (fun e => h2 e.1)]
    exact L.Ev.ifn (by omega) (hbad _ _ rfl)
end Go.Proofs.YthfkdgecclnffaaDoor.P

/-! ### BoParseOrder -/
/- What ParseOrder comes to, in the program and in the reference: both give a relation just at its text. -/
namespace Go.Proofs.YthfkdgecclnffaaDoor.P
open Go.RowKit Go.Proofs.YthfkdgecclnffaaDoorW.PrintWords Go.Proofs.YthfkdgecclnffaaDoorW.PrintLast Go.Proofs.YthfkdgecclnffaaDoorW.PrintMore L
set_option linter.unusedVariables false
set_option linter.unusedSimpArgs false
theorem joinB_cons (x y : ByteArray) (ys : List ByteArray) (s : ByteArray) : joinB (x :: y :: ys) s = x ++ s ++ joinB (y :: ys) s := by
  refine ba_ext ?_
  rw [ba_app, ba_app, joinB_list, joinB_list, List.map_cons, List.map_cons, Lib.join_cons, Lib.join_cons]
  unfold Lib.joinTail
  simp
theorem splitL_join : ∀ xs : List ByteArray, xs ≠ [] → (∀ x ∈ xs, (47 : UInt8) ∉ x.data.toList) → splitL (joinB xs slash) (one 47) = xs
  | [], h, _ => absurd rfl h
  | [x], _, h => by rw [joinB_one, splitL_no 47 x (h x List.mem_cons_self)]
  | x :: y :: ys, _, h => by
    rw [joinB_cons]
    have := splitL_at 47 x (joinB (y :: ys) slash) (h x List.mem_cons_self)
    have ih := splitL_join (y :: ys) (by simp) (fun z hz => h z (List.mem_cons_of_mem _ hz))
    rw [ih] at this
    exact this
theorem bt_rowT (l : List Int) (i : Nat) : ∀ (j b : Nat), b < j → bt (rowT l i j) (b : Int) = if L.bitAt l i b then 49 else 48
  | 0, b, h => by omega
  | j + 1, b, h => by
    have hz := rowT_size l i j
    unfold rowT
    by_cases hb : b < j
    · rw [bt_left _ _ b (by omega)]; exact bt_rowT l i j b hb
    · have e : b = j := by omega
      subst e
      have q := bt_app (rowT l i b) (if L.bitAt l i b then ⟨#[49]⟩ else ⟨#[48]⟩) 0 (by split <;> exact Nat.one_pos)
      rw [hz, Nat.add_zero] at q
      rw [q]
      cases L.bitAt l i b <;> rfl
theorem rest_mem (l : List Int) (m : Nat) : ∀ i, (58 : UInt8) ∉ (joinB (rowsT l m i) slash).data.toList
  | 0 => by rw [show rowsT l m 0 = [] from rfl, joinB_nil]; simp
  | i + 1 => by
    have hr : (58 : UInt8) ∉ (rowT l i m).data.toList := fun h => by rcases rowT_mem l i m _ h with e | e <;> cases e
    rw [rowsT_succ]
    cases i with
    | zero => rw [show rowsT l m 0 = [] from rfl, List.nil_append, joinB_one]; exact hr
    | succ i =>
      rw [joinB_snoc _ _ _ (by intro e; have := rowsT_length l m (i + 1); rw [e] at this; simp at this), ba_app, ba_app]
      have ih := rest_mem l m (i + 1)
      simp only [List.mem_append]
      rintro ((h | h) | h)
      · exact ih h
      · simp [slash] at h
      · exact hr h
def rowsOf (l : List Int) (m : Nat) : List ByteArray := if m = 0 then [⟨#[]⟩] else rowsT l m m
theorem rows_split (l : List Int) (m : Nat) : splitL (joinB (rowsT l m m) slash) (one 47) = rowsOf l m := by
  unfold rowsOf
  by_cases h : m = 0
  · subst h
    rw [if_pos rfl, show rowsT l 0 0 = [] from rfl, joinB_nil]
    exact splitL_no 47 _ (by simp)
  · rw [if_neg h]
    refine splitL_join _ (by intro e; have := rowsT_length l m m; rw [e] at this; simp at this; omega) (fun x hx => ?_)
    unfold rowsT at hx
    obtain ⟨a, _, rfl⟩ := List.mem_map.1 hx
    exact rowT_no l a m
theorem bitR_rows (l : List Int) (m a b : Nat) (ha : a < m) (hb : b < m) : bitR (rowsOf l m) a b = L.bitAt l a b := by
  have e : rowAt (rowsOf l m) a = rowT l a m := by
    unfold rowAt rdOf rowsOf
    rw [if_neg (by omega), Int.toNat_natCast, List.getD_eq_getElem?_getD]
    unfold rowsT
    rw [List.getElem?_map, List.getElem?_range ha]; rfl
  unfold bitR
  rw [e, rowT_size, decide_eq_true hb, Bool.true_and, bt_rowT l a m b hb]
  cases L.bitAt l a b <;> rfl
theorem rel_eq {m : Nat} {l : List Int} (h : isRel (m : Int) l = true) : L.relL m (L.bitAt l) = l := by
  obtain ⟨h1, h2⟩ := rel_len h
  have h3 := ((isRel_iff _ _).1 h).2.2.2
  rw [Int.toNat_natCast] at h3
  exact (L.okRel_eq h1 (by omega) h3).symm
theorem text_parts (l : List Int) (m : Nat) : textT l m m = itoaB m ++ one 58 ++ joinB (rowsT l m m) slash := rfl
theorem implP_text {m : Nat} {l : List Int} (h : isRel (m : Int) l = true) : implP (textT l m m) = ((m : Int), l, true) := by
  obtain ⟨h1, h2⟩ := rel_len h
  obtain ⟨a1, a2⟩ := atoi_itoa m h2
  obtain ⟨c1, c2⟩ := cutA_at 58 (itoaB m) (joinB (rowsT l m m) slash) (itoa_colon m h2)
  rw [← text_parts] at c1 c2
  have hsz : (textT l m m).size ≤ 120 := by
    unfold textT
    rw [ByteArray.size_append]
    have q1 := head_size h2
    have q2 := rows_size l m m
    have q3 : m * (m + 1) ≤ 10 * 11 := Nat.mul_le_mul h2 (by omega)
    omega
  unfold implP
  rw [c1, c2, a1, a2, rows_split, if_pos ⟨rfl, by omega, hsz⟩, Int.toNat_natCast]
  have e : L.relL m (bitR (rowsOf l m)) = l := by
    rw [L.relL_congr (fun a b ha hb => bitR_rows l m a b ha hb)]; exact rel_eq h
  unfold endP
  rw [e, if_pos rfl]
theorem specP_text {m : Nat} {l : List Int} (h : isRel (m : Int) l = true) : specP (textT l m m) = ((m : Int), l, true) := by
  obtain ⟨h1, h2⟩ := rel_len h
  have hp : partsOf (textT l m m) = [itoaB m, joinB (rowsT l m m) slash] := by
    unfold partsOf
    rw [text_parts, splitL_at 58 _ _ (itoa_colon m h2), splitL_no 58 _ (rest_mem l m m)]
  unfold specP
  rw [hp, show rowAt [itoaB m, joinB (rowsT l m m) slash] 0 = itoaB m from rfl, show rowAt [itoaB m, joinB (rowsT l m m) slash] 1 = joinB (rowsT l m m) slash from rfl, readV_itoa m h2, rows_split, if_pos ⟨rfl, by omega, by omega⟩]
  have e : listR (m : Int) (rowsOf l m) (rowsOf l m).length = l := by
    unfold listR
    by_cases hm : m = 0
    · subst hm
      rw [if_neg (by omega)]
      exact (List.eq_nil_of_length_eq_zero h1).symm
    · rw [if_pos (by omega)]
      have hl : (rowsOf l m).length = m := by unfold rowsOf; rw [if_neg hm, rowsT_length]
      rw [hl]
      conv => rhs; rw [← rel_eq h]
      unfold L.relL L.relN
      congr 1
      refine List.map_congr_left fun i hi => ?_
      have hi' := List.mem_range.1 hi
      have ez : (rowAt (rowsOf l m) i).size = m := by
        unfold rowAt rdOf rowsOf
        rw [if_neg hm, Int.toNat_natCast, List.getD_eq_getElem?_getD]
        unfold rowsT
        rw [List.getElem?_map, List.getElem?_range hi']
        exact rowT_size l i m
      unfold setR
      rw [ez, Nat.min_eq_left h2]
      exact L.relRow_congr fun b hb => bitR_rows l m i b hi' hb
  unfold endS
  rw [e, if_pos h, Int.toNat_natCast, if_pos rfl]
theorem ba_inj {a b : ByteArray} (h : a.toList = b.toList) : a = b := by
  have e : ∀ x : ByteArray, x.toList = x.data.toList := fun x => by
    have := Lib.extract_toList x 0 x.size
    rw [ByteArray.extract_zero_size, Nat.sub_zero, List.drop_zero, ba_size x, List.take_length] at this
    exact this
  rw [e, e] at h
  exact ba_ext h
theorem parse_same (s : ByteArray) : implP s = specP s := by
  by_cases h : ∃ (m : Nat) (l : List Int), isRel (m : Int) l = true ∧ s = textT l m m
  · obtain ⟨m, l, h, rfl⟩ := h
    rw [implP_text h, specP_text h]
  · have hI : implP s = failP := by
      unfold implP
      split
      · rename_i hc
        unfold endP
        split
        · rename_i ht
          exact absurd ⟨_, _, isRel_relLP (by omega) _, (ba_inj ht).symm⟩ h
        · rfl
      · rfl
    have hS : specP s = failP := by
      unfold specP
      split
      · unfold endS
        split
        · rename_i hr
          obtain ⟨m, hm, _, _⟩ := isRel_nat hr
          split
          · rename_i ht
            rw [hm] at hr ht
            rw [Int.toNat_natCast] at ht
            exact absurd ⟨_, _, hr, (ba_inj ht).symm⟩ h
          · rfl
        · rfl
      · rfl
    rw [hI, hS]
theorem implP_len (s : ByteArray) : (implP s).2.1.length ≤ 1048576 := by
  unfold implP
  split
  · unfold endP
    split
    · show (L.relL _ _).length ≤ _
      rw [L.relL_length]; omega
    · exact Nat.zero_le _
  · exact Nat.zero_le _
theorem ParseOrder_both (s : ByteArray) (hs : s.size ≤ 1048576) :
    ∃ (n : Int) (q : List Int) (b : Bool), Ev (fun k => spec_ParseOrder.f k s) (n, q, b) ∧ Ev (fun k => impl_ParseOrder.f k s) (n, q, b) ∧ q.length ≤ 1048576 := by
  refine ⟨(implP s).1, (implP s).2.1, (implP s).2.2, ?_, implP_ev s hs, implP_len s⟩
  have h := specP_ev s hs
  rw [← parse_same s] at h
  exact h
end Go.Proofs.YthfkdgecclnffaaDoor.P

/-! ### PuFnExactParseOrder -/
/- The plain law behind FnExactParseOrder, out of what the program's and the reference's function come to. -/
namespace Go.Proofs.YthfkdgecclnffaaDoor.P
open Go.RowKit Go.Proofs.YthfkdgecclnffaaDoorW.PrintWords Go.Proofs.YthfkdgecclnffaaDoorW.PrintLast Go.Proofs.YthfkdgecclnffaaDoorW.PrintMore L
set_option linter.unusedVariables false
set_option linter.unusedSimpArgs false
set_option maxHeartbeats 1000000 in
theorem FnExactParseOrder_pure (a0 : ByteArray) {P_ : Prop} (y0 : P_) : ∃ k, laws_FnExactParseOrder.f k a0 = some true := by
  refine Ev.rounds (r := true) ?_
  unfold laws_FnExactParseOrder.f
  by_cases hb0 : (a0.size : Int) > 1048576
  case pos => exact L.Ev.ifp hb0 (Ev.now true)
  refine L.Ev.ifn hb0 (L.Ev.succ ?_)
  simp only [laws_FnExactParseOrder.j0]
  obtain ⟨r0, q0, r1, hs, hi, hl0⟩ := ParseOrder_both a0 (by omega)
  repeat' (first
    | exact Ev.now true
    | exact Ev.now _
    | with_reducible exact rfl
    | (with_reducible refine Ev.bind hs ?_)
    | (with_reducible refine Ev.bind hi ?_)
    | (with_reducible refine Ev.bind (toOrder_ev _ _ ?hs1) ?_; (case hs1 => first | omega | (dsimp only; omega)))
    | (with_reducible refine Ev.bind (eqOrder_self _ _ ?hs1) ?_; (case hs1 => first | omega | (dsimp only; omega)))
    | (with_reducible refine Ev.bind (markIntS_ev _ _ ?hs1 ?hs2) ?_; (case hs1 => first | omega | (dsimp only; omega)); (case hs2 => first | omega | (dsimp only; omega)))
    | (with_reducible refine Ev.bind (held_marks _ _ ?hs1 ?hs2) ?_; (case hs1 => first | omega | (dsimp only; omega)); (case hs2 => first | omega | (dsimp only; omega)))
    | (with_reducible refine Ev.bind (markOrder_ev _ _ _ ?hs1 ?hs2) ?_; (case hs1 => first | omega | (dsimp only; omega)); (case hs2 => first | omega | (dsimp only; omega)))
    | (with_reducible refine Ev.bind (heldOrder_marks _ _ _ ?hs1 ?hs2) ?_; (case hs1 => first | omega | (dsimp only; omega)); (case hs2 => first | omega | (dsimp only; omega)))
    | (refine L.Ev.ifp ?hc ?_; (case hc => first | rfl | omega | (simp; done)))
    | (refine L.Ev.ifn ?hc ?_; (case hc => first | omega | (simp; done)))
    | dsimp only
    | (refine L.Ev.succ ?_; simp only [laws_FnExactParseOrder.j0])
    | (refine L.Ev.succ ?_; simp only [laws_FnExactParseOrder.j1])
    | (refine L.Ev.succ ?_; simp only [laws_FnExactParseOrder.j2])
    | (refine L.Ev.succ ?_; simp only [laws_FnExactParseOrder.j3])
    | (refine L.Ev.succ ?_; simp only [laws_FnExactParseOrder.j4])
    | (refine L.Ev.succ ?_; simp only [laws_FnExactParseOrder.j5])
    | (refine L.Ev.succ ?_; simp only [laws_FnExactParseOrder.j6])
    | (refine L.Ev.succ ?_; simp only [laws_FnExactParseOrder.j7])
    | (refine L.Ev.succ ?_; simp only [laws_FnExactParseOrder.j8])
    | (refine L.Ev.succ ?_; simp only [laws_FnExactParseOrder.j9])
    | (refine L.Ev.succ ?_; simp only [laws_FnExactParseOrder.j10])
    | (refine L.Ev.succ ?_; simp only [laws_FnExactParseOrder.j11]))
end Go.Proofs.YthfkdgecclnffaaDoor.P
