/- The plain laws behind FnExactOrderText, in one text (merged by wip/merge.py). -/
import Derived.Test.YthfkdgecclnffaaDoorLib
import Derived.Test.YthfkdgecclnffaaDoorPx7
import Derived.Test.YthfkdgecclnffaaDoorPx1
import Derived.Test.YthfkdgecclnffaaDoorPx6
import Derived.Test.YthfkdgecclnffaaDoorPx4
import Derived.Test.YthfkdgecclnffaaDoorJo
import Derived.Test.YthfkdgecclnffaaDoorPx3
import Derived.Test.YthfkdgecclnffaaDoorPx5
import Derived.Test.YthfkdgecclnffaaDoorPx8
import Derived.Test.YthfkdgecclnffaaDoorPx2
import Derived.Test.YthfkdgecclnffaaDoorRowLib
import Derived.Test.YthfkdgecclnffaaDoorPx9
/-! ### PuInts -/
/- Plain laws of the copies and comparisons of rows of whole numbers; no conditions beyond the rows' lengths. -/
namespace Go.Proofs.YthfkdgecclnffaaDoor.P
open Go.RowKit Go.Proofs.YthfkdgecclnffaaDoorW.PrintWords Go.Proofs.YthfkdgecclnffaaDoorW.PrintLast Go.Proofs.YthfkdgecclnffaaDoorW.PrintMore L
set_option linter.unusedVariables false
set_option linter.unusedSimpArgs false
theorem toIntS_ev (l : List Int) (hl : l.length ≤ 35184372088832) : Ev (fun k => laws_toIntS.f k l) l := by
  have key : ∀ i, i ≤ l.length → Ev (fun k => laws_toIntS.l0 k l (l.take i ++ List.replicate (l.length - i) 0) (i : Int)) l := by
    refine L.down ?_ fun i hi ih => ?_
    · refine L.Ev.succ ?_
      simp only [laws_toIntS.l0]
      refine L.Ev.ifn (by omega) ?_
      rw [Nat.sub_self, List.take_of_length_le (Nat.le_refl _)]
      simp only [List.replicate_zero, List.append_nil]
      exact Ev.now l
    · refine L.Ev.succ ?_
      simp only [laws_toIntS.l0]
      refine L.Ev.ifp (by omega) (L.Ev.ifp (by omega) (L.Ev.ifp ?_ ?_))
      · simp only [List.length_append, List.length_take, List.length_replicate]; omega
      · have e : (l.take i ++ List.replicate (l.length - i) 0).set i (rd l (i : Int)) = l.take (i + 1) ++ List.replicate (l.length - (i + 1)) 0 := by
          rw [L.rd_get hi]
          refine List.ext_getElem? fun j => ?_
          rw [List.getElem?_set]
          by_cases hj : i = j
          · subst hj
            rw [if_pos rfl, if_pos (by simp only [List.length_append, List.length_take, List.length_replicate]; omega), List.getElem?_append_left (by simp only [List.length_take]; omega), List.getElem?_take, if_pos (by omega), List.getElem?_eq_getElem hi]
          · rw [if_neg hj]
            by_cases h1 : j < i
            · rw [List.getElem?_append_left (by simp only [List.length_take]; omega), List.getElem?_append_left (by simp only [List.length_take]; omega), List.getElem?_take, List.getElem?_take, if_pos h1, if_pos (by omega)]
            · rw [List.getElem?_append_right (by simp only [List.length_take]; omega), List.getElem?_append_right (by simp only [List.length_take]; omega)]
              simp only [List.length_take, List.getElem?_replicate]
              by_cases h2 : j < l.length
              · rw [if_pos (by omega), if_pos (by omega)]
              · rw [if_neg (by omega), if_neg (by omega)]
        refine Ev.congr (fun k => ?_) ih
        rw [L.w64n (by omega), Int.toNat_natCast, e]
  refine Ev.congr (fun k => ?_) (key 0 (by omega))
  unfold laws_toIntS.f
  rw [if_pos (by omega), if_pos (by omega)]
  simp
theorem eqIntS_ev (l m : List Int) (hl : l.length ≤ 9223372036854775806) : Ev (fun k => laws_eqIntS.f k l m) (decide (l = m)) := by
  by_cases hlen : l.length = m.length
  · have key : ∀ i, i ≤ l.length → Ev (fun k => laws_eqIntS.l0 k l m (i : Int)) (decide (l.drop i = m.drop i)) := by
      refine L.down ?_ fun i hi ih => ?_
      · refine L.Ev.succ ?_
        simp only [laws_eqIntS.l0]
        refine L.Ev.ifn (by omega) ?_
        rw [List.drop_eq_nil_of_le (Nat.le_refl _), List.drop_eq_nil_of_le (by omega)]
        exact Ev.now _
      · refine L.Ev.succ ?_
        simp only [laws_eqIntS.l0]
        refine L.Ev.ifp (by omega) (L.Ev.ifp (by omega) (L.Ev.ifp (by omega) ?_))
        rw [L.rd_get hi, L.rd_get (l := m) (by omega), List.drop_eq_getElem_cons hi, List.drop_eq_getElem_cons (l := m) (by omega)]
        by_cases e : l[i] = m[i]'(by omega)
        · refine L.Ev.ifp e ?_
          refine Ev.congr (fun k => by rw [L.w64n (by omega)]) ?_
          have e2 : (l[i] :: List.drop (i + 1) l = m[i]'(by omega) :: List.drop (i + 1) m) = (List.drop (i + 1) l = List.drop (i + 1) m) := propext ⟨fun h => (List.cons.inj h).2, fun h => by rw [e, h]⟩
          simp only [e2]
          exact ih
        · refine L.Ev.ifn e ?_
          simp only [List.cons.injEq, e, false_and, decide_false]
          exact Ev.now _
    have h := key 0 (by omega)
    refine Ev.congr (fun k => ?_) h
    unfold laws_eqIntS.f
    rw [if_pos (by omega)]; rfl
  · have e : l ≠ m := fun h => hlen (by rw [h])
    refine Ev.congr (fun k => ?_) (f := fun _ => some false) (by simp only [e, decide_false]; exact Ev.now _)
    unfold laws_eqIntS.f
    rw [if_neg (by omega)]
theorem eqIntS_self (l : List Int) (hl : l.length ≤ 9223372036854775806) : Ev (fun k => laws_eqIntS.f k l l) true := by
  have h := eqIntS_ev l l hl
  simpa using h
end Go.Proofs.YthfkdgecclnffaaDoor.P

/-! ### PuOrder -/
/- Plain laws of the copies and comparisons of relations; no conditions beyond the rows' lengths. -/
namespace Go.Proofs.YthfkdgecclnffaaDoor.P
open Go.RowKit Go.Proofs.YthfkdgecclnffaaDoorW.PrintWords Go.Proofs.YthfkdgecclnffaaDoorW.PrintLast Go.Proofs.YthfkdgecclnffaaDoorW.PrintMore L
set_option linter.unusedVariables false
set_option linter.unusedSimpArgs false
theorem szIntS_eq (l : List Int) (a : Int) (ha : 0 ≤ a ∧ a ≤ 1048576) (hl : l.length ≤ 9223372036854775807) : laws_szIntS.f l a = some (if (l.length : Int) ≤ a then a - l.length else -1) := by
  unfold laws_szIntS.f
  rw [L.w64 (by omega) (by omega)]
  by_cases h : (l.length : Int) ≤ a
  · rw [if_neg (by omega), if_pos h]
  · rw [if_pos (by omega), if_neg h]
theorem szOrder_eq (n : Int) (l : List Int) (a : Int) (ha : 0 ≤ a ∧ a ≤ 1048576) (hl : l.length ≤ 9223372036854775807) : laws_szOrder.f n l a = some (if (l.length : Int) ≤ a then a - l.length else -1) := by
  unfold laws_szOrder.f
  rw [szIntS_eq l a ha hl]
  simp only [Option.bind_some]
  by_cases h : (l.length : Int) ≤ a
  · rw [if_pos h, if_neg (by omega)]
  · rw [if_neg h, if_pos (by omega)]
theorem toOrder_ev (n : Int) (l : List Int) (hl : l.length ≤ 35184372088832) : Ev (fun k => laws_toOrder.f k n l) (n, l) := by
  unfold laws_toOrder.f
  exact Ev.bind (toIntS_ev l hl) (Ev.now _)
theorem eqOrder_ev (n : Int) (l : List Int) (m : Int) (o : List Int) (hl : l.length ≤ 9223372036854775806) : Ev (fun k => laws_eqOrder.f k n l m o) (decide (n = m ∧ l = o)) := by
  unfold laws_eqOrder.f
  by_cases h : n = m
  · refine L.Ev.ifp h ?_
    refine Ev.bind (eqIntS_ev l o hl) ?_
    by_cases h2 : l = o
    · simp only [h, h2, and_self, decide_true, if_true]; exact Ev.now _
    · simp only [h2, and_false, decide_false]; exact L.Ev.ifn (by simp) (Ev.now _)
  · refine L.Ev.ifn h ?_
    simp only [h, false_and, decide_false]
    exact Ev.now _
theorem eqOrder_self (n : Int) (l : List Int) (hl : l.length ≤ 9223372036854775806) : Ev (fun k => laws_eqOrder.f k n l n l) true := by
  have h := eqOrder_ev n l n l hl
  simpa using h
end Go.Proofs.YthfkdgecclnffaaDoor.P

/-! ### PuRel0 -/
/- Plain laws: which lists are relations. -/
namespace Go.Proofs.YthfkdgecclnffaaDoor.P
open Go.RowKit Go.Proofs.YthfkdgecclnffaaDoorW.PrintWords Go.Proofs.YthfkdgecclnffaaDoorW.PrintLast Go.Proofs.YthfkdgecclnffaaDoorW.PrintMore L
set_option linter.unusedVariables false
set_option linter.unusedSimpArgs false
/-- the numbers of a relation. -/
def isRel (n : Int) (l : List Int) : Bool := decide (0 ≤ n ∧ n ≤ 10 ∧ (l.length : Int) = n ∧ ∀ x ∈ l, 0 ≤ x ∧ x < 2 ^ n.toNat)
theorem isRel_iff (n : Int) (l : List Int) : isRel n l = true ↔ 0 ≤ n ∧ n ≤ 10 ∧ (l.length : Int) = n ∧ ∀ x ∈ l, 0 ≤ x ∧ x < 2 ^ n.toNat := by simp [isRel]
theorem isRel_big {n : Nat} {l : List Int} (h : isRel n l = true) : ∀ x ∈ l, 0 ≤ x ∧ x < 1024 := by
  obtain ⟨h0, h1, h2, h3⟩ := (isRel_iff _ _).1 h
  intro x hx
  obtain ⟨a, b⟩ := h3 x hx
  have : (2 : Int) ^ (n : Int).toNat ≤ 2 ^ 10 := by
    have := Nat.pow_le_pow_right (n := 2) (by decide) (show (n : Int).toNat ≤ 10 by omega)
    exact_mod_cast this
  omega
theorem isRel_ok {n : Int} {l : List Int} (h : isRel n l = true) : L.okRel n l := by
  obtain ⟨h0, h1, h2, h3⟩ := (isRel_iff _ _).1 h
  obtain ⟨m, rfl⟩ := Int.eq_ofNat_of_zero_le h0
  refine ⟨h0, by omega, h2, fun x hx => ?_⟩
  have := isRel_big h x hx
  omega
end Go.Proofs.YthfkdgecclnffaaDoor.P

/-! ### PuRel20 -/
/- Plain laws: single elements of relations: above, below, in bounds; for the program and the reference alike. -/
namespace Go.Proofs.YthfkdgecclnffaaDoor.P
open Go.RowKit Go.Proofs.YthfkdgecclnffaaDoorW.PrintWords Go.Proofs.YthfkdgecclnffaaDoorW.PrintLast Go.Proofs.YthfkdgecclnffaaDoorW.PrintMore L
set_option linter.unusedVariables false
set_option linter.unusedSimpArgs false
theorem isRel_nat {n : Int} {l : List Int} (h : isRel n l = true) : ∃ m : Nat, n = m ∧ m ≤ 10 ∧ l.length = m := by
  obtain ⟨h0, h1, h2, h3⟩ := (isRel_iff _ _).1 h
  obtain ⟨m, rfl⟩ := Int.eq_ofNat_of_zero_le h0
  exact ⟨m, rfl, by omega, by omega⟩
theorem orHas_eq {n : Int} {l : List Int} (h : L.okRel n l) (i j : Nat) (hj : j ≤ 64) : spec_orHas.f (rd l (i : Int)) (j : Int) = some (L.bitAt l i j) := by
  unfold spec_orHas.f
  rw [if_pos (by omega), h.bitm i j hj]
def R0 (n : Int) : Prop := -9223372036854775807 ≤ n ∧ n ≤ 9223372036854775807
theorem rel_len {m : Nat} {l : List Int} (h : isRel (m : Int) l = true) : l.length = m ∧ m ≤ 10 := by
  obtain ⟨m', hm', hm, hlm⟩ := isRel_nat h
  omega
end Go.Proofs.YthfkdgecclnffaaDoor.P

/-! ### PuText -/
/- Plain laws: the text of a relation, in the program and in the reference. -/
namespace Go.Proofs.YthfkdgecclnffaaDoor.P
open Go.RowKit Go.Proofs.YthfkdgecclnffaaDoorW.PrintWords Go.Proofs.YthfkdgecclnffaaDoorW.PrintLast Go.Proofs.YthfkdgecclnffaaDoorW.PrintMore L
set_option linter.unusedVariables false
set_option linter.unusedSimpArgs false
theorem ba_ext {a b : ByteArray} (h : a.data.toList = b.data.toList) : a = b := ByteArray.ext (Array.toList_inj.1 h)
theorem ba_app (a b : ByteArray) : (a ++ b).data.toList = a.data.toList ++ b.data.toList := by rw [ByteArray.data_append, Array.toList_append]
theorem ba_size (a : ByteArray) : a.size = a.data.toList.length := by cases a; simp [ByteArray.size]
set_option maxRecDepth 100000 in
theorem num_all : ∀ m : Nat, m < 10 → strOfNums ([(wrap64 (48 + (m : Int))) % 256] : List Int) = itoaB m := by decide +kernel
set_option maxRecDepth 100000 in
theorem num_ten : strOfNums ([(wrap64 (48 + 1)) % 256] : List Int) ++ strOfNums ([(wrap64 (48 + 0)) % 256] : List Int) = itoaB 10 := by decide +kernel
set_option maxRecDepth 100000 in
theorem itoa_size : ∀ m : Nat, m ≤ 10 → (itoaB m).size ≤ 2 := by decide +kernel
theorem l1Num_ev {m : Nat} (hm : m ≤ 10) : Ev (fun k => spec_l1Num.f k (m : Int)) (itoaB m) := by
  by_cases h : m < 10
  · refine L.Ev.succ ?_
    simp only [spec_l1Num.f]
    refine L.Ev.ifp (by omega) ?_
    rw [num_all m h]; exact Ev.now _
  · have e : m = 10 := by omega
    subst e
    refine L.Ev.succ ?_
    simp only [spec_l1Num.f]
    have e1 : wrap64 (Int.tdiv ((10 : Nat) : Int) 10) = ((1 : Nat) : Int) := by
      rw [show Int.tdiv ((10 : Nat) : Int) 10 = 1 from rfl]; exact L.w64 (by omega) (by omega)
    have e2 : Int.tmod ((10 : Nat) : Int) 10 = 0 := rfl
    rw [e1, e2]
    refine L.Ev.ifn (by omega) (Ev.bind (a := itoaB 1) ?_ ?_)
    · refine L.Ev.succ ?_
      simp only [spec_l1Num.f]
      refine L.Ev.ifp (by omega) ?_
      rw [num_all 1 (by omega)]; exact Ev.now _
    · have e3 : strOfNums ([(wrap64 (48 + 0)) % 256] : List Int) = itoaB 0 := num_all 0 (by omega)
      have e4 : itoaB 1 ++ itoaB 0 = itoaB 10 := by rw [← num_all 1 (by omega), ← e3]; exact num_ten
      simp only [Option.bind_some]
      rw [e3, e4]
      exact L.Ev.ifp (by have := itoa_size 1 (by omega); have := itoa_size 0 (by omega); omega) (Ev.now _)
/-- the text of a row, up to j. -/
def rowT (l : List Int) (i : Nat) : Nat → ByteArray
  | 0 => ⟨#[]⟩
  | j + 1 => rowT l i j ++ if L.bitAt l i j then ⟨#[49]⟩ else ⟨#[48]⟩
theorem rowT_size (l : List Int) (i : Nat) : ∀ j, (rowT l i j).size = j
  | 0 => rfl
  | j + 1 => by
    unfold rowT
    rw [ByteArray.size_append, rowT_size l i j]
    split <;> rfl
def rowsT (l : List Int) (m i : Nat) : List ByteArray := (List.range i).map fun i => rowT l i m
theorem rowsT_length (l : List Int) (m i : Nat) : (rowsT l m i).length = i := by simp [rowsT]
theorem rowsT_succ (l : List Int) (m i : Nat) : rowsT l m (i + 1) = rowsT l m i ++ [rowT l i m] := by simp [rowsT, List.range_succ]
theorem joinB_nil (s : ByteArray) : joinB [] s = ⟨#[]⟩ := rfl
theorem join_snoc (xs : List (List UInt8)) (x sep : List UInt8) (h : xs ≠ []) : Lib.join (xs ++ [x]) sep = Lib.join xs sep ++ (sep ++ x) := by
  cases xs with
  | nil => exact absurd rfl h
  | cons y ys =>
    rw [List.cons_append, Lib.join_cons, Lib.join_cons, List.append_assoc]
    congr 1
    unfold Lib.joinTail
    simp
theorem joinB_list (xs : List ByteArray) (s : ByteArray) : (joinB xs s).data.toList = Lib.join (xs.map (·.data.toList)) s.data.toList := by simp [joinB]
theorem joinB_one (x s : ByteArray) : joinB [x] s = x := ba_ext (by rw [joinB_list]; simp [Lib.join_one])
theorem joinB_snoc (xs : List ByteArray) (x s : ByteArray) (h : xs ≠ []) : joinB (xs ++ [x]) s = joinB xs s ++ s ++ x := by
  refine ba_ext ?_
  rw [ba_app, ba_app, joinB_list, joinB_list, List.map_append, List.map_cons, List.map_nil, join_snoc _ _ _ (by simpa using h), List.append_assoc]
def slash : ByteArray := ⟨#[47]⟩
def headT (m : Nat) : ByteArray := itoaB m ++ ⟨#[58]⟩
def textT (l : List Int) (m i : Nat) : ByteArray := headT m ++ joinB (rowsT l m i) slash
theorem rows_size (l : List Int) (m : Nat) : ∀ i, (joinB (rowsT l m i) slash).size ≤ i * (m + 1)
  | 0 => by rw [show rowsT l m 0 = [] from rfl, joinB_nil]; exact Nat.zero_le _
  | i + 1 => by
    have ih := rows_size l m i
    rw [rowsT_succ]
    cases i with
    | zero =>
      rw [show rowsT l m 0 = [] from rfl, List.nil_append, joinB_one, rowT_size]; omega
    | succ i =>
      rw [joinB_snoc _ _ _ (by intro e; have := rowsT_length l m (i + 1); rw [e] at this; simp at this), ByteArray.size_append, ByteArray.size_append, rowT_size, show slash.size = 1 from rfl, Nat.add_mul (i + 1) 1]
      omega
theorem head_size {m : Nat} (hm : m ≤ 10) : (headT m).size ≤ 3 := by
  unfold headT
  rw [ByteArray.size_append, show (⟨#[58]⟩ : ByteArray).size = 1 from rfl]
  have := itoa_size m hm
  omega
theorem text_size (l : List Int) {m i : Nat} (hm : m ≤ 10) (hi : i ≤ 10) : (textT l m i).size ≤ 200 := by
  unfold textT
  rw [ByteArray.size_append]
  have h1 := head_size hm
  have h2 := rows_size l m i
  have h3 : i * (m + 1) ≤ 10 * 11 := Nat.mul_le_mul hi (by omega)
  omega
theorem text_zero (l : List Int) (m : Nat) : textT l m 0 = headT m := by
  unfold textT
  rw [show rowsT l m 0 = [] from rfl, joinB_nil]
  exact ba_ext (by rw [ba_app]; simp)
theorem text_one (l : List Int) (m : Nat) : headT m ++ rowT l 0 m = textT l m 1 := by
  unfold textT
  rw [rowsT_succ, show rowsT l m 0 = [] from rfl, List.nil_append, joinB_one]
theorem text_step (l : List Int) (m i : Nat) : textT l m (i + 1) ++ slash ++ rowT l (i + 1) m = textT l m (i + 1 + 1) := by
  unfold textT
  rw [rowsT_succ l m (i + 1), joinB_snoc _ _ _ (by intro e; have := rowsT_length l m (i + 1); rw [e] at this; simp at this)]
  simp only [ByteArray.append_assoc]
theorem empty_app (a : ByteArray) : a ++ (⟨#[]⟩ : ByteArray) = a := ba_ext (by rw [ba_app]; simp)
theorem better_tells {n : Int} {l : List Int} (h : L.okRel n l) (i j : Nat) (hi : (i : Int) < n) (hj : j ≤ 64) : impl_Order_better.f n l (i : Int) (j : Int) = some (L.bitAt l i j) := by
  unfold impl_Order_better.f
  rw [if_pos (by omega), if_pos (by have := h.len; omega), if_pos (by omega), h.bit i j hj]
theorem orText_ev {m : Nat} {l : List Int} (h : isRel (m : Int) l = true) : Ev (fun k => spec_orText.f k (m : Int) l) (textT l m m) := by
  obtain ⟨h1, h2⟩ := rel_len h
  have ok := isRel_ok h
  have inner : ∀ i, i < m → ∀ T : ByteArray, T.size ≤ 300 → T ++ rowT l i m = textT l m (i + 1) → Ev (fun k => spec_orText.l0 k (textT l m (i + 1)) l (l.length : Int) ((i + 1 : Nat) : Int) (m : Int) l) (textT l m m) →
      Ev (fun k => spec_orText.j1 k T (rd l (i : Int)) l (l.length : Int) (i : Int) (m : Int) l) (textT l m m) := by
    intro i hi T hT he hk
    have key : ∀ j, j ≤ m → Ev (fun k => spec_orText.l1 k (T ++ rowT l i j) (rd l (i : Int)) l (l.length : Int) (i : Int) (m : Int) (j : Int) (m : Int) l) (textT l m m) := by
      refine L.down ?_ fun j hj ih => ?_
      · refine L.Ev.succ ?_
        simp only [spec_orText.l1]
        rw [he]
        refine L.Ev.ifn (by omega) ?_
        exact Ev.congr (fun k => by rw [L.w64n (by omega)]) hk
      · have hs : (T ++ rowT l i j).size ≤ 400 := by rw [ByteArray.size_append, rowT_size]; omega
        refine L.Ev.succ ?_
        simp only [spec_orText.l1]
        rw [L.w64n (n := j) (by omega)]
        refine L.Ev.ifp (by omega) (L.Ev.bindc (orHas_eq ok i j (by omega)) ?_)
        have e : ∀ c : ByteArray, (T ++ rowT l i j) ++ c = T ++ (rowT l i j ++ c) := fun c => ByteArray.append_assoc
        cases hb : L.bitAt l i j with
        | true =>
          unfold rowT at ih
          rw [hb, if_pos rfl] at ih
          refine L.Ev.ifp rfl (L.Ev.ifp (by omega) ?_)
          rw [e]; exact ih
        | false =>
          unfold rowT at ih
          rw [hb, if_neg (by simp)] at ih
          refine L.Ev.ifn (by simp) (L.Ev.ifp (by omega) ?_)
          rw [e]; exact ih
    have h0 := key 0 (by omega)
    rw [show rowT l i 0 = ⟨#[]⟩ from rfl, empty_app] at h0
    refine L.Ev.succ ?_
    simp only [spec_orText.j1]
    rw [show ((l.length : Nat) : Int) = (m : Int) by omega] at h0 ⊢
    exact h0
  have outer : ∀ i, i ≤ m → Ev (fun k => spec_orText.l0 k (textT l m i) l (l.length : Int) (i : Int) (m : Int) l) (textT l m m) := by
    refine L.down ?_ fun i hi ih => ?_
    · refine L.Ev.succ ?_
      simp only [spec_orText.l0]
      exact L.Ev.ifn (by omega) (Ev.now _)
    · have hs := text_size l h2 (show i ≤ 10 by omega)
      refine L.Ev.succ ?_
      simp only [spec_orText.l0]
      refine L.Ev.ifp (by omega) (L.Ev.ifp (by omega) (L.Ev.ifp (by omega) ?_))
      cases i with
      | zero =>
        refine L.Ev.ifn (by omega) ?_
        exact inner 0 hi _ (by omega) (by rw [text_zero]; exact text_one l m) ih
      | succ i =>
        refine L.Ev.ifp (by omega) (L.Ev.ifp (by omega) ?_)
        exact inner (i + 1) hi _ (by rw [ByteArray.size_append, show (⟨#[47]⟩ : ByteArray).size = 1 from rfl]; omega) (text_step l m i) ih
  unfold spec_orText.f
  refine Ev.bind (l1Num_ev h2) (L.Ev.ifp (by have := itoa_size m h2; omega) ?_)
  have h0 := outer 0 (by omega)
  rw [text_zero] at h0
  exact h0
theorem orderText_ev {m : Nat} {l : List Int} (h : isRel (m : Int) l = true) : Ev (fun k => impl_orderText.f k (m : Int) l) (textT l m m) := by
  obtain ⟨h1, h2⟩ := rel_len h
  have ok := isRel_ok h
  have inner : ∀ i, i < m → Ev (fun k => impl_orderText.l0 k (rowsT l m (i + 1)) (m : Int) ((i + 1 : Nat) : Int) (m : Int) l) (textT l m m) →
      Ev (fun k => impl_orderText.l1 k (rowsT l m i) (i : Int) (⟨#[]⟩ : ByteArray) (m : Int) (i : Int) (m : Int) 0 (m : Int) l) (textT l m m) := by
    intro i hi hk
    have key : ∀ j, j ≤ m → Ev (fun k => impl_orderText.l1 k (rowsT l m i) (i : Int) (rowT l i j) (m : Int) (i : Int) (m : Int) (j : Int) (m : Int) l) (textT l m m) := by
      refine L.down ?_ fun j hj ih => ?_
      · refine L.Ev.succ ?_
        simp only [impl_orderText.l1]
        refine L.Ev.ifn (by omega) (L.Ev.ifp (by rw [rowsT_length]; omega) ?_)
        rw [← rowsT_succ]
        exact Ev.congr (fun k => by rw [L.w64n (by omega)]) hk
      · have hs : (rowT l i j).size ≤ 10 := by rw [rowT_size]; omega
        refine L.Ev.succ ?_
        simp only [impl_orderText.l1]
        rw [L.w64n (n := j) (by omega)]
        refine L.Ev.ifp (by omega) (L.Ev.bindc (better_tells ok i j (by omega) (by omega)) ?_)
        cases hb : L.bitAt l i j with
        | true =>
          unfold rowT at ih
          rw [hb, if_pos rfl] at ih
          exact L.Ev.ifp rfl (L.Ev.ifp (by omega) ih)
        | false =>
          unfold rowT at ih
          rw [hb, if_neg (by simp)] at ih
          exact L.Ev.ifn (by simp) (L.Ev.ifp (by omega) ih)
    exact key 0 (by omega)
  have outer : ∀ i, i ≤ m → Ev (fun k => impl_orderText.l0 k (rowsT l m i) (m : Int) (i : Int) (m : Int) l) (textT l m m) := by
    refine L.down ?_ fun i hi ih => ?_
    · have hr := rows_size l m m
      have hr2 : m * (m + 1) ≤ 10 * 11 := Nat.mul_le_mul h2 (by omega)
      have hd := head_size h2
      have hi2 := itoa_size m h2
      refine L.Ev.succ ?_
      simp only [impl_orderText.l0]
      refine L.Ev.ifn (by omega) (L.Ev.bindc (a := itoaB m) (by unfold strconv_Itoa.f; rw [if_pos (by omega), Int.toNat_natCast]) (L.Ev.ifp (by omega) (L.Ev.bindc (a := joinB (rowsT l m m) slash) (by unfold strings_Join.f; rw [if_pos ⟨by rw [rowsT_length]; omega, by show (joinB (rowsT l m m) slash).size ≤ _; omega⟩]; rfl) (L.Ev.ifp ?_ (Ev.now _)))))
      show (headT m).size + (joinB (rowsT l m m) slash).size ≤ _
      omega
    · refine L.Ev.succ ?_
      simp only [impl_orderText.l0]
      exact L.Ev.ifp (by omega) (inner i hi ih)
  exact outer 0 (by omega)
end Go.Proofs.YthfkdgecclnffaaDoor.P

/-! ### PuWithin -/
/- Plain laws: numbers between two numbers, in the program and in the reference. -/
namespace Go.Proofs.YthfkdgecclnffaaDoor.P
open Go.RowKit Go.Proofs.YthfkdgecclnffaaDoorW.PrintWords Go.Proofs.YthfkdgecclnffaaDoorW.PrintLast Go.Proofs.YthfkdgecclnffaaDoorW.PrintMore L
set_option linter.unusedVariables false
set_option linter.unusedSimpArgs false
theorem within_eq (a b c : Int) : impl_within.f a b c = some (decide (b ≤ a ∧ a ≤ c)) := by
  unfold impl_within.f
  by_cases h : a ≥ b
  · rw [if_pos h]; congr 1; simp; omega
  · rw [if_neg h]; congr 1; simp; omega
theorem l1In_eq (a b c : Int) : spec_l1In.f a b c = some (decide (b ≤ a ∧ a ≤ c)) := within_eq a b c
end Go.Proofs.YthfkdgecclnffaaDoor.P

/-! ### PuRel -/
/- Plain laws: which lists are relations, for the program and the reference alike; conditions: the numbers are 64-bit numbers. -/
namespace Go.Proofs.YthfkdgecclnffaaDoor.P
open Go.RowKit Go.Proofs.YthfkdgecclnffaaDoorW.PrintWords Go.Proofs.YthfkdgecclnffaaDoorW.PrintLast Go.Proofs.YthfkdgecclnffaaDoorW.PrintMore L
set_option linter.unusedVariables false
set_option linter.unusedSimpArgs false
/-- all of a list lie between two numbers. -/
def allIn (l : List Int) (b c : Int) : Bool := l.all fun x => decide (b ≤ x ∧ x ≤ c)
theorem allIn_iff (l : List Int) (b c : Int) : allIn l b c = true ↔ ∀ x ∈ l, b ≤ x ∧ x ≤ c := by simp [allIn]
theorem allIn_step (l : List Int) (b c : Int) (i : Nat) (hi : i < l.length) : allIn (l.drop i) b c = (decide (b ≤ l[i] ∧ l[i] ≤ c) && allIn (l.drop (i + 1)) b c) := by
  unfold allIn; rw [List.drop_eq_getElem_cons hi, List.all_cons]
theorem allWithin_ev (l : List Int) (b c : Int) (hl : l.length ≤ 9223372036854775806) : Ev (fun k => impl_allWithin.f k l b c) (allIn l b c) := by
  have key : ∀ i, i ≤ l.length → Ev (fun k => impl_allWithin.l0 k b c l (l.length : Int) (i : Int)) (allIn (l.drop i) b c) := by
    refine L.down ?_ fun i hi ih => ?_
    · refine L.Ev.succ ?_
      simp only [impl_allWithin.l0]
      refine L.Ev.ifn (by omega) ?_
      rw [List.drop_eq_nil_of_le (Nat.le_refl _)]
      exact Ev.now _
    · refine L.Ev.succ ?_
      simp only [impl_allWithin.l0]
      refine L.Ev.ifp (by omega) (L.Ev.ifp (by omega) (L.Ev.ifp (by omega) (L.Ev.bindc (within_eq _ _ _) ?_)))
      rw [allIn_step l b c i hi, L.rd_get hi]
      by_cases h : b ≤ l[i] ∧ l[i] ≤ c
      · refine L.Ev.ifp (by simpa using h) ?_
        simp only [h, and_self, decide_true, Bool.true_and]
        exact Ev.congr (fun k => by rw [L.w64n (by omega)]) ih
      · refine L.Ev.ifn (by simpa using h) ?_
        simp only [h, decide_false, Bool.false_and]
        exact Ev.now _
  exact key 0 (by omega)
theorem l1All_same : ∀ k a b c d e, spec_l1All.l0 k a b c d e = impl_allWithin.l0 k a b c d e := by
  intro k
  induction k with
  | zero => intros; rfl
  | succ k ih => intro a b c d e; simp only [spec_l1All.l0, impl_allWithin.l0, ih, l1In_eq, within_eq]
theorem l1All_ev (l : List Int) (b c : Int) (hl : l.length ≤ 9223372036854775806) : Ev (fun k => spec_l1All.f k l b c) (allIn l b c) :=
  Ev.congr (fun k => l1All_same k b c l _ _) (allWithin_ev l b c hl)
theorem IsRelation_ev (n : Int) (l : List Int) (hl : l.length ≤ 9223372036854775806) : Ev (fun k => impl_IsRelation.f k n l) (isRel n l) := by
  unfold impl_IsRelation.f
  refine L.Ev.bindc (within_eq _ _ _) ?_
  by_cases h : 0 ≤ n ∧ n ≤ 10
  · refine L.Ev.ifp (by simpa using h) ?_
    by_cases h2 : (l.length : Int) = n
    · refine L.Ev.ifp h2 (L.Ev.ifp h.1 ?_)
      obtain ⟨m, rfl⟩ := Int.eq_ofNat_of_zero_le h.1
      have e : wrap64 (shl .i64 1 (m : Int) - 1) = 2 ^ m - 1 := by
        rw [L.shl_one (by omega)]
        have h1 : (2 : Nat) ^ m ≤ 2 ^ 10 := Nat.pow_le_pow_right (by decide) (by omega)
        have e3 : ((2 ^ m : Nat) : Int) = 2 ^ m := by push_cast; rfl
        rw [← e3]
        generalize (2 : Nat) ^ m = z at *
        rw [L.w64 (by omega) (by omega)]
      have e2 : isRel (m : Int) l = allIn l 0 (2 ^ m - 1) := by
        rw [Bool.eq_iff_iff, isRel_iff, allIn_iff, Int.toNat_natCast]
        constructor
        · rintro ⟨_, _, _, h4⟩ x hx
          have := h4 x hx
          omega
        · intro h4
          refine ⟨h.1, h.2, h2, fun x hx => ?_⟩
          have := h4 x hx
          omega
      refine Ev.congr (fun k => ?_) (Ev.bind (allWithin_ev l 0 (2 ^ m - 1) hl) (f := fun _ t => some t) (r := isRel (m : Int) l) (by rw [e2]; exact Ev.now _))
      rw [e]
    · refine L.Ev.ifn h2 ?_
      have e : isRel n l = false := by
        rw [← Bool.not_eq_true, isRel_iff]; rintro ⟨_, _, h3, _⟩; exact h2 h3
      rw [e]; exact Ev.now _
  · refine L.Ev.ifn (by simpa using h) ?_
    have e : isRel n l = false := by
      rw [← Bool.not_eq_true, isRel_iff]; rintro ⟨h3, h4, _⟩; exact h ⟨h3, h4⟩
    rw [e]; exact Ev.now _
theorem orRelation_ev (n : Int) (l : List Int) (hl : l.length ≤ 9223372036854775806) : Ev (fun k => spec_orRelation.f k n l) (isRel n l) := by
  refine Ev.congr (fun k => ?_) (IsRelation_ev n l hl)
  unfold spec_orRelation.f impl_IsRelation.f
  simp only [l1In_eq, within_eq]
  have e : ∀ b c, spec_l1All.f k l b c = impl_allWithin.f k l b c := fun b c => l1All_same k b c l _ _
  simp only [e]
end Go.Proofs.YthfkdgecclnffaaDoor.P

/-! ### BoOrderText -/
/- What OrderText comes to, in the program and in the reference. -/
namespace Go.Proofs.YthfkdgecclnffaaDoor.P
open Go.RowKit Go.Proofs.YthfkdgecclnffaaDoorW.PrintWords Go.Proofs.YthfkdgecclnffaaDoorW.PrintLast Go.Proofs.YthfkdgecclnffaaDoorW.PrintMore L
set_option linter.unusedVariables false
set_option linter.unusedSimpArgs false
theorem OrderText_both (n : Int) (l : List Int) (wn : R.wf n) (hl : l.length ≤ 1048576) (w0 : ∀ x ∈ l, R.wf x) :
    ∃ (r : ByteArray) (b : Bool), Ev (fun k => spec_OrderText.f k n l) (r, b) ∧ Ev (fun k => impl_OrderText.f k n l) (r, b) := by
  cases h : isRel n l with
  | false =>
    refine ⟨⟨#[]⟩, false, ?_, ?_⟩
    · unfold spec_OrderText.f
      exact Ev.bind (orRelation_ev n l (by omega)) (L.Ev.ifn (by simp [h]) (Ev.now _))
    · unfold impl_OrderText.f
      exact Ev.bind (IsRelation_ev n l (by omega)) (L.Ev.ifn (by simp [h]) (Ev.now _))
  | true =>
    obtain ⟨m, rfl, hm, hlm⟩ := isRel_nat h
    refine ⟨textT l m m, true, ?_, ?_⟩
    · unfold spec_OrderText.f
      exact Ev.bind (orRelation_ev _ l (by omega)) (L.Ev.ifp h (Ev.bind (orText_ev h) (Ev.now _)))
    · unfold impl_OrderText.f
      exact Ev.bind (IsRelation_ev _ l (by omega)) (L.Ev.ifp h (Ev.bind (orderText_ev h) (Ev.now _)))
end Go.Proofs.YthfkdgecclnffaaDoor.P

/-! ### PuFnExactOrderText -/
/- The plain law behind FnExactOrderText, out of what the program's and the reference's function come to. -/
namespace Go.Proofs.YthfkdgecclnffaaDoor.P
open Go.RowKit Go.Proofs.YthfkdgecclnffaaDoorW.PrintWords Go.Proofs.YthfkdgecclnffaaDoorW.PrintLast Go.Proofs.YthfkdgecclnffaaDoorW.PrintMore L
set_option linter.unusedVariables false
set_option linter.unusedSimpArgs false
set_option maxHeartbeats 1000000 in
theorem FnExactOrderText_pure (a0 : Int) (l0 : List Int) (w0a : R.wf a0) (m0 : l0.length ≤ 9223372036854775807) (w0 : ∀ x ∈ l0, R.wf x) : ∃ k, laws_FnExactOrderText.f k a0 l0 = some true := by
  refine Ev.rounds (r := true) ?_
  unfold laws_FnExactOrderText.f
  refine L.Ev.bindc (szOrder_eq a0 l0 1048576 (by omega) m0) ?_
  by_cases hb0 : (l0.length : Int) ≤ 1048576
  case neg => rw [if_neg hb0]; exact L.Ev.ifp (by omega) (Ev.now true)
  rw [if_pos hb0]
  refine L.Ev.ifn (by omega) ?_
  (try (refine L.Ev.succ ?_; first | simp only [laws_FnExactOrderText.j0] | simp only [laws_FnExactOrderText.j1] | simp only [laws_FnExactOrderText.j2] | simp only [laws_FnExactOrderText.j3]))
  have hn0 : l0.length ≤ 1048576 := by omega
  obtain ⟨r0, r1, hs, hi⟩ := OrderText_both a0 l0 w0a hn0 w0
  repeat' (first
    | exact Ev.now true
    | exact Ev.now _
    | with_reducible exact rfl
    | (with_reducible refine Ev.bind hs ?_)
    | (with_reducible refine Ev.bind hi ?_)
    | (with_reducible refine Ev.bind (toOrder_ev _ _ ?hs1) ?_; (case hs1 => first | omega | (dsimp only; omega)))
    | (with_reducible refine Ev.bind (eqOrder_self _ _ ?hs1) ?_; (case hs1 => first | omega | (dsimp only; omega)))
    | (refine L.Ev.ifp ?hc ?_; (case hc => first | rfl | omega | (simp; done)))
    | (refine L.Ev.ifn ?hc ?_; (case hc => first | omega | (simp; done)))
    | dsimp only
    | (refine L.Ev.succ ?_; simp only [laws_FnExactOrderText.j0])
    | (refine L.Ev.succ ?_; simp only [laws_FnExactOrderText.j1])
    | (refine L.Ev.succ ?_; simp only [laws_FnExactOrderText.j2])
    | (refine L.Ev.succ ?_; simp only [laws_FnExactOrderText.j3])
    | (refine L.Ev.succ ?_; simp only [laws_FnExactOrderText.j4])
    | (refine L.Ev.succ ?_; simp only [laws_FnExactOrderText.j5])
    | (refine L.Ev.succ ?_; simp only [laws_FnExactOrderText.j6])
    | (refine L.Ev.succ ?_; simp only [laws_FnExactOrderText.j7])
    | (refine L.Ev.succ ?_; simp only [laws_FnExactOrderText.j8])
    | (refine L.Ev.succ ?_; simp only [laws_FnExactOrderText.j9])
    | (refine L.Ev.succ ?_; simp only [laws_FnExactOrderText.j10])
    | (refine L.Ev.succ ?_; simp only [laws_FnExactOrderText.j11]))
end Go.Proofs.YthfkdgecclnffaaDoor.P
