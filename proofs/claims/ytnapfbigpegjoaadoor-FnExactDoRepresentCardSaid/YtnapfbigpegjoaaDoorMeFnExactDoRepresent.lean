/- The plain laws behind FnExactDoRepresent, in one text (merged by wip/merge.py). -/
import Derived.Test.YtnapfbigpegjoaaDoorLib
import Derived.Test.YtnapfbigpegjoaaDoorPx1
import Derived.Test.YtnapfbigpegjoaaDoorPx2
import Derived.Test.YtnapfbigpegjoaaDoorRowLib
import Derived.Test.YtnapfbigpegjoaaDoorPx43
import Derived.Test.YtnapfbigpegjoaaDoorPx39
import Derived.Test.YtnapfbigpegjoaaDoorPx46
import Derived.Test.YtnapfbigpegjoaaDoorPx45
import Derived.Test.YtnapfbigpegjoaaDoorPx6
import Derived.Test.YtnapfbigpegjoaaDoorPx3
import Derived.Test.YtnapfbigpegjoaaDoorPx13
import Derived.Test.YtnapfbigpegjoaaDoorPx7
import Derived.Test.YtnapfbigpegjoaaDoorPx4
import Derived.Test.YtnapfbigpegjoaaDoorPx8
import Derived.Test.YtnapfbigpegjoaaDoorPx5
import Derived.Test.YtnapfbigpegjoaaDoorPx44
import Derived.Test.YtnapfbigpegjoaaDoorPx41
import Derived.Test.YtnapfbigpegjoaaDoorPx23
import Derived.Test.YtnapfbigpegjoaaDoorPx42
import Derived.Test.YtnapfbigpegjoaaDoorPx40
import Derived.Test.YtnapfbigpegjoaaDoorPx47
/-! ### PuInts -/
/- Plain laws of the copies and comparisons of rows of whole numbers; no conditions beyond the rows' lengths. -/
namespace Go.Proofs.YtnapfbigpegjoaaDoor.P
open Go.RowKit Go.Proofs.YtnapfbigpegjoaaDoorW.PrintWords Go.Proofs.YtnapfbigpegjoaaDoorW.PrintLast Go.Proofs.YtnapfbigpegjoaaDoorW.PrintMore L
set_option linter.unusedVariables false
set_option linter.unusedSimpArgs false
theorem toIntS_ev (l : List Int) (hl : l.length ≤ 35184372088832) : Ev (fun k => laws_toIntS.f k l) l := by
  have key : ∀ i, i ≤ l.length → Ev (fun k => laws_toIntS.l0 k l (l.take i ++ List.replicate (l.length - i) 0) (i : Int)) l := by
    refine L.down ?_ fun i hi ih => ?_
    · refine L.Ev.succ ?_
      simp only [laws_toIntS.l0]
      refine L.Ev.ifn (by omega) ?_
      rw [Nat.sub_self, List.take_of_length_le (Nat.le_refl _)]
      simp only [List.replicate_zero, List.append_nil]
      exact Ev.now l
    · refine L.Ev.succ ?_
      simp only [laws_toIntS.l0]
      refine L.Ev.ifp (by omega) (L.Ev.ifp (by omega) (L.Ev.ifp ?_ ?_))
      · simp only [List.length_append, List.length_take, List.length_replicate]; omega
      · have e : (l.take i ++ List.replicate (l.length - i) 0).set i (rd l (i : Int)) = l.take (i + 1) ++ List.replicate (l.length - (i + 1)) 0 := by
          rw [L.rd_get hi]
          refine List.ext_getElem? fun j => ?_
          rw [List.getElem?_set]
          by_cases hj : i = j
          · subst hj
            rw [if_pos rfl, if_pos (by simp only [List.length_append, List.length_take, List.length_replicate]; omega), List.getElem?_append_left (by simp only [List.length_take]; omega), List.getElem?_take, if_pos (by omega), List.getElem?_eq_getElem hi]
          · rw [if_neg hj]
            by_cases h1 : j < i
            · rw [List.getElem?_append_left (by simp only [List.length_take]; omega), List.getElem?_append_left (by simp only [List.length_take]; omega), List.getElem?_take, List.getElem?_take, if_pos h1, if_pos (by omega)]
            · rw [List.getElem?_append_right (by simp only [List.length_take]; omega), List.getElem?_append_right (by simp only [List.length_take]; omega)]
              simp only [List.length_take, List.getElem?_replicate]
              by_cases h2 : j < l.length
              · rw [if_pos (by omega), if_pos (by omega)]
              · rw [if_neg (by omega), if_neg (by omega)]
        refine Ev.congr (fun k => ?_) ih
        rw [L.w64n (by omega), Int.toNat_natCast, e]
  refine Ev.congr (fun k => ?_) (key 0 (by omega))
  unfold laws_toIntS.f
  rw [if_pos (by omega), if_pos (by omega)]
  simp
theorem eqIntS_ev (l m : List Int) (hl : l.length ≤ 9223372036854775806) : Ev (fun k => laws_eqIntS.f k l m) (decide (l = m)) := by
  by_cases hlen : l.length = m.length
  · have key : ∀ i, i ≤ l.length → Ev (fun k => laws_eqIntS.l0 k l m (i : Int)) (decide (l.drop i = m.drop i)) := by
      refine L.down ?_ fun i hi ih => ?_
      · refine L.Ev.succ ?_
        simp only [laws_eqIntS.l0]
        refine L.Ev.ifn (by omega) ?_
        rw [List.drop_eq_nil_of_le (Nat.le_refl _), List.drop_eq_nil_of_le (by omega)]
        exact Ev.now _
      · refine L.Ev.succ ?_
        simp only [laws_eqIntS.l0]
        refine L.Ev.ifp (by omega) (L.Ev.ifp (by omega) (L.Ev.ifp (by omega) ?_))
        rw [L.rd_get hi, L.rd_get (l := m) (by omega), List.drop_eq_getElem_cons hi, List.drop_eq_getElem_cons (l := m) (by omega)]
        by_cases e : l[i] = m[i]'(by omega)
        · refine L.Ev.ifp e ?_
          refine Ev.congr (fun k => by rw [L.w64n (by omega)]) ?_
          have e2 : (l[i] :: List.drop (i + 1) l = m[i]'(by omega) :: List.drop (i + 1) m) = (List.drop (i + 1) l = List.drop (i + 1) m) := propext ⟨fun h => (List.cons.inj h).2, fun h => by rw [e, h]⟩
          simp only [e2]
          exact ih
        · refine L.Ev.ifn e ?_
          simp only [List.cons.injEq, e, false_and, decide_false]
          exact Ev.now _
    have h := key 0 (by omega)
    refine Ev.congr (fun k => ?_) h
    unfold laws_eqIntS.f
    rw [if_pos (by omega)]; rfl
  · have e : l ≠ m := fun h => hlen (by rw [h])
    refine Ev.congr (fun k => ?_) (f := fun _ => some false) (by simp only [e, decide_false]; exact Ev.now _)
    unfold laws_eqIntS.f
    rw [if_neg (by omega)]
theorem eqIntS_self (l : List Int) (hl : l.length ≤ 9223372036854775806) : Ev (fun k => laws_eqIntS.f k l l) true := by
  have h := eqIntS_ev l l hl
  simpa using h
end Go.Proofs.YtnapfbigpegjoaaDoor.P

/-! ### PuOrder -/
/- Plain laws of the copies and comparisons of relations; no conditions beyond the rows' lengths. -/
namespace Go.Proofs.YtnapfbigpegjoaaDoor.P
open Go.RowKit Go.Proofs.YtnapfbigpegjoaaDoorW.PrintWords Go.Proofs.YtnapfbigpegjoaaDoorW.PrintLast Go.Proofs.YtnapfbigpegjoaaDoorW.PrintMore L
set_option linter.unusedVariables false
set_option linter.unusedSimpArgs false
theorem szIntS_eq (l : List Int) (a : Int) (ha : 0 ≤ a ∧ a ≤ 1048576) (hl : l.length ≤ 9223372036854775807) : laws_szIntS.f l a = some (if (l.length : Int) ≤ a then a - l.length else -1) := by
  unfold laws_szIntS.f
  rw [L.w64 (by omega) (by omega)]
  by_cases h : (l.length : Int) ≤ a
  · rw [if_neg (by omega), if_pos h]
  · rw [if_pos (by omega), if_neg h]
theorem szOrder_eq (n : Int) (l : List Int) (a : Int) (ha : 0 ≤ a ∧ a ≤ 1048576) (hl : l.length ≤ 9223372036854775807) : laws_szOrder.f n l a = some (if (l.length : Int) ≤ a then a - l.length else -1) := by
  unfold laws_szOrder.f
  rw [szIntS_eq l a ha hl]
  simp only [Option.bind_some]
  by_cases h : (l.length : Int) ≤ a
  · rw [if_pos h, if_neg (by omega)]
  · rw [if_neg h, if_pos (by omega)]
theorem toOrder_ev (n : Int) (l : List Int) (hl : l.length ≤ 35184372088832) : Ev (fun k => laws_toOrder.f k n l) (n, l) := by
  unfold laws_toOrder.f
  exact Ev.bind (toIntS_ev l hl) (Ev.now _)
theorem eqOrder_ev (n : Int) (l : List Int) (m : Int) (o : List Int) (hl : l.length ≤ 9223372036854775806) : Ev (fun k => laws_eqOrder.f k n l m o) (decide (n = m ∧ l = o)) := by
  unfold laws_eqOrder.f
  by_cases h : n = m
  · refine L.Ev.ifp h ?_
    refine Ev.bind (eqIntS_ev l o hl) ?_
    by_cases h2 : l = o
    · simp only [h, h2, and_self, decide_true, if_true]; exact Ev.now _
    · simp only [h2, and_false, decide_false]; exact L.Ev.ifn (by simp) (Ev.now _)
  · refine L.Ev.ifn h ?_
    simp only [h, false_and, decide_false]
    exact Ev.now _
theorem eqOrder_self (n : Int) (l : List Int) (hl : l.length ≤ 9223372036854775806) : Ev (fun k => laws_eqOrder.f k n l n l) true := by
  have h := eqOrder_ev n l n l hl
  simpa using h
end Go.Proofs.YtnapfbigpegjoaaDoor.P

/-! ### PuIv -/
/- Plain laws of the copies and comparisons of rows of intervals; no conditions beyond the rows' lengths. -/
namespace Go.Proofs.YtnapfbigpegjoaaDoor.P
open Go.RowKit Go.Proofs.YtnapfbigpegjoaaDoorW.PrintWords Go.Proofs.YtnapfbigpegjoaaDoorW.PrintLast Go.Proofs.YtnapfbigpegjoaaDoorW.PrintMore L
set_option linter.unusedVariables false
set_option linter.unusedSimpArgs false
abbrev Iv := S63
abbrev LIv := S65
abbrev rdIv (l : List Iv) (i : Int) : Iv := rd_T63 l i
abbrev rdLIv (l : List LIv) (i : Int) : LIv := rd_T65 l i
theorem rdIv_get {l : List Iv} {i : Nat} (h : i < l.length) : rd_T63 l (i : Int) = l[i] := by
  simp [rd_T63, List.getD_eq_getElem?_getD, List.getElem?_eq_getElem h]
theorem rdLIv_get {l : List LIv} {i : Nat} (h : i < l.length) : rd_T65 l (i : Int) = l[i] := by
  simp [rd_T65, List.getD_eq_getElem?_getD, List.getElem?_eq_getElem h]
def toIv1 (x : LIv) : Iv := ⟨x.f0, x.f1⟩
def toIv (l : List LIv) : List Iv := l.map toIv1
theorem toIv_length (l : List LIv) : (toIv l).length = l.length := by simp [toIv]
theorem toIv_wf {l : List LIv} (h : ∀ x ∈ l, R.wf x.f0 ∧ R.wf x.f1) : ∀ x ∈ toIv l, R.wf x.f0 ∧ R.wf x.f1 := by
  intro x hx
  obtain ⟨y, hy, rfl⟩ := List.mem_map.1 hx
  exact h y hy
theorem toInterval_eq (a b : Int) : laws_toInterval.f a b = some (a, b) := rfl
theorem toIntervalS_ev (l : List LIv) (hl : l.length ≤ 1048576) : Ev (fun k => laws_toIntervalS.f k l) (toIv l) := by
  have key : ∀ i, i ≤ l.length → Ev (fun k => laws_toIntervalS.l0 k l ((toIv l).take i ++ List.replicate (l.length - i) z63) (i : Int)) (toIv l) := by
    refine L.down ?_ fun i hi ih => ?_
    · refine L.Ev.succ ?_
      simp only [laws_toIntervalS.l0]
      refine L.Ev.ifn (by omega) ?_
      rw [Nat.sub_self, List.take_of_length_le (by rw [toIv_length]; omega)]
      simp only [List.replicate_zero, List.append_nil]
      exact Ev.now _
    · refine L.Ev.succ ?_
      simp only [laws_toIntervalS.l0]
      refine L.Ev.ifp (by omega) (L.Ev.ifp (by omega) (L.Ev.bindc (toInterval_eq _ _) (L.Ev.ifp ?_ ?_)))
      · simp only [List.length_append, List.length_take, List.length_replicate, toIv_length]; omega
      · have e : ((toIv l).take i ++ List.replicate (l.length - i) z63).set i (⟨(rd_T65 l (i : Int)).f0, (rd_T65 l (i : Int)).f1⟩ : Iv) = (toIv l).take (i + 1) ++ List.replicate (l.length - (i + 1)) z63 := by
          rw [rdLIv_get hi]
          have hL : (toIv l).length = l.length := toIv_length l
          refine List.ext_getElem? fun j => ?_
          rw [List.getElem?_set]
          by_cases hj : i = j
          · subst hj
            rw [if_pos rfl, if_pos (by simp only [List.length_append, List.length_take, List.length_replicate]; omega), List.getElem?_append_left (by simp only [List.length_take]; omega), List.getElem?_take, if_pos (by omega)]
            simp [toIv, toIv1, List.getElem?_eq_getElem hi]
          · rw [if_neg hj]
            by_cases h1 : j < i
            · rw [List.getElem?_append_left (by simp only [List.length_take]; omega), List.getElem?_append_left (by simp only [List.length_take]; omega), List.getElem?_take, List.getElem?_take, if_pos h1, if_pos (by omega)]
            · rw [List.getElem?_append_right (by simp only [List.length_take]; omega), List.getElem?_append_right (by simp only [List.length_take]; omega)]
              simp only [List.length_take, List.getElem?_replicate, hL]
              by_cases h2 : j < l.length
              · rw [if_pos (by omega), if_pos (by omega)]
              · rw [if_neg (by omega), if_neg (by omega)]
        refine Ev.congr (fun k => ?_) ih
        rw [L.w64n (by omega), Int.toNat_natCast, e]
  refine Ev.congr (fun k => ?_) (key 0 (by omega))
  unfold laws_toIntervalS.f
  rw [if_pos (by omega), if_pos (by omega)]
  simp
theorem szIntervalS_eq (l : List LIv) (a : Int) (ha : 0 ≤ a ∧ a ≤ 1048576) (hl : l.length ≤ 9223372036854775807) : laws_szIntervalS.f l a = some (if (l.length : Int) ≤ a then a - l.length else -1) := by
  unfold laws_szIntervalS.f
  rw [L.w64 (by omega) (by omega)]
  by_cases h : (l.length : Int) ≤ a
  · rw [if_neg (by omega), if_pos h]
  · rw [if_pos (by omega), if_neg h]
theorem eqInterval_eq (x y : Iv) : laws_eqInterval.f x.f0 x.f1 y.f0 y.f1 = some (decide (x.f0 = y.f0 ∧ x.f1 = y.f1)) := by
  unfold laws_eqInterval.f
  by_cases h : x.f0 = y.f0 <;> by_cases h2 : x.f1 = y.f1 <;> simp [h, h2]
theorem eqIntervalS_self (l : List Iv) (hl : l.length ≤ 9223372036854775806) : Ev (fun k => laws_eqIntervalS.f k l l) true := by
  have key : ∀ i, i ≤ l.length → Ev (fun k => laws_eqIntervalS.l0 k l l (i : Int)) true := by
    refine L.down ?_ fun i hi ih => ?_
    · refine L.Ev.succ ?_
      simp only [laws_eqIntervalS.l0]
      exact L.Ev.ifn (by omega) (Ev.now _)
    · refine L.Ev.succ ?_
      simp only [laws_eqIntervalS.l0]
      refine L.Ev.ifp (by omega) (L.Ev.ifp (by omega) (L.Ev.ifp (by omega) (L.Ev.bindc (eqInterval_eq _ _) (L.Ev.ifp (by simp) ?_))))
      exact Ev.congr (fun k => by rw [L.w64n (by omega)]) ih
  refine Ev.congr (fun k => ?_) (key 0 (by omega))
  unfold laws_eqIntervalS.f
  rw [if_pos rfl]; rfl
end Go.Proofs.YtnapfbigpegjoaaDoor.P

/-! ### PuRel -/
/- Plain laws: which lists are relations, for the program and the reference alike; conditions: the numbers are 64-bit numbers. -/
namespace Go.Proofs.YtnapfbigpegjoaaDoor.P
open Go.RowKit Go.Proofs.YtnapfbigpegjoaaDoorW.PrintWords Go.Proofs.YtnapfbigpegjoaaDoorW.PrintLast Go.Proofs.YtnapfbigpegjoaaDoorW.PrintMore L
set_option linter.unusedVariables false
set_option linter.unusedSimpArgs false
theorem within_eq (a b c : Int) : impl_within.f a b c = some (decide (b ≤ a ∧ a ≤ c)) := by
  unfold impl_within.f
  by_cases h : a ≥ b
  · rw [if_pos h]; congr 1; simp; omega
  · rw [if_neg h]; congr 1; simp; omega
theorem l1In_eq (a b c : Int) : spec_l1In.f a b c = some (decide (b ≤ a ∧ a ≤ c)) := within_eq a b c
/-- all of a list lie between two numbers. -/
def allIn (l : List Int) (b c : Int) : Bool := l.all fun x => decide (b ≤ x ∧ x ≤ c)
theorem allIn_iff (l : List Int) (b c : Int) : allIn l b c = true ↔ ∀ x ∈ l, b ≤ x ∧ x ≤ c := by simp [allIn]
theorem allIn_step (l : List Int) (b c : Int) (i : Nat) (hi : i < l.length) : allIn (l.drop i) b c = (decide (b ≤ l[i] ∧ l[i] ≤ c) && allIn (l.drop (i + 1)) b c) := by
  unfold allIn; rw [List.drop_eq_getElem_cons hi, List.all_cons]
theorem allWithin_ev (l : List Int) (b c : Int) (hl : l.length ≤ 9223372036854775806) : Ev (fun k => impl_allWithin.f k l b c) (allIn l b c) := by
  have key : ∀ i, i ≤ l.length → Ev (fun k => impl_allWithin.l0 k b c l (l.length : Int) (i : Int)) (allIn (l.drop i) b c) := by
    refine L.down ?_ fun i hi ih => ?_
    · refine L.Ev.succ ?_
      simp only [impl_allWithin.l0]
      refine L.Ev.ifn (by omega) ?_
      rw [List.drop_eq_nil_of_le (Nat.le_refl _)]
      exact Ev.now _
    · refine L.Ev.succ ?_
      simp only [impl_allWithin.l0]
      refine L.Ev.ifp (by omega) (L.Ev.ifp (by omega) (L.Ev.ifp (by omega) (L.Ev.bindc (within_eq _ _ _) ?_)))
      rw [allIn_step l b c i hi, L.rd_get hi]
      by_cases h : b ≤ l[i] ∧ l[i] ≤ c
      · refine L.Ev.ifp (by simpa using h) ?_
        simp only [h, and_self, decide_true, Bool.true_and]
        exact Ev.congr (fun k => by rw [L.w64n (by omega)]) ih
      · refine L.Ev.ifn (by simpa using h) ?_
        simp only [h, decide_false, Bool.false_and]
        exact Ev.now _
  exact key 0 (by omega)
theorem l1All_same : ∀ k a b c d e, spec_l1All.l0 k a b c d e = impl_allWithin.l0 k a b c d e := by
  intro k
  induction k with
  | zero => intros; rfl
  | succ k ih => intro a b c d e; simp only [spec_l1All.l0, impl_allWithin.l0, ih, l1In_eq, within_eq]
theorem l1All_ev (l : List Int) (b c : Int) (hl : l.length ≤ 9223372036854775806) : Ev (fun k => spec_l1All.f k l b c) (allIn l b c) :=
  Ev.congr (fun k => l1All_same k b c l _ _) (allWithin_ev l b c hl)
/-- the numbers of a relation. -/
def isRel (n : Int) (l : List Int) : Bool := decide (0 ≤ n ∧ n ≤ 10 ∧ (l.length : Int) = n ∧ ∀ x ∈ l, 0 ≤ x ∧ x < 2 ^ n.toNat)
theorem isRel_iff (n : Int) (l : List Int) : isRel n l = true ↔ 0 ≤ n ∧ n ≤ 10 ∧ (l.length : Int) = n ∧ ∀ x ∈ l, 0 ≤ x ∧ x < 2 ^ n.toNat := by simp [isRel]
theorem isRel_big {n : Nat} {l : List Int} (h : isRel n l = true) : ∀ x ∈ l, 0 ≤ x ∧ x < 1024 := by
  obtain ⟨h0, h1, h2, h3⟩ := (isRel_iff _ _).1 h
  intro x hx
  obtain ⟨a, b⟩ := h3 x hx
  have : (2 : Int) ^ (n : Int).toNat ≤ 2 ^ 10 := by
    have := Nat.pow_le_pow_right (n := 2) (by decide) (show (n : Int).toNat ≤ 10 by omega)
    exact_mod_cast this
  omega
theorem isRel_ok {n : Int} {l : List Int} (h : isRel n l = true) : L.okRel n l := by
  obtain ⟨h0, h1, h2, h3⟩ := (isRel_iff _ _).1 h
  obtain ⟨m, rfl⟩ := Int.eq_ofNat_of_zero_le h0
  refine ⟨h0, by omega, h2, fun x hx => ?_⟩
  have := isRel_big h x hx
  omega
theorem IsRelation_ev (n : Int) (l : List Int) (hl : l.length ≤ 9223372036854775806) : Ev (fun k => impl_IsRelation.f k n l) (isRel n l) := by
  unfold impl_IsRelation.f
  refine L.Ev.bindc (within_eq _ _ _) ?_
  by_cases h : 0 ≤ n ∧ n ≤ 10
  · refine L.Ev.ifp (by simpa using h) ?_
    by_cases h2 : (l.length : Int) = n
    · refine L.Ev.ifp h2 (L.Ev.ifp h.1 ?_)
      obtain ⟨m, rfl⟩ := Int.eq_ofNat_of_zero_le h.1
      have e : wrap64 (shl .i64 1 (m : Int) - 1) = 2 ^ m - 1 := by
        rw [L.shl_one (by omega)]
        have h1 : (2 : Nat) ^ m ≤ 2 ^ 10 := Nat.pow_le_pow_right (by decide) (by omega)
        have e3 : ((2 ^ m : Nat) : Int) = 2 ^ m := by push_cast; rfl
        rw [← e3]
        generalize (2 : Nat) ^ m = z at *
        rw [L.w64 (by omega) (by omega)]
      have e2 : isRel (m : Int) l = allIn l 0 (2 ^ m - 1) := by
        rw [Bool.eq_iff_iff, isRel_iff, allIn_iff, Int.toNat_natCast]
        constructor
        · rintro ⟨_, _, _, h4⟩ x hx
          have := h4 x hx
          omega
        · intro h4
          refine ⟨h.1, h.2, h2, fun x hx => ?_⟩
          have := h4 x hx
          omega
      refine Ev.congr (fun k => ?_) (Ev.bind (allWithin_ev l 0 (2 ^ m - 1) hl) (f := fun _ t => some t) (r := isRel (m : Int) l) (by rw [e2]; exact Ev.now _))
      rw [e]
    · refine L.Ev.ifn h2 ?_
      have e : isRel n l = false := by
        rw [← Bool.not_eq_true, isRel_iff]; rintro ⟨_, _, h3, _⟩; exact h2 h3
      rw [e]; exact Ev.now _
  · refine L.Ev.ifn (by simpa using h) ?_
    have e : isRel n l = false := by
      rw [← Bool.not_eq_true, isRel_iff]; rintro ⟨h3, h4, _⟩; exact h ⟨h3, h4⟩
    rw [e]; exact Ev.now _
theorem orRelation_ev (n : Int) (l : List Int) (hl : l.length ≤ 9223372036854775806) : Ev (fun k => spec_orRelation.f k n l) (isRel n l) := by
  refine Ev.congr (fun k => ?_) (IsRelation_ev n l hl)
  unfold spec_orRelation.f impl_IsRelation.f
  simp only [l1In_eq, within_eq]
  have e : ∀ b c, spec_l1All.f k l b c = impl_allWithin.f k l b c := fun b c => l1All_same k b c l _ _
  simp only [e]
end Go.Proofs.YtnapfbigpegjoaaDoor.P

/-! ### PuRel2 -/
/- Plain laws: single elements of relations: above, below, in bounds; for the program and the reference alike. -/
namespace Go.Proofs.YtnapfbigpegjoaaDoor.P
open Go.RowKit Go.Proofs.YtnapfbigpegjoaaDoorW.PrintWords Go.Proofs.YtnapfbigpegjoaaDoorW.PrintLast Go.Proofs.YtnapfbigpegjoaaDoorW.PrintMore L
set_option linter.unusedVariables false
set_option linter.unusedSimpArgs false
theorem isRel_nat {n : Int} {l : List Int} (h : isRel n l = true) : ∃ m : Nat, n = m ∧ m ≤ 10 ∧ l.length = m := by
  obtain ⟨h0, h1, h2, h3⟩ := (isRel_iff _ _).1 h
  obtain ⟨m, rfl⟩ := Int.eq_ofNat_of_zero_le h0
  exact ⟨m, rfl, by omega, by omega⟩
theorem orHas_eq {n : Int} {l : List Int} (h : L.okRel n l) (i j : Nat) (hj : j ≤ 64) : spec_orHas.f (rd l (i : Int)) (j : Int) = some (L.bitAt l i j) := by
  unfold spec_orHas.f
  rw [if_pos (by omega), h.bitm i j hj]
def R0 (n : Int) : Prop := -9223372036854775807 ≤ n ∧ n ≤ 9223372036854775807
end Go.Proofs.YtnapfbigpegjoaaDoor.P

/-! ### PuRows -/
/- Plain lemmas: rows of bits that are built element by element; relations that are built row by row or mark by mark. -/
namespace Go.Proofs.YtnapfbigpegjoaaDoor.L
open Go.RowKit Go.Proofs.YtnapfbigpegjoaaDoorW.PrintWords Go.Proofs.YtnapfbigpegjoaaDoorW.PrintLast Go.Proofs.YtnapfbigpegjoaaDoorW.PrintMore
set_option linter.unusedVariables false
set_option linter.unusedSimpArgs false
theorem two_lt {j : Nat} (hj : j ≤ 60) : (2 : Nat) ^ j < 2 ^ 62 := Nat.pow_lt_pow_right (by decide) (by omega)
theorem relRow_lt62 (f : Nat → Bool) {j : Nat} (hj : j ≤ 60) : relRow f j < 2 ^ 62 := Nat.lt_trans (relRow_lt f j) (two_lt hj)
theorem row_yes {f : Nat → Bool} {j : Nat} (h : f j = true) (hj : j ≤ 60) : Go.bits .or .i64 ((relRow f j : Nat) : Int) (shl .i64 1 (j : Int)) = ((relRow f (j + 1) : Nat) : Int) := by
  rw [shl_one (by omega), or_nat (relRow_lt62 f hj) (two_lt hj)]
  show _ = ((if f j = true then _ else _ : Nat) : Int)
  rw [if_pos h]
theorem row_no {f : Nat → Bool} {j : Nat} (h : f j = false) : ((relRow f j : Nat) : Int) = ((relRow f (j + 1) : Nat) : Int) := by
  show _ = ((if f j = true then _ else _ : Nat) : Int)
  rw [if_neg (by rw [h]; simp)]
/-- the first i rows of a relation. -/
def relPre (n : Nat) (is : Nat → Nat → Bool) (i : Nat) : List Int := cast ((List.range i).map fun i => relRow (is i) n)
theorem relPre_zero (n : Nat) (is : Nat → Nat → Bool) : relPre n is 0 = [] := rfl
theorem relPre_length (n : Nat) (is : Nat → Nat → Bool) (i : Nat) : (relPre n is i).length = i := by simp [relPre, cast_length]
theorem relPre_full (n : Nat) (is : Nat → Nat → Bool) : relPre n is n = relL n is := rfl
theorem relPre_succ (n : Nat) (is : Nat → Nat → Bool) (i : Nat) : relPre n is i ++ [((relRow (is i) n : Nat) : Int)] = relPre n is (i + 1) := by
  simp [relPre, cast, List.range_succ]
theorem rd_relL (n : Nat) (is : Nat → Nat → Bool) {i : Nat} (h : i < n) : rd (relL n is) (i : Int) = ((relRow (is i) n : Nat) : Int) := by
  unfold relL; rw [rd_cast, relN_get n is h]
theorem relRow_congr {f g : Nat → Bool} {n : Nat} (h : ∀ j, j < n → f j = g j) : relRow f n = relRow g n := by
  refine Nat.eq_of_testBit_eq fun j => ?_
  rw [relRow_testBit, relRow_testBit]
  by_cases hj : j < n
  · rw [h j hj]
  · simp [hj]
theorem relRow_zero {n : Nat} : relRow (fun _ => false) n = 0 := by
  refine Nat.eq_of_testBit_eq fun j => ?_
  rw [relRow_testBit]; simp
theorem relL_none (n : Nat) : relL n (fun _ _ => false) = List.replicate n 0 := by
  refine List.ext_getElem (by simp [relL_length]) fun i h1 h2 => ?_
  have h3 : i < n := by rw [relL_length] at h1; exact h1
  have e := rd_relL n (fun _ _ => false) h3
  rw [rd_get h1, relRow_zero] at e
  rw [e]; simp
theorem relL_set {n : Nat} {is : Nat → Nat → Bool} {i : Nat} (hi : i < n) (f : Nat → Bool) : (relL n is).set i ((relRow f n : Nat) : Int) = relL n (fun a b => if a = i then f b else is a b) := by
  refine List.ext_getElem (by simp [relL_length]) fun j h1 h2 => ?_
  have h3 : j < n := by rw [relL_length] at h2; exact h2
  rw [List.getElem_set, ← rd_get h2, rd_relL n _ h3]
  by_cases e : i = j
  · subst e
    simp
  · rw [if_neg e, ← rd_get (by rw [relL_length]; exact h3), rd_relL n _ h3]
    exact congrArg (fun (x : Nat) => (x : Int)) (relRow_congr fun b _ => by show is j b = if j = i then f b else is j b; rw [if_neg (by omega)])
/-- a mark more. -/
theorem relL_mark {n : Nat} (hn : n ≤ 60) {is : Nat → Nat → Bool} {i j : Nat} (hi : i < n) (hj : j < n) : (relL n is).set i (Go.bits .or .i64 (rd (relL n is) (i : Int)) (shl .i64 1 (j : Int))) = relL n (fun a b => is a b || (decide (a = i) && decide (b = j))) := by
  rw [rd_relL n is hi, shl_one (by omega), or_nat (relRow_lt62 _ hn) (two_lt (by omega))]
  have e : relRow (is i) n ||| 2 ^ j = relRow (fun b => is i b || decide (b = j)) n := by
    refine Nat.eq_of_testBit_eq fun k => ?_
    rw [Nat.testBit_or, relRow_testBit, relRow_testBit, Nat.testBit_two_pow]
    by_cases hk : k < n
    · by_cases hkj : j = k
      · subst hkj; simp [hk]
      · simp [hk, hkj, show ¬ k = j from fun h => hkj h.symm]
    · simp [hk, show ¬ j = k by omega]
  rw [e, relL_set hi]
  refine relL_congr fun a b ha hb => ?_
  by_cases h : a = i
  · subst h; simp
  · simp [h]
/-- a row more in a row. -/
theorem relL_or {n : Nat} (hn : n ≤ 60) {is : Nat → Nat → Bool} {i k : Nat} (hi : i < n) (hk : k < n) : (relL n is).set i (Go.bits .or .i64 (rd (relL n is) (i : Int)) (rd (relL n is) (k : Int))) = relL n (fun a b => is a b || (decide (a = i) && is k b)) := by
  rw [rd_relL n is hi, rd_relL n is hk, or_nat (relRow_lt62 _ hn) (relRow_lt62 _ hn)]
  have e : relRow (is i) n ||| relRow (is k) n = relRow (fun b => is i b || is k b) n := by
    refine Nat.eq_of_testBit_eq fun j => ?_
    rw [Nat.testBit_or, relRow_testBit, relRow_testBit, relRow_testBit]
    cases decide (j < n) <;> simp
  rw [e, relL_set hi]
  refine relL_congr fun a b ha hb => ?_
  by_cases h : a = i
  · subst h; simp
  · simp [h]
/-- a relation that came in is the relation of its bits. -/
theorem okRel_eq {n : Nat} {l : List Int} (hl : l.length = n) (hn : n ≤ 60) (hb : ∀ x ∈ l, 0 ≤ x ∧ x < 2 ^ n) : l = relL n (bitAt l) := by
  refine List.ext_getElem (by rw [relL_length]; exact hl) fun i h1 h2 => ?_
  have h3 : i < n := by omega
  rw [← rd_get h2, rd_relL n _ h3]
  obtain ⟨a, b⟩ := hb l[i] (List.getElem_mem h1)
  obtain ⟨x, hx⟩ := Int.eq_ofNat_of_zero_le a
  rw [hx]
  have hlt : x < 2 ^ n := by rw [hx] at b; exact_mod_cast b
  congr 1
  refine Nat.eq_of_testBit_eq fun j => ?_
  rw [relRow_testBit]
  have e : bitAt l i j = x.testBit j := by
    unfold bitAt
    rw [List.getD_eq_getElem?_getD, List.getElem?_eq_getElem h1, Option.getD_some, hx, Int.toNat_natCast]
  rw [e]
  by_cases hj : j < n
  · simp [hj]
  · simp only [hj, decide_false, Bool.false_and]
    exact Nat.testBit_lt_two_pow (Nat.lt_of_lt_of_le hlt (Nat.pow_le_pow_right (by decide) (by omega)))
theorem rd_okRel {n : Nat} {l : List Int} (hl : l.length = n) (hn : n ≤ 60) (hb : ∀ x ∈ l, 0 ≤ x ∧ x < 2 ^ n) {i : Nat} (hi : i < n) : rd l (i : Int) = ((relRow (bitAt l i) n : Nat) : Int) := by
  have h := okRel_eq hl hn hb
  have e : rd l (i : Int) = rd (relL n (bitAt l)) (i : Int) := by rw [← h]
  rw [e, rd_relL n _ hi]
end Go.Proofs.YtnapfbigpegjoaaDoor.L

/-! ### PuMembers -/
/- Plain laws: the elements of a set, in the program and in the reference; sets of numbers below ten. -/
namespace Go.Proofs.YtnapfbigpegjoaaDoor.P
open Go.RowKit Go.Proofs.YtnapfbigpegjoaaDoorW.PrintWords Go.Proofs.YtnapfbigpegjoaaDoorW.PrintLast Go.Proofs.YtnapfbigpegjoaaDoorW.PrintMore L
set_option linter.unusedVariables false
set_option linter.unusedSimpArgs false
/-- the elements of a set, in order. -/
def membersN (x : Nat) : List Nat := (List.range 10).filter fun i => x.testBit i
theorem membersN_step : ∀ x : Nat, x < 1024 → x ≠ 0 → membersN x = Lib.ctz 64 x :: membersN (x &&& (x - 1)) ∧ x &&& (x - 1) < x := by decide +kernel
theorem membersN_zero : membersN 0 = [] := by decide +kernel
theorem membersN_length (x : Nat) : (membersN x).length ≤ 10 := by
  have := List.length_filter_le (fun i => x.testBit i) (List.range 10)
  rw [List.length_range] at this; exact this
theorem mem_membersN {x i : Nat} : i ∈ membersN x ↔ i < 10 ∧ x.testBit i = true := by simp [membersN]
theorem mem_members_lt {x m i : Nat} (hx : x < 2 ^ m) (h : i ∈ membersN x) : i < m := by
  have h2 := (mem_membersN.1 h).2
  by_cases hi : i < m
  · exact hi
  · rw [Nat.testBit_lt_two_pow (Nat.lt_of_lt_of_le hx (Nat.pow_le_pow_right (by decide) (by omega)))] at h2
    cases h2
theorem membersLoop_ev : ∀ x : Nat, x < 1024 → ∀ acc : List Int, acc.length + 10 < 1048576 → Ev (fun k => impl_members.l0 k (x : Int) acc) (acc ++ L.cast (membersN x)) := by
  have key : ∀ n x : Nat, x < n → x < 1024 → ∀ acc : List Int, acc.length + (membersN x).length < 1048600 → Ev (fun k => impl_members.l0 k (x : Int) acc) (acc ++ L.cast (membersN x)) := by
    intro n
    induction n with
    | zero => intro x hx; omega
    | succ n ih =>
      intro x hx h10 acc hacc
      refine L.Ev.succ ?_
      simp only [impl_members.l0]
      by_cases h0 : x = 0
      · subst h0
        rw [membersN_zero]
        refine L.Ev.ifp (by omega) ?_
        have e : acc ++ L.cast [] = acc := by simp [L.cast]
        rw [e]; exact Ev.now _
      · obtain ⟨e1, e2⟩ := membersN_step x h10 h0
        refine L.Ev.ifn (by omega) (L.Ev.bindc (a := ((Lib.ctz 64 x : Nat) : Int)) ?_ (L.Ev.ifp (by omega) ?_))
        · rw [IntKind.wrap_u64]
          unfold bits_TrailingZeros.f
          rw [if_pos (by omega)]
          congr 3; omega
        · rw [L.w64 (by omega) (by omega), show ((x : Int) - 1) = ((x - 1 : Nat) : Int) by omega, L.and_nat (by omega) (by omega), e1]
          rw [e1, List.length_cons] at hacc
          have := ih (x &&& (x - 1)) (by omega) (by omega) (acc ++ [((Lib.ctz 64 x : Nat) : Int)]) (by rw [List.length_append, List.length_singleton]; omega)
          rw [List.append_assoc] at this
          exact this
  intro x hx acc hacc
  have := membersN_length x
  exact key (x + 1) x (by omega) hx acc (by omega)
theorem members_ev (x : Nat) (hx : x < 1024) : Ev (fun k => impl_members.f k (x : Int)) (L.cast (membersN x)) := by
  have := membersLoop_ev x hx [] (by simp)
  rw [List.nil_append] at this
  exact this
theorem orHas_nat {x j : Nat} (hj : j ≤ 64) : spec_orHas.f (x : Int) (j : Int) = some (x.testBit j) := by
  unfold spec_orHas.f
  rw [if_pos (by omega), L.bit_mod hj]
theorem orList_ev (x : Nat) (hx : x < 1024) : Ev (fun k => spec_orList.f k (x : Int)) (L.cast (membersN x)) := by
  have key : ∀ i, i ≤ 10 → Ev (fun k => spec_orList.l0 k (x : Int) (L.cast ((List.range i).filter fun i => x.testBit i)) (i : Int)) (L.cast (membersN x)) := by
    refine L.down ?_ fun i hi ih => ?_
    · refine L.Ev.succ ?_
      simp only [spec_orList.l0]
      refine L.Ev.ifp (by omega) (L.Ev.ifn ?_ (Ev.now _))
      rw [L.shr_nat (by omega), Nat.shiftRight_eq_div_pow, Nat.div_eq_of_lt (by simpa using hx)]; simp
    · refine L.Ev.succ ?_
      simp only [spec_orList.l0]
      refine L.Ev.ifp (by omega) ?_
      rw [L.shr_nat (by omega)]
      by_cases h : x >>> i = 0
      · refine L.Ev.ifn (by rw [h]; simp) ?_
        have hlt : x < 2 ^ i := by
          rw [Nat.shiftRight_eq_div_pow] at h
          exact (Nat.div_eq_zero_iff_lt (Nat.two_pow_pos i)).1 h
        have e : membersN x = (List.range i).filter fun i => x.testBit i := by
          unfold membersN
          rw [show 10 = i + (10 - i) by omega, List.range_add, List.filter_append]
          have e2 : ((List.range (10 - i)).map (i + ·)).filter (fun i => x.testBit i) = [] := by
            rw [List.filter_eq_nil_iff]
            intro a ha
            obtain ⟨b, _, rfl⟩ := List.mem_map.1 ha
            rw [Nat.testBit_lt_two_pow (Nat.lt_of_lt_of_le hlt (Nat.pow_le_pow_right (by decide) (by omega)))]; simp
          rw [e2, List.append_nil]
        rw [e]; exact Ev.now _
      · refine L.Ev.ifp (by have := Nat.pos_of_ne_zero h; exact_mod_cast this) (L.Ev.bindc (orHas_nat (by omega)) ?_)
        have e : (List.range (i + 1)).filter (fun i => x.testBit i) = (List.range i).filter (fun i => x.testBit i) ++ if x.testBit i then [i] else [] := by
          rw [List.range_succ, List.filter_append]
          cases hb : x.testBit i <;> simp [hb]
        rw [e] at ih
        have hlen : ((List.range i).filter fun i => x.testBit i).length ≤ 10 := by
          have := List.length_filter_le (fun i => x.testBit i) (List.range i)
          rw [List.length_range] at this; omega
        cases hb : x.testBit i with
        | true =>
          refine L.Ev.ifp rfl (L.Ev.ifp (by rw [L.cast_length]; omega) ?_)
          rw [hb, if_pos rfl, L.cast_append] at ih
          exact Ev.congr (fun k => by rw [L.w64n (by omega)]; rfl) ih
        | false =>
          refine L.Ev.ifn (by simp) ?_
          rw [hb, if_neg (by simp), List.append_nil] at ih
          exact Ev.congr (fun k => by rw [L.w64n (by omega)]) ih
  exact key 0 (by omega)
end Go.Proofs.YtnapfbigpegjoaaDoor.P

/-! ### PuOrd -/
/- Plain laws: which relations are orders, for the program and the reference alike. -/
namespace Go.Proofs.YtnapfbigpegjoaaDoor.P
open Go.RowKit Go.Proofs.YtnapfbigpegjoaaDoorW.PrintWords Go.Proofs.YtnapfbigpegjoaaDoorW.PrintLast Go.Proofs.YtnapfbigpegjoaaDoorW.PrintMore L
set_option linter.unusedVariables false
set_option linter.unusedSimpArgs false
def rowN (l : List Int) (m i : Nat) : Nat := L.relRow (L.bitAt l i) m
theorem rowN_lt (l : List Int) (m i : Nat) : rowN l m i < 2 ^ m := L.relRow_lt _ _
theorem rowN_bit (l : List Int) (m i j : Nat) : (rowN l m i).testBit j = (decide (j < m) && L.bitAt l i j) := L.relRow_testBit _ _ _
theorem rel_len {m : Nat} {l : List Int} (h : isRel (m : Int) l = true) : l.length = m ∧ m ≤ 10 := by
  obtain ⟨m', hm', hm, hlm⟩ := isRel_nat h
  omega
theorem rd_rowN {m : Nat} {l : List Int} (h : isRel (m : Int) l = true) {i : Nat} (hi : i < m) : rd l (i : Int) = ((rowN l m i : Nat) : Int) := by
  have h2 := ((isRel_iff _ _).1 h).2.2.2
  rw [Int.toNat_natCast] at h2
  exact L.rd_okRel (rel_len h).1 (by have := (rel_len h).2; omega) h2 hi
theorem rowN_lt10 (l : List Int) {m : Nat} (hm : m ≤ 10) (i : Nat) : rowN l m i < 1024 :=
  Nat.lt_of_lt_of_le (rowN_lt l m i) (Nat.pow_le_pow_right (n := 2) (by decide) hm)
def ordRow (l : List Int) (m i : Nat) : Bool := (membersN (rowN l m i)).all fun j => L.diff (rowN l m j) (rowN l m i) == 0
def ordAt (l : List Int) (m i : Nat) : Bool := !L.bitAt l i i && ordRow l m i
def ordB (l : List Int) (m : Nat) : Bool := (List.range m).all (ordAt l m)
def isOrd (n : Int) (l : List Int) : Bool := isRel n l && ordB l n.toNat
theorem range_drop_step (f : Nat → Bool) (n i : Nat) (hi : i < n) : ((List.range n).drop i).all f = (f i && ((List.range n).drop (i + 1)).all f) := by
  rw [List.drop_eq_getElem_cons (by simpa using hi), List.all_cons]; simp
theorem range_drop_end (f : Nat → Bool) (n : Nat) : ((List.range n).drop n).all f = true := by rw [List.drop_eq_nil_of_le (by simp)]; rfl
theorem IsOrderLoop_ev {m : Nat} {l : List Int} (h : isRel (m : Int) l = true) : Ev (fun k => impl_IsOrder.l0 k l (l.length : Int) 0 (m : Int) l) (ordB l m) := by
  obtain ⟨h1, h2⟩ := rel_len h
  have ok := isRel_ok h
  have k1 : ∀ i, i < m → Ev (fun k => impl_IsOrder.l0 k l (l.length : Int) ((i + 1 : Nat) : Int) (m : Int) l) (((List.range m).drop (i + 1)).all (ordAt l m)) →
      ∀ j, j ≤ (membersN (rowN l m i)).length → Ev (fun k => impl_IsOrder.l1 k ((rowN l m i : Nat) : Int) l (l.length : Int) (i : Int) (L.cast (membersN (rowN l m i))) ((L.cast (membersN (rowN l m i))).length : Int) (j : Int) (m : Int) l)
        (((membersN (rowN l m i)).drop j).all (fun j => L.diff (rowN l m j) (rowN l m i) == 0) && ((List.range m).drop (i + 1)).all (ordAt l m)) := by
    intro i hi hk
    have hl10 := membersN_length (rowN l m i)
    refine L.down ?_ fun j hj ih => ?_
    · refine L.Ev.succ ?_
      simp only [impl_IsOrder.l1]
      rw [List.drop_eq_nil_of_le (Nat.le_refl _), List.all_nil, Bool.true_and]
      refine L.Ev.ifn (by rw [L.cast_length]; omega) ?_
      rw [L.w64n (by omega)]; exact hk
    · refine L.Ev.succ ?_
      simp only [impl_IsOrder.l1]
      have hmem := mem_members_lt (rowN_lt l m i) (List.getElem_mem hj)
      have e : rd (L.cast (membersN (rowN l m i))) (j : Int) = (((membersN (rowN l m i))[j] : Nat) : Int) := by
        rw [L.rd_cast, List.getD_eq_getElem?_getD, List.getElem?_eq_getElem hj]; rfl
      rw [e, rd_rowN h hmem, L.andNot_nat (by have := rowN_lt10 l h2 (membersN (rowN l m i))[j]; omega) (by have := rowN_lt10 l h2 i; omega), List.drop_eq_getElem_cons hj, List.all_cons]
      refine L.Ev.ifp (by rw [L.cast_length]; omega) (L.Ev.ifp (by omega) (L.Ev.ifp (by rw [L.cast_length]; omega) (L.Ev.ifp (by omega) (L.Ev.ifp (by omega) ?_))))
      by_cases hd : L.diff (rowN l m (membersN (rowN l m i))[j]) (rowN l m i) = 0
      · refine L.Ev.ifp (by rw [hd]; rfl) ?_
        have e2 : (L.diff (rowN l m (membersN (rowN l m i))[j]) (rowN l m i) == 0) = true := by rw [hd]; rfl
        rw [e2, Bool.true_and]
        exact Ev.congr (fun k => by rw [L.w64n (by omega)]) ih
      · refine L.Ev.ifn (by omega) ?_
        have e2 : (L.diff (rowN l m (membersN (rowN l m i))[j]) (rowN l m i) == 0) = false := by simp [hd]
        rw [e2, Bool.false_and, Bool.false_and]
        exact Ev.now _
  have k0 : ∀ i, i ≤ m → Ev (fun k => impl_IsOrder.l0 k l (l.length : Int) (i : Int) (m : Int) l) (((List.range m).drop i).all (ordAt l m)) := by
    refine L.down ?_ fun i hi ih => ?_
    · refine L.Ev.succ ?_
      simp only [impl_IsOrder.l0]
      rw [range_drop_end]
      exact L.Ev.ifn (by omega) (Ev.now _)
    · refine L.Ev.succ ?_
      simp only [impl_IsOrder.l0]
      rw [range_drop_step _ _ _ hi]
      refine L.Ev.ifp (by omega) (L.Ev.ifp (by omega) (L.Ev.ifp (by omega) (L.Ev.bindc (impl_Order_better.tells ok i i (by omega) (by omega)) ?_)))
      unfold ordAt
      cases hb : L.bitAt l i i with
      | true => exact L.Ev.ifp rfl (by simp only [Bool.not_true, Bool.false_and]; exact Ev.now _)
      | false =>
        refine L.Ev.ifn (by simp) ?_
        rw [rd_rowN h hi]
        refine Ev.bind (members_ev _ (rowN_lt10 l h2 i)) ?_
        have := k1 i hi ih 0 (by omega)
        rw [List.drop_zero] at this
        simp only [Bool.not_false, Bool.true_and]
        exact this
  have := k0 0 (by omega)
  rw [List.drop_zero] at this
  exact this
theorem orGoodLoop_ev {m : Nat} {l : List Int} (h : isRel (m : Int) l = true) : Ev (fun k => spec_orGood.l0 k l (l.length : Int) 0 (m : Int) l) (ordB l m) := by
  obtain ⟨h1, h2⟩ := rel_len h
  have ok := isRel_ok h
  have k1 : ∀ i, i < m → Ev (fun k => spec_orGood.l0 k l (l.length : Int) ((i + 1 : Nat) : Int) (m : Int) l) (((List.range m).drop (i + 1)).all (ordAt l m)) →
      ∀ j, j ≤ (membersN (rowN l m i)).length → Ev (fun k => spec_orGood.l1 k ((rowN l m i : Nat) : Int) l (l.length : Int) (i : Int) (L.cast (membersN (rowN l m i))) ((L.cast (membersN (rowN l m i))).length : Int) (j : Int) (m : Int) l)
        (((membersN (rowN l m i)).drop j).all (fun j => L.diff (rowN l m j) (rowN l m i) == 0) && ((List.range m).drop (i + 1)).all (ordAt l m)) := by
    intro i hi hk
    have hl10 := membersN_length (rowN l m i)
    refine L.down ?_ fun j hj ih => ?_
    · refine L.Ev.succ ?_
      simp only [spec_orGood.l1]
      rw [List.drop_eq_nil_of_le (Nat.le_refl _), List.all_nil, Bool.true_and]
      refine L.Ev.ifn (by rw [L.cast_length]; omega) ?_
      rw [L.w64n (by omega)]; exact hk
    · refine L.Ev.succ ?_
      simp only [spec_orGood.l1]
      have hmem := mem_members_lt (rowN_lt l m i) (List.getElem_mem hj)
      have e : rd (L.cast (membersN (rowN l m i))) (j : Int) = (((membersN (rowN l m i))[j] : Nat) : Int) := by
        rw [L.rd_cast, List.getD_eq_getElem?_getD, List.getElem?_eq_getElem hj]; rfl
      rw [e, rd_rowN h hmem, L.andNot_nat (by have := rowN_lt10 l h2 (membersN (rowN l m i))[j]; omega) (by have := rowN_lt10 l h2 i; omega), List.drop_eq_getElem_cons hj, List.all_cons]
      refine L.Ev.ifp (by rw [L.cast_length]; omega) (L.Ev.ifp (by omega) (L.Ev.ifp (by rw [L.cast_length]; omega) (L.Ev.ifp (by omega) (L.Ev.ifp (by omega) ?_))))
      by_cases hd : L.diff (rowN l m (membersN (rowN l m i))[j]) (rowN l m i) = 0
      · refine L.Ev.ifp (by rw [hd]; rfl) ?_
        have e2 : (L.diff (rowN l m (membersN (rowN l m i))[j]) (rowN l m i) == 0) = true := by rw [hd]; rfl
        rw [e2, Bool.true_and]
        exact Ev.congr (fun k => by rw [L.w64n (by omega)]) ih
      · refine L.Ev.ifn (by omega) ?_
        have e2 : (L.diff (rowN l m (membersN (rowN l m i))[j]) (rowN l m i) == 0) = false := by simp [hd]
        rw [e2, Bool.false_and, Bool.false_and]
        exact Ev.now _
  have k0 : ∀ i, i ≤ m → Ev (fun k => spec_orGood.l0 k l (l.length : Int) (i : Int) (m : Int) l) (((List.range m).drop i).all (ordAt l m)) := by
    refine L.down ?_ fun i hi ih => ?_
    · refine L.Ev.succ ?_
      simp only [spec_orGood.l0]
      rw [range_drop_end]
      exact L.Ev.ifn (by omega) (Ev.now _)
    · refine L.Ev.succ ?_
      simp only [spec_orGood.l0]
      rw [range_drop_step _ _ _ hi]
      refine L.Ev.ifp (by omega) (L.Ev.ifp (by omega) (L.Ev.ifp (by omega) (L.Ev.bindc (orHas_eq ok i i (by omega)) ?_)))
      unfold ordAt
      cases hb : L.bitAt l i i with
      | true => exact L.Ev.ifp rfl (by simp only [Bool.not_true, Bool.false_and]; exact Ev.now _)
      | false =>
        refine L.Ev.ifn (by simp) ?_
        rw [rd_rowN h hi]
        refine Ev.bind (orList_ev _ (rowN_lt10 l h2 i)) ?_
        have := k1 i hi ih 0 (by omega)
        rw [List.drop_zero] at this
        simp only [Bool.not_false, Bool.true_and]
        exact this
  have := k0 0 (by omega)
  rw [List.drop_zero] at this
  exact this
theorem IsOrder_ev (n : Int) (l : List Int) (hl : l.length ≤ 1048576) : Ev (fun k => impl_IsOrder.f k n l) (isOrd n l) := by
  unfold impl_IsOrder.f isOrd
  refine Ev.bind (IsRelation_ev n l (by omega)) ?_
  cases h : isRel n l with
  | false => exact L.Ev.ifn (by simp) (by rw [Bool.false_and]; exact Ev.now _)
  | true =>
    obtain ⟨m, rfl, hm, hlm⟩ := isRel_nat h
    refine L.Ev.ifp rfl ?_
    rw [Bool.true_and, Int.toNat_natCast]
    exact IsOrderLoop_ev h
theorem orGood_ev (n : Int) (l : List Int) (hl : l.length ≤ 1048576) : Ev (fun k => spec_orGood.f k n l) (isOrd n l) := by
  unfold spec_orGood.f isOrd
  refine Ev.bind (orRelation_ev n l (by omega)) ?_
  cases h : isRel n l with
  | false => exact L.Ev.ifn (by simp) (by rw [Bool.false_and]; exact Ev.now _)
  | true =>
    obtain ⟨m, rfl, hm, hlm⟩ := isRel_nat h
    refine L.Ev.ifp rfl ?_
    rw [Bool.true_and, Int.toNat_natCast]
    exact orGoodLoop_ev h
theorem isOrd_rel {n : Int} {l : List Int} (h : isOrd n l = true) : isRel n l = true := by
  unfold isOrd at h; rw [Bool.and_eq_true] at h; exact h.1
end Go.Proofs.YtnapfbigpegjoaaDoor.P

/-! ### PuIvIs -/
/- Plain laws: which rows are intervals, for the program and the reference alike. -/
namespace Go.Proofs.YtnapfbigpegjoaaDoor.P
open Go.RowKit Go.Proofs.YtnapfbigpegjoaaDoorW.PrintWords Go.Proofs.YtnapfbigpegjoaaDoorW.PrintLast Go.Proofs.YtnapfbigpegjoaaDoorW.PrintMore L
set_option linter.unusedVariables false
set_option linter.unusedSimpArgs false
def okIv1 (x : Iv) : Bool := decide (-1000 ≤ x.f0 ∧ x.f0 ≤ x.f1 ∧ x.f1 ≤ 1000)
def okIv (l : List Iv) : Bool := l.all okIv1 && decide (l.length ≤ 10)
theorem okIv_iff (l : List Iv) : okIv l = true ↔ (∀ x ∈ l, -1000 ≤ x.f0 ∧ x.f0 ≤ x.f1 ∧ x.f1 ≤ 1000) ∧ l.length ≤ 10 := by
  simp [okIv, okIv1]
theorem okIv_step (l : List Iv) (i : Nat) (hi : i < l.length) : (l.drop i).all okIv1 = (okIv1 l[i] && (l.drop (i + 1)).all okIv1) := by
  rw [List.drop_eq_getElem_cons hi, List.all_cons]
theorem AreIntervals_ev (l : List Iv) (hl : l.length ≤ 1048576) : Ev (fun k => impl_AreIntervals.f k l) (okIv l) := by
  have key : ∀ i, i ≤ l.length → Ev (fun k => impl_AreIntervals.l0 k l l (l.length : Int) (i : Int)) ((l.drop i).all okIv1 && decide (l.length ≤ 10)) := by
    refine L.down ?_ fun i hi ih => ?_
    · refine L.Ev.succ ?_
      simp only [impl_AreIntervals.l0]
      refine L.Ev.ifn (by omega) ?_
      rw [List.drop_eq_nil_of_le (Nat.le_refl _)]
      have e : decide ((l.length : Int) ≤ 10) = decide (l.length ≤ 10) := by simp only [decide_eq_decide]; omega
      rw [e]; exact Ev.now _
    · refine L.Ev.succ ?_
      simp only [impl_AreIntervals.l0]
      rw [okIv_step l i hi, rdIv_get hi]
      refine L.Ev.ifp (by omega) (L.Ev.ifp (by omega) (L.Ev.ifp (by omega) (L.Ev.bindc (within_eq _ _ _) ?_)))
      by_cases h : -1000 ≤ (l[i]).f0 ∧ (l[i]).f0 ≤ 1000
      · refine L.Ev.ifp (by simpa using h) (L.Ev.bindc (within_eq _ _ _) ?_)
        by_cases h2 : (l[i]).f0 ≤ (l[i]).f1 ∧ (l[i]).f1 ≤ 1000
        · refine L.Ev.ifp (by simpa using h2) ?_
          have e : okIv1 l[i] = true := by unfold okIv1; simp; omega
          rw [e, Bool.true_and]
          exact Ev.congr (fun k => by rw [L.w64n (by omega)]) ih
        · refine L.Ev.ifn (by simpa using h2) ?_
          have e : okIv1 l[i] = false := by unfold okIv1; simp; omega
          rw [e]; exact Ev.now _
      · refine L.Ev.ifn (by simpa using h) ?_
        have e : okIv1 l[i] = false := by unfold okIv1; simp; omega
        rw [e]; exact Ev.now _
  exact key 0 (by omega)
theorem ivGood_ev (l : List Iv) (hl : l.length ≤ 1048576) : Ev (fun k => spec_ivGood.f k l) (okIv l) := by
  have key : ∀ i, i ≤ l.length → Ev (fun k => spec_ivGood.l0 k l l (l.length : Int) (i : Int)) ((l.drop i).all okIv1 && decide (l.length ≤ 10)) := by
    refine L.down ?_ fun i hi ih => ?_
    · refine L.Ev.succ ?_
      simp only [spec_ivGood.l0]
      refine L.Ev.ifn (by omega) ?_
      rw [List.drop_eq_nil_of_le (Nat.le_refl _)]
      have e : decide ((l.length : Int) ≤ 10) = decide (l.length ≤ 10) := by simp only [decide_eq_decide]; omega
      rw [e]; exact Ev.now _
    · refine L.Ev.succ ?_
      simp only [spec_ivGood.l0]
      rw [okIv_step l i hi, rdIv_get hi]
      refine L.Ev.ifp (by omega) (L.Ev.ifp (by omega) (L.Ev.ifp (by omega) (L.Ev.bindc (l1In_eq _ _ _) ?_)))
      by_cases h : -1000 ≤ (l[i]).f0 ∧ (l[i]).f0 ≤ (l[i]).f1
      · refine L.Ev.ifp (by simpa using h) ?_
        by_cases h2 : (l[i]).f1 ≤ 1000
        · refine L.Ev.ifn (by omega) ?_
          have e : okIv1 l[i] = true := by unfold okIv1; simp; omega
          rw [e, Bool.true_and]
          exact Ev.congr (fun k => by rw [L.w64n (by omega)]) ih
        · refine L.Ev.ifp (by omega) ?_
          have e : okIv1 l[i] = false := by unfold okIv1; simp; omega
          rw [e]; exact Ev.now _
      · refine L.Ev.ifn (by simpa using h) ?_
        have e : okIv1 l[i] = false := by unfold okIv1; simp; omega
        rw [e]; exact Ev.now _
  exact key 0 (by omega)
end Go.Proofs.YtnapfbigpegjoaaDoor.P

/-! ### PuIvOrder -/
/- Plain laws: the order that intervals represent, in the reference and in the program. -/
namespace Go.Proofs.YtnapfbigpegjoaaDoor.P
open Go.RowKit Go.Proofs.YtnapfbigpegjoaaDoorW.PrintWords Go.Proofs.YtnapfbigpegjoaaDoorW.PrintLast Go.Proofs.YtnapfbigpegjoaaDoorW.PrintMore L
set_option linter.unusedVariables false
set_option linter.unusedSimpArgs false
def ivIs (l : List Iv) (i j : Nat) : Bool := decide ((rd_T63 l (i : Int)).f1 < (rd_T63 l (j : Int)).f0)
theorem orderOf_eq (l : List Iv) (hl : l.length ≤ 60) : impl_orderOf.f l = some ((l.length : Int), L.relL l.length (ivIs l)) := by
  unfold impl_orderOf.f; rw [if_pos hl]; rfl
theorem ivOrder_ev (l : List Iv) (hl : l.length ≤ 60) : Ev (fun k => spec_ivOrder.f k l) ((l.length : Int), L.relL l.length (ivIs l)) := by
  have k1 : ∀ i, i < l.length → Ev (fun k => spec_ivOrder.l0 k l l (l.length : Int) ((i + 1 : Nat) : Int) (l.length : Int) (L.relPre l.length (ivIs l) (i + 1))) ((l.length : Int), L.relL l.length (ivIs l)) →
      ∀ j, j ≤ l.length → Ev (fun k => spec_ivOrder.l1 k l ((L.relRow (ivIs l i) j : Nat) : Int) l (l.length : Int) (i : Int) l (l.length : Int) (j : Int) (l.length : Int) (L.relPre l.length (ivIs l) i) (rd_T63 l (i : Int)).f0 (rd_T63 l (i : Int)).f1) ((l.length : Int), L.relL l.length (ivIs l)) := by
    intro i hi hk
    refine L.down ?_ fun j hj ih => ?_
    · refine L.Ev.succ ?_
      simp only [spec_ivOrder.l1]
      refine L.Ev.ifn (by omega) (L.Ev.ifp (by rw [L.relPre_length]; omega) ?_)
      rw [L.relPre_succ, L.w64n (by omega)]
      exact hk
    · refine L.Ev.succ ?_
      simp only [spec_ivOrder.l1]
      refine L.Ev.ifp (by omega) (L.Ev.ifp (by omega) (L.Ev.ifp (by omega) ?_))
      rw [L.w64n (n := j) (by omega)]
      by_cases h : (rd_T63 l (i : Int)).f1 < (rd_T63 l (j : Int)).f0
      · refine L.Ev.ifp h ?_
        rw [L.row_yes (f := ivIs l i) (by unfold ivIs; exact decide_eq_true h) (by omega)]
        exact ih
      · refine L.Ev.ifn h ?_
        rw [L.row_no (f := ivIs l i) (j := j) (by unfold ivIs; exact decide_eq_false h)]
        exact ih
  have k0 : ∀ i, i ≤ l.length → Ev (fun k => spec_ivOrder.l0 k l l (l.length : Int) (i : Int) (l.length : Int) (L.relPre l.length (ivIs l) i)) ((l.length : Int), L.relL l.length (ivIs l)) := by
    refine L.down ?_ fun i hi ih => ?_
    · refine L.Ev.succ ?_
      simp only [spec_ivOrder.l0]
      exact L.Ev.ifn (by omega) (Ev.now _)
    · refine L.Ev.succ ?_
      simp only [spec_ivOrder.l0]
      exact L.Ev.ifp (by omega) (L.Ev.ifp (by omega) (L.Ev.ifp (by omega) (k1 i hi ih 0 (by omega))))
  exact k0 0 (by omega)
end Go.Proofs.YtnapfbigpegjoaaDoor.P

/-! ### PuEqual -/
/- Plain laws: slices.Equal on rows of whole numbers. -/
namespace Go.Proofs.YtnapfbigpegjoaaDoor.P
open Go.RowKit Go.Proofs.YtnapfbigpegjoaaDoorW.PrintWords Go.Proofs.YtnapfbigpegjoaaDoorW.PrintLast Go.Proofs.YtnapfbigpegjoaaDoorW.PrintMore L
set_option linter.unusedVariables false
set_option linter.unusedSimpArgs false
theorem Equal_ev (x y : List Int) (hx : x.length ≤ 1048576) : Ev (fun k => slices_Equal_int_int.f k x y) (decide (x = y)) := by
  by_cases hlen : x.length = y.length
  · have key : ∀ i, i ≤ x.length → Ev (fun k => slices_Equal_int_int.l0 k x y (x.length : Int) (i : Int)) (decide (x.drop i = y.drop i)) := by
      refine L.down ?_ fun i hi ih => ?_
      · refine L.Ev.succ ?_
        simp only [slices_Equal_int_int.l0]
        refine L.Ev.ifn (by omega) ?_
        rw [List.drop_eq_nil_of_le (Nat.le_refl _), List.drop_eq_nil_of_le (by omega)]
        exact Ev.now _
      · refine L.Ev.succ ?_
        simp only [slices_Equal_int_int.l0]
        refine L.Ev.ifp (by omega) (L.Ev.ifp (by omega) (L.Ev.ifp (by omega) (L.Ev.ifp (by omega) ?_)))
        rw [L.rd_get hi, L.rd_get (l := y) (by omega), List.drop_eq_getElem_cons hi, List.drop_eq_getElem_cons (l := y) (by omega)]
        by_cases e : x[i] = y[i]'(by omega)
        · refine L.Ev.ifp e ?_
          refine Ev.congr (fun k => by rw [L.w64n (by omega)]) ?_
          have e2 : (x[i] :: List.drop (i + 1) x = y[i]'(by omega) :: List.drop (i + 1) y) = (List.drop (i + 1) x = List.drop (i + 1) y) := propext ⟨fun h => (List.cons.inj h).2, fun h => by rw [e, h]⟩
          simp only [e2]
          exact ih
        · refine L.Ev.ifn e ?_
          simp only [List.cons.injEq, e, false_and, decide_false]
          exact Ev.now _
    unfold slices_Equal_int_int.f
    exact L.Ev.ifp (by omega) (key 0 (by omega))
  · have e : x ≠ y := fun h => hlen (by rw [h])
    unfold slices_Equal_int_int.f
    exact L.Ev.ifn (by omega) (by simp only [e, decide_false]; exact Ev.now _)
end Go.Proofs.YtnapfbigpegjoaaDoor.P

/-! ### BoDoRepresent -/
/- What DoRepresent comes to, in the program and in the reference. -/
namespace Go.Proofs.YtnapfbigpegjoaaDoor.P
open Go.RowKit Go.Proofs.YtnapfbigpegjoaaDoorW.PrintWords Go.Proofs.YtnapfbigpegjoaaDoorW.PrintLast Go.Proofs.YtnapfbigpegjoaaDoorW.PrintMore L
set_option linter.unusedVariables false
set_option linter.unusedSimpArgs false
theorem l1Same_same : ∀ k a b c d, spec_l1Same.l0 k a b c d = slices_Equal_int_int.l0 k a b c d := by
  intro k
  induction k with
  | zero => intros; rfl
  | succ k ih => intro a b c d; simp only [spec_l1Same.l0, slices_Equal_int_int.l0, ih]
theorem l1Same_ev (x y : List Int) (hx : x.length ≤ 1048576) : Ev (fun k => spec_l1Same.f k x y) (decide (x = y)) := by
  refine Ev.congr (fun k => ?_) (Equal_ev x y hx)
  unfold spec_l1Same.f slices_Equal_int_int.f
  simp only [l1Same_same]
theorem DoRepresent_both (v : List Iv) (hv : v.length ≤ 1048576) (wv : ∀ x ∈ v, R.wf x.f0 ∧ R.wf x.f1) (n : Int) (l : List Int) (wn : R.wf n) (hl : l.length ≤ 1048576) (w0 : ∀ x ∈ l, R.wf x) :
    ∃ r b : Bool, Ev (fun k => spec_DoRepresent.f k v n l) (r, b) ∧ Ev (fun k => impl_DoRepresent.f k v n l) (r, b) := by
  cases hk : okIv v with
  | false =>
    refine ⟨false, false, ?_, ?_⟩
    · unfold spec_DoRepresent.f
      refine Ev.bind (ivGood_ev v hv) (L.Ev.ifn (by simp [hk]) (L.Ev.succ ?_))
      simp only [spec_DoRepresent.j0]
      exact L.Ev.ifp (by simp) (Ev.now _)
    · unfold impl_DoRepresent.f
      refine Ev.bind (AreIntervals_ev v hv) (L.Ev.ifn (by simp [hk]) (L.Ev.succ ?_))
      simp only [impl_DoRepresent.j0]
      exact L.Ev.ifp (by simp) (Ev.now _)
  | true =>
    obtain ⟨_, hv10⟩ := (okIv_iff v).1 hk
    cases h : isOrd n l with
    | false =>
      refine ⟨false, false, ?_, ?_⟩
      · unfold spec_DoRepresent.f
        refine Ev.bind (ivGood_ev v hv) (L.Ev.ifp (by simp [hk]) (Ev.bind (orGood_ev n l hl) (L.Ev.succ ?_)))
        simp only [spec_DoRepresent.j0]
        exact L.Ev.ifp (by simp [h]) (Ev.now _)
      · unfold impl_DoRepresent.f
        refine Ev.bind (AreIntervals_ev v hv) (L.Ev.ifp (by simp [hk]) (Ev.bind (IsOrder_ev n l hl) (L.Ev.succ ?_)))
        simp only [impl_DoRepresent.j0]
        exact L.Ev.ifp (by simp [h]) (Ev.now _)
    | true =>
      by_cases hn : (v.length : Int) = n
      · refine ⟨decide (L.relL v.length (ivIs v) = l), true, ?_, ?_⟩
        · unfold spec_DoRepresent.f
          refine Ev.bind (ivGood_ev v hv) (L.Ev.ifp (by simp [hk]) (Ev.bind (orGood_ev n l hl) (L.Ev.succ ?_)))
          simp only [spec_DoRepresent.j0]
          exact L.Ev.ifn (by simp [h]) (L.Ev.ifp hn (Ev.bind (ivOrder_ev v (by omega)) (Ev.bind (l1Same_ev _ l (by rw [L.relL_length]; omega)) (Ev.now _))))
        · unfold impl_DoRepresent.f
          refine Ev.bind (AreIntervals_ev v hv) (L.Ev.ifp (by simp [hk]) (Ev.bind (IsOrder_ev n l hl) (L.Ev.succ ?_)))
          simp only [impl_DoRepresent.j0]
          refine L.Ev.ifn (by simp [h]) (L.Ev.bindc (orderOf_eq v (by omega)) (Ev.bind (a := decide (L.relL v.length (ivIs v) = l)) ?_ (Ev.now _)))
          unfold impl_Order_same.f
          exact L.Ev.ifp hn (Ev.bind (Equal_ev _ l (by rw [L.relL_length]; omega)) (Ev.now _))
      · refine ⟨false, true, ?_, ?_⟩
        · unfold spec_DoRepresent.f
          refine Ev.bind (ivGood_ev v hv) (L.Ev.ifp (by simp [hk]) (Ev.bind (orGood_ev n l hl) (L.Ev.succ ?_)))
          simp only [spec_DoRepresent.j0]
          exact L.Ev.ifn (by simp [h]) (L.Ev.ifn hn (Ev.now _))
        · unfold impl_DoRepresent.f
          refine Ev.bind (AreIntervals_ev v hv) (L.Ev.ifp (by simp [hk]) (Ev.bind (IsOrder_ev n l hl) (L.Ev.succ ?_)))
          simp only [impl_DoRepresent.j0]
          refine L.Ev.ifn (by simp [h]) (L.Ev.bindc (orderOf_eq v (by omega)) (Ev.bind (a := false) ?_ (Ev.now _)))
          unfold impl_Order_same.f
          exact L.Ev.ifn hn (Ev.now _)
end Go.Proofs.YtnapfbigpegjoaaDoor.P

/-! ### PuFnExactDoRepresent -/
/- The plain law behind FnExactDoRepresent, out of what the program's and the reference's function come to. -/
namespace Go.Proofs.YtnapfbigpegjoaaDoor.P
open Go.RowKit Go.Proofs.YtnapfbigpegjoaaDoorW.PrintWords Go.Proofs.YtnapfbigpegjoaaDoorW.PrintLast Go.Proofs.YtnapfbigpegjoaaDoorW.PrintMore L
set_option linter.unusedVariables false
set_option linter.unusedSimpArgs false
set_option maxHeartbeats 1000000 in
theorem FnExactDoRepresent_pure (l0 : List S65) (m0 : l0.length ≤ 9223372036854775807) (w0 : ∀ x ∈ l0, R.wf x.f0 ∧ R.wf x.f1) (a1 : Int) (l1 : List Int) (w1a : R.wf a1) (m1 : l1.length ≤ 9223372036854775807) (w1 : ∀ x ∈ l1, R.wf x) : ∃ k, laws_FnExactDoRepresent.f k l0 a1 l1 = some true := by
  refine Ev.rounds (r := true) ?_
  unfold laws_FnExactDoRepresent.f
  refine L.Ev.bindc (szIntervalS_eq l0 1048576 (by omega) m0) ?_
  by_cases hb0 : (l0.length : Int) ≤ 1048576
  case neg => rw [if_neg hb0]; exact L.Ev.ifp (by omega) (Ev.now true)
  rw [if_pos hb0]
  refine L.Ev.ifn (by omega) ?_
  have hn0 : l0.length ≤ 1048576 := by omega
  refine L.Ev.bindc (szOrder_eq a1 l1 (1048576 - l0.length) (by omega) m1) ?_
  by_cases hb1 : (l1.length : Int) ≤ 1048576 - l0.length
  case neg => rw [if_neg hb1]; exact L.Ev.ifp (by omega) (Ev.now true)
  rw [if_pos hb1]
  refine L.Ev.ifn (by omega) ?_
  have hn1 : l1.length ≤ 1048576 := by omega
  obtain ⟨r0, r1, hs, hi⟩ := DoRepresent_both (toIv l0) (by rw [toIv_length]; exact hn0) (toIv_wf w0) a1 l1 w1a hn1 w1
  repeat' (first
    | exact Ev.now true
    | exact Ev.now _
    | with_reducible exact rfl
    | (with_reducible refine Ev.bind hs ?_)
    | (with_reducible refine Ev.bind hi ?_)
    | (with_reducible refine Ev.bind (toOrder_ev _ _ ?hs1) ?_; (case hs1 => first | omega | (dsimp only; omega)))
    | (with_reducible refine Ev.bind (eqOrder_self _ _ ?hs1) ?_; (case hs1 => first | omega | (dsimp only; omega)))
    | (with_reducible refine Ev.bind (toIntervalS_ev _ ?hs1) ?_; (case hs1 => first | omega | (dsimp only; omega)))
    | (with_reducible refine Ev.bind (eqIntervalS_self _ ?hs1) ?_; (case hs1 => first | omega | (dsimp only; omega) | (simp only [toIv_length]; omega)))
    | (refine L.Ev.ifp ?hc ?_; (case hc => first | rfl | omega | (simp; done)))
    | (refine L.Ev.ifn ?hc ?_; (case hc => first | omega | (simp; done)))
    | (refine L.Ev.succ ?_; simp only [laws_FnExactDoRepresent.j0])
    | (refine L.Ev.succ ?_; simp only [laws_FnExactDoRepresent.j1])
    | (refine L.Ev.succ ?_; simp only [laws_FnExactDoRepresent.j2])
    | (refine L.Ev.succ ?_; simp only [laws_FnExactDoRepresent.j3])
    | (refine L.Ev.succ ?_; simp only [laws_FnExactDoRepresent.j4]))
end Go.Proofs.YtnapfbigpegjoaaDoor.P
