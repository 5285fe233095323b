/- The plain laws behind FnExactStretchIntervals, in one text (merged by wip/merge.py). -/
import Derived.Test.YtcjphppldjghiaaLib
import Derived.Test.YtcjphppldjghiaaRowLib
import Derived.Test.YtcjphppldjghiaaPx20
import Derived.Test.YtcjphppldjghiaaPx19
import Derived.Test.YtcjphppldjghiaaPx17
import Derived.Test.YtcjphppldjghiaaPx15
import Derived.Test.YtcjphppldjghiaaPx21
import Derived.Test.YtcjphppldjghiaaPx1
import Derived.Test.YtcjphppldjghiaaPx7
import Derived.Test.YtcjphppldjghiaaPx4
import Derived.Test.YtcjphppldjghiaaPx18
import Derived.Test.YtcjphppldjghiaaPx16
import Derived.Test.YtcjphppldjghiaaPx22
/-! ### PuIv0 -/
/- Plain laws of rows of intervals: reading, comparing; no conditions beyond the rows' lengths. -/
namespace Go.Proofs.Ytcjphppldjghiaa.P
open Go.RowKit Go.Proofs.YtcjphppldjghiaaW.PrintWords Go.Proofs.YtcjphppldjghiaaW.PrintLast Go.Proofs.YtcjphppldjghiaaW.PrintMore L
set_option linter.unusedVariables false
set_option linter.unusedSimpArgs false
abbrev Iv := S60
abbrev rdIv (l : List Iv) (i : Int) : Iv := rd_T60 l i
theorem rdIv_get {l : List Iv} {i : Nat} (h : i < l.length) : rd_T60 l (i : Int) = l[i] := by
  simp [rd_T60, List.getD_eq_getElem?_getD, List.getElem?_eq_getElem h]
theorem eqInterval_eq (x y : Iv) : laws_eqInterval.f x.f0 x.f1 y.f0 y.f1 = some (decide (x.f0 = y.f0 ∧ x.f1 = y.f1)) := by
  unfold laws_eqInterval.f
  by_cases h : x.f0 = y.f0 <;> by_cases h2 : x.f1 = y.f1 <;> simp [h, h2]
theorem eqIntervalS_self (l : List Iv) (hl : l.length ≤ 9223372036854775806) : Ev (fun k => laws_eqIntervalS.f k l l) true := by
  have key : ∀ i, i ≤ l.length → Ev (fun k => laws_eqIntervalS.l0 k l l (i : Int)) true := by
    refine L.down ?_ fun i hi ih => ?_
    · refine L.Ev.succ ?_
      simp only [laws_eqIntervalS.l0]
      exact L.Ev.ifn (by omega) (Ev.now _)
    · refine L.Ev.succ ?_
      simp only [laws_eqIntervalS.l0]
      refine L.Ev.ifp (by omega) (L.Ev.ifp (by omega) (L.Ev.ifp (by omega) (L.Ev.bindc (eqInterval_eq _ _) (L.Ev.ifp (by simp) ?_))))
      exact Ev.congr (fun k => by rw [L.w64n (by omega)]) ih
  refine Ev.congr (fun k => ?_) (key 0 (by omega))
  unfold laws_eqIntervalS.f
  rw [if_pos rfl]; rfl
end Go.Proofs.Ytcjphppldjghiaa.P

/-! ### PuIvP -/
/- Plain laws of the copy of an interval. -/
namespace Go.Proofs.Ytcjphppldjghiaa.P
open Go.RowKit L
theorem toInterval_eq (a b : Int) : laws_toInterval.f a b = some (a, b) := rfl
end Go.Proofs.Ytcjphppldjghiaa.P

/-! ### PuIv -/
/- Plain laws of the copies and comparisons of rows of intervals; no conditions beyond the rows' lengths. -/
namespace Go.Proofs.Ytcjphppldjghiaa.P
open Go.RowKit Go.Proofs.YtcjphppldjghiaaW.PrintWords Go.Proofs.YtcjphppldjghiaaW.PrintLast Go.Proofs.YtcjphppldjghiaaW.PrintMore L
set_option linter.unusedVariables false
set_option linter.unusedSimpArgs false
abbrev LIv := S63
abbrev rdLIv (l : List LIv) (i : Int) : LIv := rd_T63 l i
theorem rdLIv_get {l : List LIv} {i : Nat} (h : i < l.length) : rd_T63 l (i : Int) = l[i] := by
  simp [rd_T63, List.getD_eq_getElem?_getD, List.getElem?_eq_getElem h]
def toIv1 (x : LIv) : Iv := ⟨x.f0, x.f1⟩
def toIv (l : List LIv) : List Iv := l.map toIv1
theorem toIv_length (l : List LIv) : (toIv l).length = l.length := by simp [toIv]
theorem toIv_wf {l : List LIv} (h : ∀ x ∈ l, R.wf x.f0 ∧ R.wf x.f1) : ∀ x ∈ toIv l, R.wf x.f0 ∧ R.wf x.f1 := by
  intro x hx
  obtain ⟨y, hy, rfl⟩ := List.mem_map.1 hx
  exact h y hy
theorem toIntervalS_ev (l : List LIv) (hl : l.length ≤ 1048576) : Ev (fun k => laws_toIntervalS.f k l) (toIv l) := by
  have key : ∀ i, i ≤ l.length → Ev (fun k => laws_toIntervalS.l0 k l ((toIv l).take i ++ List.replicate (l.length - i) z60) (i : Int)) (toIv l) := by
    refine L.down ?_ fun i hi ih => ?_
    · refine L.Ev.succ ?_
      simp only [laws_toIntervalS.l0]
      refine L.Ev.ifn (by omega) ?_
      rw [Nat.sub_self, List.take_of_length_le (by rw [toIv_length]; omega)]
      simp only [List.replicate_zero, List.append_nil]
      exact Ev.now _
    · refine L.Ev.succ ?_
      simp only [laws_toIntervalS.l0]
      refine L.Ev.ifp (by omega) (L.Ev.ifp (by omega) (L.Ev.bindc (toInterval_eq _ _) (L.Ev.ifp ?_ ?_)))
      · simp only [List.length_append, List.length_take, List.length_replicate, toIv_length]; omega
      · have e : ((toIv l).take i ++ List.replicate (l.length - i) z60).set i (⟨(rd_T63 l (i : Int)).f0, (rd_T63 l (i : Int)).f1⟩ : Iv) = (toIv l).take (i + 1) ++ List.replicate (l.length - (i + 1)) z60 := by
          rw [rdLIv_get hi]
          have hL : (toIv l).length = l.length := toIv_length l
          refine List.ext_getElem? fun j => ?_
          rw [List.getElem?_set]
          by_cases hj : i = j
          · subst hj
            rw [if_pos rfl, if_pos (by simp only [List.length_append, List.length_take, List.length_replicate]; omega), List.getElem?_append_left (by simp only [List.length_take]; omega), List.getElem?_take, if_pos (by omega)]
            simp [toIv, toIv1, List.getElem?_eq_getElem hi]
          · rw [if_neg hj]
            by_cases h1 : j < i
            · rw [List.getElem?_append_left (by simp only [List.length_take]; omega), List.getElem?_append_left (by simp only [List.length_take]; omega), List.getElem?_take, List.getElem?_take, if_pos h1, if_pos (by omega)]
            · rw [List.getElem?_append_right (by simp only [List.length_take]; omega), List.getElem?_append_right (by simp only [List.length_take]; omega)]
              simp only [List.length_take, List.getElem?_replicate, hL]
              by_cases h2 : j < l.length
              · rw [if_pos (by omega), if_pos (by omega)]
              · rw [if_neg (by omega), if_neg (by omega)]
        refine Ev.congr (fun k => ?_) ih
        rw [L.w64n (by omega), Int.toNat_natCast, e]
  refine Ev.congr (fun k => ?_) (key 0 (by omega))
  unfold laws_toIntervalS.f
  rw [if_pos (by omega), if_pos (by omega)]
  simp
theorem szIntervalS_eq (l : List LIv) (a : Int) (ha : 0 ≤ a ∧ a ≤ 1048576) (hl : l.length ≤ 9223372036854775807) : laws_szIntervalS.f l a = some (if (l.length : Int) ≤ a then a - l.length else -1) := by
  unfold laws_szIntervalS.f
  rw [L.w64 (by omega) (by omega)]
  by_cases h : (l.length : Int) ≤ a
  · rw [if_neg (by omega), if_pos h]
  · rw [if_pos (by omega), if_neg h]
end Go.Proofs.Ytcjphppldjghiaa.P

/-! ### PuMarkIv -/
/- Plain laws of the marks that are laid into rows of intervals and looked for again; no conditions beyond the rows' lengths. -/
namespace Go.Proofs.Ytcjphppldjghiaa.P
open Go.RowKit Go.Proofs.YtcjphppldjghiaaW.PrintWords Go.Proofs.YtcjphppldjghiaaW.PrintLast Go.Proofs.YtcjphppldjghiaaW.PrintMore L
set_option linter.unusedVariables false
set_option linter.unusedSimpArgs false
/-- ⟨a, a + 1⟩, ⟨a + 2, a + 3⟩, .. -/
def marksIv (a : Int) (n : Nat) : List Iv := (List.range n).map fun (i : Nat) => ⟨a + 2 * (i : Int), a + 2 * (i : Int) + 1⟩
theorem marksIv_length (a : Int) (n : Nat) : (marksIv a n).length = n := by simp [marksIv]
theorem markIntervalS_ev (l : List Iv) (a : Int) (ha : 0 ≤ a ∧ a ≤ 4194304) (hl : l.length ≤ 1048576) : Ev (fun k => laws_markIntervalS.f k l a) (a + 2 * l.length, marksIv a l.length) := by
  have key : ∀ i, i ≤ l.length → Ev (fun k => laws_markIntervalS.l0 k (marksIv a i ++ l.drop i) (a + 2 * i) (i : Int)) (a + 2 * l.length, marksIv a l.length) := by
    refine L.down ?_ fun i hi ih => ?_
    · refine L.Ev.succ ?_
      simp only [laws_markIntervalS.l0]
      rw [List.drop_eq_nil_of_le (Nat.le_refl _), List.append_nil]
      refine L.Ev.ifn (by rw [marksIv_length]; omega) ?_
      exact Ev.now _
    · refine L.Ev.succ ?_
      simp only [laws_markIntervalS.l0]
      refine L.Ev.ifp (by rw [List.length_append, marksIv_length, List.length_drop]; omega) (L.Ev.ifp (by omega) ?_)
      have hL : i < (marksIv a i ++ l.drop i).length := by rw [List.length_append, marksIv_length, List.length_drop]; omega
      refine L.Ev.bindc rfl ?_
      simp only [Int.toNat_natCast]
      have hL2 : ∀ v : Iv, i < ((marksIv a i ++ l.drop i).set i v).length := fun v => by rw [List.length_set]; exact hL
      rw [rdIv_get (hL2 _), List.getElem_set_self, List.set_set]
      have e : (marksIv a i ++ l.drop i).set i (⟨a + 2 * i, wrap64 (a + 2 * i + 1)⟩ : Iv) = marksIv a (i + 1) ++ l.drop (i + 1) := by
        rw [L.w64 (by omega) (by omega)]
        refine List.ext_getElem? fun j => ?_
        rw [List.getElem?_set]
        by_cases hj : i = j
        · subst hj
          rw [if_pos rfl, if_pos hL, List.getElem?_append_left (by rw [marksIv_length]; omega)]
          simp [marksIv]
        · rw [if_neg hj]
          by_cases h1 : j < i
          · rw [List.getElem?_append_left (by rw [marksIv_length]; omega), List.getElem?_append_left (by rw [marksIv_length]; omega)]
            simp [marksIv, h1, show j < i + 1 by omega]
          · rw [List.getElem?_append_right (by rw [marksIv_length]; omega), List.getElem?_append_right (by rw [marksIv_length]; omega), marksIv_length, marksIv_length, List.getElem?_drop, List.getElem?_drop]
            congr 1; omega
      refine Ev.congr (fun k => ?_) ih
      rw [e, L.w64n (n := i) (by omega), L.w64 (x := a + 2 * i + 1) (by omega) (by omega), L.w64 (by omega) (by omega)]
      congr 1; omega
  refine Ev.congr (fun k => ?_) (key 0 (by omega))
  unfold laws_markIntervalS.f
  simp [marksIv]
theorem held_marksIv (a : Int) (n : Nat) (ha : 0 ≤ a ∧ a ≤ 4194304) (hn : n ≤ 1048576) : Ev (fun k => laws_heldIntervalS.f k (marksIv a n) a) (a + 2 * n) := by
  have hL := marksIv_length a n
  have key : ∀ i, i ≤ n → Ev (fun k => laws_heldIntervalS.l0 k (marksIv a n) (a + 2 * i) (i : Int)) (a + 2 * n) := by
    refine L.down ?_ fun i hi ih => ?_
    · refine L.Ev.succ ?_
      simp only [laws_heldIntervalS.l0]
      refine L.Ev.ifn (by omega) ?_
      exact Ev.now _
    · refine L.Ev.succ ?_
      simp only [laws_heldIntervalS.l0]
      have hi2 : i < (marksIv a n).length := by omega
      have e : (marksIv a n)[i] = (⟨a + 2 * (i : Int), a + 2 * (i : Int) + 1⟩ : Iv) := by simp [marksIv]
      rw [rdIv_get hi2, e]
      refine L.Ev.ifp (by omega) (L.Ev.ifp (by omega) (L.Ev.ifp rfl (L.Ev.ifp ?_ ?_)))
      · rw [L.w64 (by omega) (by omega)]
      · refine Ev.congr (fun k => ?_) ih
        rw [L.w64n (n := i) (by omega), L.w64 (x := a + 2 * i + 1) (by omega) (by omega), L.w64 (by omega) (by omega)]
        congr 1; omega
  exact Ev.congr (fun k => by unfold laws_heldIntervalS.f; simp) (key 0 (by omega))
end Go.Proofs.Ytcjphppldjghiaa.P

/-! ### PuRel0 -/
/- Plain laws: which lists are relations. -/
namespace Go.Proofs.Ytcjphppldjghiaa.P
open Go.RowKit Go.Proofs.YtcjphppldjghiaaW.PrintWords Go.Proofs.YtcjphppldjghiaaW.PrintLast Go.Proofs.YtcjphppldjghiaaW.PrintMore L
set_option linter.unusedVariables false
set_option linter.unusedSimpArgs false
/-- the numbers of a relation. -/
def isRel (n : Int) (l : List Int) : Bool := decide (0 ≤ n ∧ n ≤ 10 ∧ (l.length : Int) = n ∧ ∀ x ∈ l, 0 ≤ x ∧ x < 2 ^ n.toNat)
theorem isRel_iff (n : Int) (l : List Int) : isRel n l = true ↔ 0 ≤ n ∧ n ≤ 10 ∧ (l.length : Int) = n ∧ ∀ x ∈ l, 0 ≤ x ∧ x < 2 ^ n.toNat := by simp [isRel]
theorem isRel_big {n : Nat} {l : List Int} (h : isRel n l = true) : ∀ x ∈ l, 0 ≤ x ∧ x < 1024 := by
  obtain ⟨h0, h1, h2, h3⟩ := (isRel_iff _ _).1 h
  intro x hx
  obtain ⟨a, b⟩ := h3 x hx
  have : (2 : Int) ^ (n : Int).toNat ≤ 2 ^ 10 := by
    have := Nat.pow_le_pow_right (n := 2) (by decide) (show (n : Int).toNat ≤ 10 by omega)
    exact_mod_cast this
  omega
theorem isRel_ok {n : Int} {l : List Int} (h : isRel n l = true) : L.okRel n l := by
  obtain ⟨h0, h1, h2, h3⟩ := (isRel_iff _ _).1 h
  obtain ⟨m, rfl⟩ := Int.eq_ofNat_of_zero_le h0
  refine ⟨h0, by omega, h2, fun x hx => ?_⟩
  have := isRel_big h x hx
  omega
end Go.Proofs.Ytcjphppldjghiaa.P

/-! ### PuWithin -/
/- Plain laws: numbers between two numbers, in the program and in the reference. -/
namespace Go.Proofs.Ytcjphppldjghiaa.P
open Go.RowKit Go.Proofs.YtcjphppldjghiaaW.PrintWords Go.Proofs.YtcjphppldjghiaaW.PrintLast Go.Proofs.YtcjphppldjghiaaW.PrintMore L
set_option linter.unusedVariables false
set_option linter.unusedSimpArgs false
theorem within_eq (a b c : Int) : impl_within.f a b c = some (decide (b ≤ a ∧ a ≤ c)) := by
  unfold impl_within.f
  by_cases h : a ≥ b
  · rw [if_pos h]; congr 1; simp; omega
  · rw [if_neg h]; congr 1; simp; omega
theorem l1In_eq (a b c : Int) : spec_l1In.f a b c = some (decide (b ≤ a ∧ a ≤ c)) := within_eq a b c
end Go.Proofs.Ytcjphppldjghiaa.P

/-! ### PuRel -/
/- Plain laws: which lists are relations, for the program and the reference alike; conditions: the numbers are 64-bit numbers. -/
namespace Go.Proofs.Ytcjphppldjghiaa.P
open Go.RowKit Go.Proofs.YtcjphppldjghiaaW.PrintWords Go.Proofs.YtcjphppldjghiaaW.PrintLast Go.Proofs.YtcjphppldjghiaaW.PrintMore L
set_option linter.unusedVariables false
set_option linter.unusedSimpArgs false
/-- all of a list lie between two numbers. -/
def allIn (l : List Int) (b c : Int) : Bool := l.all fun x => decide (b ≤ x ∧ x ≤ c)
theorem allIn_iff (l : List Int) (b c : Int) : allIn l b c = true ↔ ∀ x ∈ l, b ≤ x ∧ x ≤ c := by simp [allIn]
theorem allIn_step (l : List Int) (b c : Int) (i : Nat) (hi : i < l.length) : allIn (l.drop i) b c = (decide (b ≤ l[i] ∧ l[i] ≤ c) && allIn (l.drop (i + 1)) b c) := by
  unfold allIn; rw [List.drop_eq_getElem_cons hi, List.all_cons]
theorem allWithin_ev (l : List Int) (b c : Int) (hl : l.length ≤ 9223372036854775806) : Ev (fun k => impl_allWithin.f k l b c) (allIn l b c) := by
  have key : ∀ i, i ≤ l.length → Ev (fun k => impl_allWithin.l0 k b c l (l.length : Int) (i : Int)) (allIn (l.drop i) b c) := by
    refine L.down ?_ fun i hi ih => ?_
    · refine L.Ev.succ ?_
      simp only [impl_allWithin.l0]
      refine L.Ev.ifn (by omega) ?_
      rw [List.drop_eq_nil_of_le (Nat.le_refl _)]
      exact Ev.now _
    · refine L.Ev.succ ?_
      simp only [impl_allWithin.l0]
      refine L.Ev.ifp (by omega) (L.Ev.ifp (by omega) (L.Ev.ifp (by omega) (L.Ev.bindc (within_eq _ _ _) ?_)))
      rw [allIn_step l b c i hi, L.rd_get hi]
      by_cases h : b ≤ l[i] ∧ l[i] ≤ c
      · refine L.Ev.ifp (by simpa using h) ?_
        simp only [h, and_self, decide_true, Bool.true_and]
        exact Ev.congr (fun k => by rw [L.w64n (by omega)]) ih
      · refine L.Ev.ifn (by simpa using h) ?_
        simp only [h, decide_false, Bool.false_and]
        exact Ev.now _
  exact key 0 (by omega)
theorem l1All_same : ∀ k a b c d e, spec_l1All.l0 k a b c d e = impl_allWithin.l0 k a b c d e := by
  intro k
  induction k with
  | zero => intros; rfl
  | succ k ih => intro a b c d e; simp only [spec_l1All.l0, impl_allWithin.l0, ih, l1In_eq, within_eq]
theorem l1All_ev (l : List Int) (b c : Int) (hl : l.length ≤ 9223372036854775806) : Ev (fun k => spec_l1All.f k l b c) (allIn l b c) :=
  Ev.congr (fun k => l1All_same k b c l _ _) (allWithin_ev l b c hl)
theorem IsRelation_ev (n : Int) (l : List Int) (hl : l.length ≤ 9223372036854775806) : Ev (fun k => impl_IsRelation.f k n l) (isRel n l) := by
  unfold impl_IsRelation.f
  refine L.Ev.bindc (within_eq _ _ _) ?_
  by_cases h : 0 ≤ n ∧ n ≤ 10
  · refine L.Ev.ifp (by simpa using h) ?_
    by_cases h2 : (l.length : Int) = n
    · refine L.Ev.ifp h2 (L.Ev.ifp h.1 ?_)
      obtain ⟨m, rfl⟩ := Int.eq_ofNat_of_zero_le h.1
      have e : wrap64 (shl .i64 1 (m : Int) - 1) = 2 ^ m - 1 := by
        rw [L.shl_one (by omega)]
        have h1 : (2 : Nat) ^ m ≤ 2 ^ 10 := Nat.pow_le_pow_right (by decide) (by omega)
        have e3 : ((2 ^ m : Nat) : Int) = 2 ^ m := by push_cast; rfl
        rw [← e3]
        generalize (2 : Nat) ^ m = z at *
        rw [L.w64 (by omega) (by omega)]
      have e2 : isRel (m : Int) l = allIn l 0 (2 ^ m - 1) := by
        rw [Bool.eq_iff_iff, isRel_iff, allIn_iff, Int.toNat_natCast]
        constructor
        · rintro ⟨_, _, _, h4⟩ x hx
          have := h4 x hx
          omega
        · intro h4
          refine ⟨h.1, h.2, h2, fun x hx => ?_⟩
          have := h4 x hx
          omega
      refine Ev.congr (fun k => ?_) (Ev.bind (allWithin_ev l 0 (2 ^ m - 1) hl) (f := fun _ t => some t) (r := isRel (m : Int) l) (by rw [e2]; exact Ev.now _))
      rw [e]
    · refine L.Ev.ifn h2 ?_
      have e : isRel n l = false := by
        rw [← Bool.not_eq_true, isRel_iff]; rintro ⟨_, _, h3, _⟩; exact h2 h3
      rw [e]; exact Ev.now _
  · refine L.Ev.ifn (by simpa using h) ?_
    have e : isRel n l = false := by
      rw [← Bool.not_eq_true, isRel_iff]; rintro ⟨h3, h4, _⟩; exact h ⟨h3, h4⟩
    rw [e]; exact Ev.now _
theorem orRelation_ev (n : Int) (l : List Int) (hl : l.length ≤ 9223372036854775806) : Ev (fun k => spec_orRelation.f k n l) (isRel n l) := by
  refine Ev.congr (fun k => ?_) (IsRelation_ev n l hl)
  unfold spec_orRelation.f impl_IsRelation.f
  simp only [l1In_eq, within_eq]
  have e : ∀ b c, spec_l1All.f k l b c = impl_allWithin.f k l b c := fun b c => l1All_same k b c l _ _
  simp only [e]
end Go.Proofs.Ytcjphppldjghiaa.P

/-! ### PuIvIs -/
/- Plain laws: which rows are intervals, for the program and the reference alike. -/
namespace Go.Proofs.Ytcjphppldjghiaa.P
open Go.RowKit Go.Proofs.YtcjphppldjghiaaW.PrintWords Go.Proofs.YtcjphppldjghiaaW.PrintLast Go.Proofs.YtcjphppldjghiaaW.PrintMore L
set_option linter.unusedVariables false
set_option linter.unusedSimpArgs false
def okIv1 (x : Iv) : Bool := decide (-1000 ≤ x.f0 ∧ x.f0 ≤ x.f1 ∧ x.f1 ≤ 1000)
def okIv (l : List Iv) : Bool := l.all okIv1 && decide (l.length ≤ 10)
theorem okIv_iff (l : List Iv) : okIv l = true ↔ (∀ x ∈ l, -1000 ≤ x.f0 ∧ x.f0 ≤ x.f1 ∧ x.f1 ≤ 1000) ∧ l.length ≤ 10 := by
  simp [okIv, okIv1]
theorem okIv_step (l : List Iv) (i : Nat) (hi : i < l.length) : (l.drop i).all okIv1 = (okIv1 l[i] && (l.drop (i + 1)).all okIv1) := by
  rw [List.drop_eq_getElem_cons hi, List.all_cons]
theorem AreIntervals_ev (l : List Iv) (hl : l.length ≤ 1048576) : Ev (fun k => impl_AreIntervals.f k l) (okIv l) := by
  have key : ∀ i, i ≤ l.length → Ev (fun k => impl_AreIntervals.l0 k l l (l.length : Int) (i : Int)) ((l.drop i).all okIv1 && decide (l.length ≤ 10)) := by
    refine L.down ?_ fun i hi ih => ?_
    · refine L.Ev.succ ?_
      simp only [impl_AreIntervals.l0]
      refine L.Ev.ifn (by omega) ?_
      rw [List.drop_eq_nil_of_le (Nat.le_refl _)]
      have e : decide ((l.length : Int) ≤ 10) = decide (l.length ≤ 10) := by simp only [decide_eq_decide]; omega
      rw [e]; exact Ev.now _
    · refine L.Ev.succ ?_
      simp only [impl_AreIntervals.l0]
      rw [okIv_step l i hi, rdIv_get hi]
      refine L.Ev.ifp (by omega) (L.Ev.ifp (by omega) (L.Ev.ifp (by omega) (L.Ev.bindc (within_eq _ _ _) ?_)))
      by_cases h : -1000 ≤ (l[i]).f0 ∧ (l[i]).f0 ≤ 1000
      · refine L.Ev.ifp (by simpa using h) (L.Ev.bindc (within_eq _ _ _) ?_)
        by_cases h2 : (l[i]).f0 ≤ (l[i]).f1 ∧ (l[i]).f1 ≤ 1000
        · refine L.Ev.ifp (by simpa using h2) ?_
          have e : okIv1 l[i] = true := by unfold okIv1; simp; omega
          rw [e, Bool.true_and]
          exact Ev.congr (fun k => by rw [L.w64n (by omega)]) ih
        · refine L.Ev.ifn (by simpa using h2) ?_
          have e : okIv1 l[i] = false := by unfold okIv1; simp; omega
          rw [e]; exact Ev.now _
      · refine L.Ev.ifn (by simpa using h) ?_
        have e : okIv1 l[i] = false := by unfold okIv1; simp; omega
        rw [e]; exact Ev.now _
  exact key 0 (by omega)
theorem ivGood_ev (l : List Iv) (hl : l.length ≤ 1048576) : Ev (fun k => spec_ivGood.f k l) (okIv l) := by
  have key : ∀ i, i ≤ l.length → Ev (fun k => spec_ivGood.l0 k l l (l.length : Int) (i : Int)) ((l.drop i).all okIv1 && decide (l.length ≤ 10)) := by
    refine L.down ?_ fun i hi ih => ?_
    · refine L.Ev.succ ?_
      simp only [spec_ivGood.l0]
      refine L.Ev.ifn (by omega) ?_
      rw [List.drop_eq_nil_of_le (Nat.le_refl _)]
      have e : decide ((l.length : Int) ≤ 10) = decide (l.length ≤ 10) := by simp only [decide_eq_decide]; omega
      rw [e]; exact Ev.now _
    · refine L.Ev.succ ?_
      simp only [spec_ivGood.l0]
      rw [okIv_step l i hi, rdIv_get hi]
      refine L.Ev.ifp (by omega) (L.Ev.ifp (by omega) (L.Ev.ifp (by omega) (L.Ev.bindc (l1In_eq _ _ _) ?_)))
      by_cases h : -1000 ≤ (l[i]).f0 ∧ (l[i]).f0 ≤ (l[i]).f1
      · refine L.Ev.ifp (by simpa using h) ?_
        by_cases h2 : (l[i]).f1 ≤ 1000
        · refine L.Ev.ifn (by omega) ?_
          have e : okIv1 l[i] = true := by unfold okIv1; simp; omega
          rw [e, Bool.true_and]
          exact Ev.congr (fun k => by rw [L.w64n (by omega)]) ih
        · refine L.Ev.ifp (by omega) ?_
          have e : okIv1 l[i] = false := by unfold okIv1; simp; omega
          rw [e]; exact Ev.now _
      · refine L.Ev.ifn (by simpa using h) ?_
        have e : okIv1 l[i] = false := by unfold okIv1; simp; omega
        rw [e]; exact Ev.now _
  exact key 0 (by omega)
end Go.Proofs.Ytcjphppldjghiaa.P

/-! ### BoStretchIntervals -/
/- What StretchIntervals comes to, in the program and in the reference. -/
namespace Go.Proofs.Ytcjphppldjghiaa.P
open Go.RowKit Go.Proofs.YtcjphppldjghiaaW.PrintWords Go.Proofs.YtcjphppldjghiaaW.PrintLast Go.Proofs.YtcjphppldjghiaaW.PrintMore L
set_option linter.unusedVariables false
set_option linter.unusedSimpArgs false
def str1 (a b x : Int) : Int := if x > a then x + b else x
def strIv (a b : Int) (x : Iv) : Iv := ⟨str1 a b x.f0, str1 a b x.f1⟩
theorem ivStretched_eq {a b x : Int} (hx : -1000 ≤ x ∧ x ≤ 1000) (hb : 0 ≤ b ∧ b ≤ 1000) : spec_ivStretched.f x a b = some (str1 a b x) := by
  unfold spec_ivStretched.f str1
  rw [L.w64 (by omega) (by omega)]
  split <;> rfl
theorem stretch_eq {a b x : Int} (hx : -1000 ≤ x ∧ x ≤ 1000) (hb : 0 ≤ b ∧ b ≤ 1000) : impl_StretchIntervals_1.f x a b = some (str1 a b x) := by
  unfold impl_StretchIntervals_1.f str1
  rw [L.w64 (by omega) (by omega)]
  split <;> rfl
theorem StretchIntervals_both (l : List Iv) (hl : l.length ≤ 1048576) (w0 : ∀ x ∈ l, R.wf x.f0 ∧ R.wf x.f1) (a : Int) (wa : R.wf a) (b : Int) (wb : R.wf b) :
    ∃ (r : List Iv) (q : Bool), Ev (fun k => spec_StretchIntervals.f k l a b) (r, q) ∧ Ev (fun k => impl_StretchIntervals.f k l a b) (r, q) ∧ r.length ≤ 1048576 := by
  have no : ∀ {f : Nat → Option (List Iv × Bool)}, f = f := rfl
  cases h : okIv l with
  | false =>
    refine ⟨[], false, ?_, ?_, by simp⟩
    · unfold spec_StretchIntervals.f
      refine Ev.bind (ivGood_ev l hl) (L.Ev.ifn (by simp [h]) (L.Ev.succ ?_))
      simp only [spec_StretchIntervals.j0]
      exact L.Ev.ifp trivial (Ev.now _)
    · unfold impl_StretchIntervals.f
      refine Ev.bind (AreIntervals_ev l hl) (L.Ev.ifn (by simp [h]) (L.Ev.succ ?_))
      simp only [impl_StretchIntervals.j0]
      exact L.Ev.ifp trivial (Ev.now _)
  | true =>
    obtain ⟨h1, h2⟩ := (okIv_iff l).1 h
    by_cases ha : -1000 ≤ a ∧ a ≤ 1000
    case neg =>
      refine ⟨[], false, ?_, ?_, by simp⟩
      · unfold spec_StretchIntervals.f
        refine Ev.bind (ivGood_ev l hl) (L.Ev.ifp (by simp [h]) (L.Ev.bindc (l1In_eq _ _ _) (L.Ev.ifn (by simpa using ha) (L.Ev.succ ?_))))
        simp only [spec_StretchIntervals.j0]
        exact L.Ev.ifp trivial (Ev.now _)
      · unfold impl_StretchIntervals.f
        refine Ev.bind (AreIntervals_ev l hl) (L.Ev.ifp (by simp [h]) (L.Ev.bindc (within_eq _ _ _) (L.Ev.ifn (by simpa using ha) (L.Ev.succ ?_))))
        simp only [impl_StretchIntervals.j0]
        exact L.Ev.ifp trivial (Ev.now _)
    by_cases hb : 0 ≤ b ∧ b ≤ 1000
    case neg =>
      refine ⟨[], false, ?_, ?_, by simp⟩
      · unfold spec_StretchIntervals.f
        refine Ev.bind (ivGood_ev l hl) (L.Ev.ifp (by simp [h]) (L.Ev.bindc (l1In_eq _ _ _) (L.Ev.ifp (by simpa using ha) (L.Ev.bindc (l1In_eq _ _ _) (L.Ev.succ ?_)))))
        simp only [spec_StretchIntervals.j0]
        exact L.Ev.ifp (by simp; omega) (Ev.now _)
      · unfold impl_StretchIntervals.f
        refine Ev.bind (AreIntervals_ev l hl) (L.Ev.ifp (by simp [h]) (L.Ev.bindc (within_eq _ _ _) (L.Ev.ifp (by simpa using ha) (L.Ev.bindc (within_eq _ _ _) (L.Ev.succ ?_)))))
        simp only [impl_StretchIntervals.j0]
        exact L.Ev.ifp (by simp; omega) (Ev.now _)
    have hlen : (l.map (strIv a b)).length ≤ 1048576 := by simpa using hl
    have rng : ∀ i, (hi : i < l.length) → (-1000 ≤ (rd_T60 l (i : Int)).f0 ∧ (rd_T60 l (i : Int)).f0 ≤ 1000) ∧ (-1000 ≤ (rd_T60 l (i : Int)).f1 ∧ (rd_T60 l (i : Int)).f1 ≤ 1000) := by
      intro i hi
      have hx := h1 l[i] (List.getElem_mem hi)
      rw [rdIv_get hi]
      omega
    have step : ∀ i, (hi : i < l.length) → (l.take i).map (strIv a b) ++ [(⟨str1 a b (rd_T60 l (i : Int)).f0, str1 a b (rd_T60 l (i : Int)).f1⟩ : Iv)] = (l.take (i + 1)).map (strIv a b) := by
      intro i hi
      rw [rdIv_get hi, List.take_add_one, List.getElem?_eq_getElem hi, List.map_append]
      rfl
    have fin : ∀ q : Bool, okIv (l.map (strIv a b)) = q → ∃ r : List Iv, (if q = true then (l.map (strIv a b), true) else (([] : List Iv), false)) = (r, q) ∧ r.length ≤ 1048576 := by
      intro q hq
      cases q with
      | true => exact ⟨_, rfl, hlen⟩
      | false => exact ⟨[], rfl, by simp⟩
    obtain ⟨r, er, hr⟩ := fin _ rfl
    refine ⟨r, okIv (l.map (strIv a b)), ?_, ?_, hr⟩
    · have key : ∀ i, i ≤ l.length → Ev (fun k => spec_StretchIntervals.l0 k a b ((l.take i).map (strIv a b)) l (l.length : Int) (i : Int)) (r, okIv (l.map (strIv a b))) := by
        refine L.down ?_ fun i hi ih => ?_
        · refine L.Ev.succ ?_
          simp only [spec_StretchIntervals.l0]
          rw [List.take_of_length_le (Nat.le_refl _), ← er]
          refine L.Ev.ifn (by omega) (Ev.bind (ivGood_ev _ hlen) ?_)
          cases hq : okIv (l.map (strIv a b)) with
          | true => exact L.Ev.ifp (by simp) (Ev.now _)
          | false => exact L.Ev.ifn (by simp) (Ev.now _)
        · obtain ⟨g0, g1⟩ := rng i hi
          refine L.Ev.succ ?_
          simp only [spec_StretchIntervals.l0]
          rw [ivStretched_eq g0 hb, ivStretched_eq g1 hb]
          simp only [Option.bind_some]
          rw [step i hi]
          refine L.Ev.ifp (by omega) (L.Ev.ifp (by omega) (L.Ev.ifp (by omega) (L.Ev.ifp (by simp only [List.length_map, List.length_take]; omega) ?_)))
          exact Ev.congr (fun k => by rw [L.w64n (by omega)]) ih
      unfold spec_StretchIntervals.f
      refine Ev.bind (ivGood_ev l hl) (L.Ev.ifp (by simp [h]) (L.Ev.bindc (l1In_eq _ _ _) (L.Ev.ifp (by simpa using ha) (L.Ev.bindc (l1In_eq _ _ _) (L.Ev.succ ?_)))))
      simp only [spec_StretchIntervals.j0]
      exact L.Ev.ifn (by simpa using hb) (key 0 (by omega))
    · have key : ∀ i, i ≤ l.length → Ev (fun k => impl_StretchIntervals.l0 k 77 ((l.take i).map (strIv a b)) l (l.length : Int) (i : Int) a b) (r, okIv (l.map (strIv a b))) := by
        refine L.down ?_ fun i hi ih => ?_
        · refine L.Ev.succ ?_
          simp only [impl_StretchIntervals.l0]
          rw [List.take_of_length_le (Nat.le_refl _), ← er]
          refine L.Ev.ifn (by omega) (Ev.bind (AreIntervals_ev _ hlen) ?_)
          cases hq : okIv (l.map (strIv a b)) with
          | true => exact L.Ev.ifp (by simp) (Ev.now _)
          | false => exact L.Ev.ifn (by simp) (Ev.now _)
        · obtain ⟨g0, g1⟩ := rng i hi
          refine L.Ev.succ ?_
          simp only [impl_StretchIntervals.l0]
          rw [stretch_eq g0 hb, stretch_eq g1 hb]
          simp only [Option.bind_some]
          rw [step i hi]
          refine L.Ev.ifp (by omega) (L.Ev.ifp (by omega) (L.Ev.ifp (by omega) (L.Ev.ifp (by simp only [List.length_map, List.length_take]; omega) ?_)))
          exact Ev.congr (fun k => by rw [L.w64n (by omega)]) ih
      unfold impl_StretchIntervals.f
      refine Ev.bind (AreIntervals_ev l hl) (L.Ev.ifp (by simp [h]) (L.Ev.bindc (within_eq _ _ _) (L.Ev.ifp (by simpa using ha) (L.Ev.bindc (within_eq _ _ _) (L.Ev.succ ?_)))))
      simp only [impl_StretchIntervals.j0]
      exact L.Ev.ifn (by simpa using hb) (key 0 (by omega))
end Go.Proofs.Ytcjphppldjghiaa.P

/-! ### PuFnExactStretchIntervals -/
/- The plain law behind FnExactStretchIntervals, out of what the program's and the reference's function come to. -/
namespace Go.Proofs.Ytcjphppldjghiaa.P
open Go.RowKit Go.Proofs.YtcjphppldjghiaaW.PrintWords Go.Proofs.YtcjphppldjghiaaW.PrintLast Go.Proofs.YtcjphppldjghiaaW.PrintMore L
set_option linter.unusedVariables false
set_option linter.unusedSimpArgs false
set_option maxHeartbeats 1000000 in
theorem FnExactStretchIntervals_pure (l0 : List S63) (m0 : l0.length ≤ 9223372036854775807) (w0 : ∀ x ∈ l0, R.wf x.f0 ∧ R.wf x.f1) (a1 : Int) (w1 : R.wf a1) (a2 : Int) (w2 : R.wf a2) : ∃ k, laws_FnExactStretchIntervals.f k l0 a1 a2 = some true := by
  refine Ev.rounds (r := true) ?_
  unfold laws_FnExactStretchIntervals.f
  refine L.Ev.bindc (szIntervalS_eq l0 1048576 (by omega) m0) ?_
  by_cases hb0 : (l0.length : Int) ≤ 1048576
  case neg => rw [if_neg hb0]; exact L.Ev.ifp (by omega) (Ev.now true)
  rw [if_pos hb0]
  refine L.Ev.ifn (by omega) ?_
  have hn0 : l0.length ≤ 1048576 := by omega
  obtain ⟨r0, r1, hs, hi, hl0⟩ := StretchIntervals_both (toIv l0) (by rw [toIv_length]; exact hn0) (toIv_wf w0) a1 w1 a2 w2
  repeat' (first
    | exact Ev.now true
    | exact Ev.now _
    | with_reducible exact rfl
    | (with_reducible refine Ev.bind hs ?_)
    | (with_reducible refine Ev.bind hi ?_)
    | (with_reducible refine Ev.bind (toIntervalS_ev _ ?hs1) ?_; (case hs1 => first | omega | (dsimp only; omega)))
    | (with_reducible refine Ev.bind (eqIntervalS_self _ ?hs1) ?_; (case hs1 => first | omega | (dsimp only; omega) | (simp only [toIv_length]; omega)))
    | (with_reducible refine Ev.bind (markIntervalS_ev _ _ ?hs1 ?hs2) ?_; (case hs1 => first | omega | (dsimp only; omega)); (case hs2 => first | omega | (dsimp only; omega) | (simp only [toIv_length]; omega)))
    | (with_reducible refine Ev.bind (held_marksIv _ _ ?hs1 ?hs2) ?_; (case hs1 => first | omega | (dsimp only; omega)); (case hs2 => first | omega | (dsimp only; omega) | (simp only [toIv_length]; omega)))
    | (refine L.Ev.ifp ?hc ?_; (case hc => first | rfl | omega | (simp; done)))
    | (refine L.Ev.ifn ?hc ?_; (case hc => first | omega | (simp; done)))
    | (refine L.Ev.succ ?_; simp only [laws_FnExactStretchIntervals.j0])
    | (refine L.Ev.succ ?_; simp only [laws_FnExactStretchIntervals.j1])
    | (refine L.Ev.succ ?_; simp only [laws_FnExactStretchIntervals.j2])
    | (refine L.Ev.succ ?_; simp only [laws_FnExactStretchIntervals.j3])
    | (refine L.Ev.succ ?_; simp only [laws_FnExactStretchIntervals.j4]))
end Go.Proofs.Ytcjphppldjghiaa.P
