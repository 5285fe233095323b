/- Plain laws: the set of those that are indifferent to an element, in the reference. -/
import Derived.Test.YtjeghlmkipcihaaPuBelow
import Derived.Test.YtjeghlmkipcihaaPuRows
import Derived.Test.YtjeghlmkipcihaaPx15
import Derived.Test.YtjeghlmkipcihaaPx18
namespace Go.Proofs.Ytjeghlmkipcihaa.P
open Go.RowKit Go.Proofs.YtjeghlmkipcihaaW.PrintWords Go.Proofs.YtjeghlmkipcihaaW.PrintLast Go.Proofs.YtjeghlmkipcihaaW.PrintMore L
set_option linter.unusedVariables false
set_option linter.unusedSimpArgs false
theorem isRel_len {m : Nat} {l : List Int} (h : isRel (m : Int) l = true) : l.length = m ∧ m ≤ 10 := by
  obtain ⟨m', hm', hm, hlm⟩ := isRel_nat h
  omega
theorem isRel_rows {m : Nat} {l : List Int} (h : isRel (m : Int) l = true) : ∀ x ∈ l, 0 ≤ x ∧ x < 2 ^ m := by
  have := ((isRel_iff _ _).1 h).2.2.2
  rwa [Int.toNat_natCast] at this
theorem rd_isRel {m : Nat} {l : List Int} (h : isRel (m : Int) l = true) {i : Nat} (hi : i < m) : rd l (i : Int) = ((L.relRow (L.bitAt l i) m : Nat) : Int) :=
  L.rd_okRel (isRel_len h).1 (by have := (isRel_len h).2; omega) (isRel_rows h) hi
/-- a relation that came in has no bits beyond its size. -/
theorem bitAt_out {m : Nat} {l : List Int} (h : isRel (m : Int) l = true) {i j : Nat} (hij : m ≤ i ∨ m ≤ j) : L.bitAt l i j = false := by
  obtain ⟨h1, h2⟩ := isRel_len h
  by_cases hi : i < m
  · have e := rd_isRel h hi
    rw [L.rd_nat] at e
    unfold L.bitAt
    rw [e, Int.toNat_natCast, L.relRow_testBit]
    simp [show ¬ j < m by omega]
  · unfold L.bitAt
    rw [List.getD_eq_getElem?_getD, List.getElem?_eq_none (by omega)]
    simp
def allN (m : Nat) : Nat := 2 ^ m - 1
theorem allN_bit (m i : Nat) : (allN m).testBit i = decide (i < m) := by unfold allN; exact Nat.testBit_two_pow_sub_one ..
theorem allN_lt (m : Nat) : allN m < 2 ^ m := by unfold allN; have := Nat.two_pow_pos m; omega
theorem shl_all {m : Nat} (hm : m ≤ 60) : wrap64 ((shl .i64 1 (m : Int)) - 1) = ((allN m : Nat) : Int) := by
  rw [L.shl_one (by omega)]
  have h := L.two_lt hm
  have h0 := Nat.two_pow_pos m
  unfold allN
  rw [L.w64 (by omega) (by omega)]; omega
theorem all_eq {m : Nat} (hm : m ≤ 60) (l : List Int) : impl_Order_all.f (m : Int) l = some ((allN m : Nat) : Int) := by
  unfold impl_Order_all.f
  rw [if_pos (by omega), shl_all hm]
theorem relRow_lt10 (f : Nat → Bool) {m : Nat} (hm : m ≤ 10) : L.relRow f m < 1024 :=
  Nat.lt_of_lt_of_le (L.relRow_lt f m) (Nat.pow_le_pow_right (n := 2) (by decide) hm)
theorem two_lt10 {i : Nat} (hm : i < 10) : (2 : Nat) ^ i < 1024 := Nat.pow_lt_pow_right (by decide) hm
theorem allN_lt10 {m : Nat} (hm : m ≤ 10) : allN m < 1024 := Nat.lt_of_lt_of_le (allN_lt m) (Nat.pow_le_pow_right (n := 2) (by decide) hm)
theorem belowN_lt10 (l : List Int) {m : Nat} (hm : m ≤ 10) (i : Nat) : belowN l m i < 1024 := relRow_lt10 _ hm
/-- the set of those that are indifferent to an element. -/
def freeN (l : List Int) (m i : Nat) : Nat := L.relRow (fun j => !L.bitAt l i j && !L.bitAt l j i && !decide (j = i)) m
theorem freeN_bit (l : List Int) (m i j : Nat) : (freeN l m i).testBit j = (decide (j < m) && (!L.bitAt l i j && !L.bitAt l j i && !decide (j = i))) := L.relRow_testBit _ _ _
theorem free_spec (l : List Int) (m i : Nat) : L.diff (allN m) (L.relRow (L.bitAt l i) m ||| belowN l m i ||| 2 ^ i) = freeN l m i := by
  refine Nat.eq_of_testBit_eq fun j => ?_
  rw [L.diff_testBit, Nat.testBit_or, Nat.testBit_or, allN_bit, L.relRow_testBit, belowN_bit, Nat.testBit_two_pow, freeN_bit]
  by_cases hj : j < m
  · by_cases hij : i = j
    · subst hij; simp
    · simp [hj, hij, show ¬ j = i from fun h => hij h.symm]
  · simp [hj]
theorem free_impl (l : List Int) (m i : Nat) : L.diff (L.diff (L.diff (allN m) (L.relRow (L.bitAt l i) m)) (belowN l m i)) (2 ^ i) = freeN l m i := by
  refine Nat.eq_of_testBit_eq fun j => ?_
  rw [L.diff_testBit, L.diff_testBit, L.diff_testBit, allN_bit, L.relRow_testBit, belowN_bit, Nat.testBit_two_pow, freeN_bit]
  by_cases hj : j < m
  · by_cases hij : i = j
    · subst hij; simp
    · simp [hj, hij, show ¬ j = i from fun h => hij h.symm]
  · simp [hj]
theorem orFree_ev {m : Nat} {l : List Int} (h : isRel (m : Int) l = true) {i : Nat} (hi : i < m) : Ev (fun k => spec_orFree.f k (m : Int) l (i : Int)) ((freeN l m i : Nat) : Int) := by
  obtain ⟨h1, h2⟩ := isRel_len h
  unfold spec_orFree.f
  refine L.Ev.ifp (by omega) (L.Ev.ifp (by omega) (L.Ev.ifp (by omega) (Ev.bind (orBelow_ev h i (by omega)) ?_)))
  have b1 := relRow_lt10 (L.bitAt l i) h2
  have b2 := belowN_lt10 l h2 i
  have b3 := two_lt10 (show i < 10 by omega)
  have b4 := allN_lt10 h2
  have b5 : L.relRow (L.bitAt l i) m ||| belowN l m i < 2 ^ 10 := Nat.or_lt_two_pow b1 b2
  have b6 : L.relRow (L.bitAt l i) m ||| belowN l m i ||| 2 ^ i < 2 ^ 10 := Nat.or_lt_two_pow b5 b3
  rw [shl_all (by omega), rd_isRel h hi, L.or_nat (by omega) (by omega), L.shl_one (by omega), L.or_nat (by omega) (by omega), L.andNot_nat (by omega) (by omega), free_spec]
  exact Ev.now _
end Go.Proofs.Ytjeghlmkipcihaa.P
