/- Plain laws: which relations are orders, for the program and the reference alike. -/
import Derived.Test.YthmhgclnlfdinaaDoorPuMembers
import Derived.Test.YthmhgclnlfdinaaDoorPx10
import Derived.Test.YthmhgclnlfdinaaDoorPx6
namespace Go.Proofs.YthmhgclnlfdinaaDoor.P
open Go.RowKit Go.Proofs.YthmhgclnlfdinaaDoorW.PrintWords Go.Proofs.YthmhgclnlfdinaaDoorW.PrintLast Go.Proofs.YthmhgclnlfdinaaDoorW.PrintMore L
set_option linter.unusedVariables false
set_option linter.unusedSimpArgs false
def rowN (l : List Int) (m i : Nat) : Nat := L.relRow (L.bitAt l i) m
theorem rowN_lt (l : List Int) (m i : Nat) : rowN l m i < 2 ^ m := L.relRow_lt _ _
theorem rowN_bit (l : List Int) (m i j : Nat) : (rowN l m i).testBit j = (decide (j < m) && L.bitAt l i j) := L.relRow_testBit _ _ _
theorem rel_len {m : Nat} {l : List Int} (h : isRel (m : Int) l = true) : l.length = m ∧ m ≤ 10 := by
  obtain ⟨m', hm', hm, hlm⟩ := isRel_nat h
  omega
theorem rd_rowN {m : Nat} {l : List Int} (h : isRel (m : Int) l = true) {i : Nat} (hi : i < m) : rd l (i : Int) = ((rowN l m i : Nat) : Int) := by
  have h2 := ((isRel_iff _ _).1 h).2.2.2
  rw [Int.toNat_natCast] at h2
  exact L.rd_okRel (rel_len h).1 (by have := (rel_len h).2; omega) h2 hi
theorem rowN_lt10 (l : List Int) {m : Nat} (hm : m ≤ 10) (i : Nat) : rowN l m i < 1024 :=
  Nat.lt_of_lt_of_le (rowN_lt l m i) (Nat.pow_le_pow_right (n := 2) (by decide) hm)
def ordRow (l : List Int) (m i : Nat) : Bool := (membersN (rowN l m i)).all fun j => L.diff (rowN l m j) (rowN l m i) == 0
def ordAt (l : List Int) (m i : Nat) : Bool := !L.bitAt l i i && ordRow l m i
def ordB (l : List Int) (m : Nat) : Bool := (List.range m).all (ordAt l m)
def isOrd (n : Int) (l : List Int) : Bool := isRel n l && ordB l n.toNat
theorem range_drop_step (f : Nat → Bool) (n i : Nat) (hi : i < n) : ((List.range n).drop i).all f = (f i && ((List.range n).drop (i + 1)).all f) := by
  rw [List.drop_eq_getElem_cons (by simpa using hi), List.all_cons]; simp
theorem range_drop_end (f : Nat → Bool) (n : Nat) : ((List.range n).drop n).all f = true := by rw [List.drop_eq_nil_of_le (by simp)]; rfl
theorem IsOrderLoop_ev {m : Nat} {l : List Int} (h : isRel (m : Int) l = true) : Ev (fun k => impl_IsOrder.l0 k l (l.length : Int) 0 (m : Int) l) (ordB l m) := by
  obtain ⟨h1, h2⟩ := rel_len h
  have ok := isRel_ok h
  have k1 : ∀ i, i < m → Ev (fun k => impl_IsOrder.l0 k l (l.length : Int) ((i + 1 : Nat) : Int) (m : Int) l) (((List.range m).drop (i + 1)).all (ordAt l m)) →
      ∀ j, j ≤ (membersN (rowN l m i)).length → Ev (fun k => impl_IsOrder.l1 k ((rowN l m i : Nat) : Int) l (l.length : Int) (i : Int) (L.cast (membersN (rowN l m i))) ((L.cast (membersN (rowN l m i))).length : Int) (j : Int) (m : Int) l)
        (((membersN (rowN l m i)).drop j).all (fun j => L.diff (rowN l m j) (rowN l m i) == 0) && ((List.range m).drop (i + 1)).all (ordAt l m)) := by
    intro i hi hk
    have hl10 := membersN_length (rowN l m i)
    refine L.down ?_ fun j hj ih => ?_
    · refine L.Ev.succ ?_
      simp only [impl_IsOrder.l1]
      rw [List.drop_eq_nil_of_le (Nat.le_refl _), List.all_nil, Bool.true_and]
      refine L.Ev.ifn (by rw [L.cast_length]; omega) ?_
      rw [L.w64n (by omega)]; exact hk
    · refine L.Ev.succ ?_
      simp only [impl_IsOrder.l1]
      have hmem := mem_members_lt (rowN_lt l m i) (List.getElem_mem hj)
      have e : rd (L.cast (membersN (rowN l m i))) (j : Int) = (((membersN (rowN l m i))[j] : Nat) : Int) := by
        rw [L.rd_cast, List.getD_eq_getElem?_getD, List.getElem?_eq_getElem hj]; rfl
      rw [e, rd_rowN h hmem, L.andNot_nat (by have := rowN_lt10 l h2 (membersN (rowN l m i))[j]; omega) (by have := rowN_lt10 l h2 i; omega), List.drop_eq_getElem_cons hj, List.all_cons]
      refine L.Ev.ifp (by rw [L.cast_length]; omega) (L.Ev.ifp (by omega) (L.Ev.ifp (by rw [L.cast_length]; omega) (L.Ev.ifp (by omega) (L.Ev.ifp (by omega) ?_))))
      by_cases hd : L.diff (rowN l m (membersN (rowN l m i))[j]) (rowN l m i) = 0
      · refine L.Ev.ifp (by rw [hd]; rfl) ?_
        have e2 : (L.diff (rowN l m (membersN (rowN l m i))[j]) (rowN l m i) == 0) = true := by rw [hd]; rfl
        rw [e2, Bool.true_and]
        exact Ev.congr (fun k => by rw [L.w64n (by omega)]) ih
      · refine L.Ev.ifn (by omega) ?_
        have e2 : (L.diff (rowN l m (membersN (rowN l m i))[j]) (rowN l m i) == 0) = false := by simp [hd]
        rw [e2, Bool.false_and, Bool.false_and]
        exact Ev.now _
  have k0 : ∀ i, i ≤ m → Ev (fun k => impl_IsOrder.l0 k l (l.length : Int) (i : Int) (m : Int) l) (((List.range m).drop i).all (ordAt l m)) := by
    refine L.down ?_ fun i hi ih => ?_
    · refine L.Ev.succ ?_
      simp only [impl_IsOrder.l0]
      rw [range_drop_end]
      exact L.Ev.ifn (by omega) (Ev.now _)
    · refine L.Ev.succ ?_
      simp only [impl_IsOrder.l0]
      rw [range_drop_step _ _ _ hi]
      refine L.Ev.ifp (by omega) (L.Ev.ifp (by omega) (L.Ev.ifp (by omega) (L.Ev.bindc (impl_Order_better.tells ok i i (by omega) (by omega)) ?_)))
      unfold ordAt
      cases hb : L.bitAt l i i with
      | true => exact L.Ev.ifp rfl (by simp only [Bool.not_true, Bool.false_and]; exact Ev.now _)
      | false =>
        refine L.Ev.ifn (by simp) ?_
        rw [rd_rowN h hi]
        refine Ev.bind (members_ev _ (rowN_lt10 l h2 i)) ?_
        have := k1 i hi ih 0 (by omega)
        rw [List.drop_zero] at this
        simp only [Bool.not_false, Bool.true_and]
        exact this
  have := k0 0 (by omega)
  rw [List.drop_zero] at this
  exact this
theorem orGoodLoop_ev {m : Nat} {l : List Int} (h : isRel (m : Int) l = true) : Ev (fun k => spec_orGood.l0 k l (l.length : Int) 0 (m : Int) l) (ordB l m) := by
  obtain ⟨h1, h2⟩ := rel_len h
  have ok := isRel_ok h
  have k1 : ∀ i, i < m → Ev (fun k => spec_orGood.l0 k l (l.length : Int) ((i + 1 : Nat) : Int) (m : Int) l) (((List.range m).drop (i + 1)).all (ordAt l m)) →
      ∀ j, j ≤ (membersN (rowN l m i)).length → Ev (fun k => spec_orGood.l1 k ((rowN l m i : Nat) : Int) l (l.length : Int) (i : Int) (L.cast (membersN (rowN l m i))) ((L.cast (membersN (rowN l m i))).length : Int) (j : Int) (m : Int) l)
        (((membersN (rowN l m i)).drop j).all (fun j => L.diff (rowN l m j) (rowN l m i) == 0) && ((List.range m).drop (i + 1)).all (ordAt l m)) := by
    intro i hi hk
    have hl10 := membersN_length (rowN l m i)
    refine L.down ?_ fun j hj ih => ?_
    · refine L.Ev.succ ?_
      simp only [spec_orGood.l1]
      rw [List.drop_eq_nil_of_le (Nat.le_refl _), List.all_nil, Bool.true_and]
      refine L.Ev.ifn (by rw [L.cast_length]; omega) ?_
      rw [L.w64n (by omega)]; exact hk
    · refine L.Ev.succ ?_
      simp only [spec_orGood.l1]
      have hmem := mem_members_lt (rowN_lt l m i) (List.getElem_mem hj)
      have e : rd (L.cast (membersN (rowN l m i))) (j : Int) = (((membersN (rowN l m i))[j] : Nat) : Int) := by
        rw [L.rd_cast, List.getD_eq_getElem?_getD, List.getElem?_eq_getElem hj]; rfl
      rw [e, rd_rowN h hmem, L.andNot_nat (by have := rowN_lt10 l h2 (membersN (rowN l m i))[j]; omega) (by have := rowN_lt10 l h2 i; omega), List.drop_eq_getElem_cons hj, List.all_cons]
      refine L.Ev.ifp (by rw [L.cast_length]; omega) (L.Ev.ifp (by omega) (L.Ev.ifp (by rw [L.cast_length]; omega) (L.Ev.ifp (by omega) (L.Ev.ifp (by omega) ?_))))
      by_cases hd : L.diff (rowN l m (membersN (rowN l m i))[j]) (rowN l m i) = 0
      · refine L.Ev.ifp (by rw [hd]; rfl) ?_
        have e2 : (L.diff (rowN l m (membersN (rowN l m i))[j]) (rowN l m i) == 0) = true := by rw [hd]; rfl
        rw [e2, Bool.true_and]
        exact Ev.congr (fun k => by rw [L.w64n (by omega)]) ih
      · refine L.Ev.ifn (by omega) ?_
        have e2 : (L.diff (rowN l m (membersN (rowN l m i))[j]) (rowN l m i) == 0) = false := by simp [hd]
        rw [e2, Bool.false_and, Bool.false_and]
        exact Ev.now _
  have k0 : ∀ i, i ≤ m → Ev (fun k => spec_orGood.l0 k l (l.length : Int) (i : Int) (m : Int) l) (((List.range m).drop i).all (ordAt l m)) := by
    refine L.down ?_ fun i hi ih => ?_
    · refine L.Ev.succ ?_
      simp only [spec_orGood.l0]
      rw [range_drop_end]
      exact L.Ev.ifn (by omega) (Ev.now _)
    · refine L.Ev.succ ?_
      simp only [spec_orGood.l0]
      rw [range_drop_step _ _ _ hi]
      refine L.Ev.ifp (by omega) (L.Ev.ifp (by omega) (L.Ev.ifp (by omega) (L.Ev.bindc (orHas_eq ok i i (by omega)) ?_)))
      unfold ordAt
      cases hb : L.bitAt l i i with
      | true => exact L.Ev.ifp rfl (by simp only [Bool.not_true, Bool.false_and]; exact Ev.now _)
      | false =>
        refine L.Ev.ifn (by simp) ?_
        rw [rd_rowN h hi]
        refine Ev.bind (orList_ev _ (rowN_lt10 l h2 i)) ?_
        have := k1 i hi ih 0 (by omega)
        rw [List.drop_zero] at this
        simp only [Bool.not_false, Bool.true_and]
        exact this
  have := k0 0 (by omega)
  rw [List.drop_zero] at this
  exact this
theorem IsOrder_ev (n : Int) (l : List Int) (hl : l.length ≤ 1048576) : Ev (fun k => impl_IsOrder.f k n l) (isOrd n l) := by
  unfold impl_IsOrder.f isOrd
  refine Ev.bind (IsRelation_ev n l (by omega)) ?_
  cases h : isRel n l with
  | false => exact L.Ev.ifn (by simp) (by rw [Bool.false_and]; exact Ev.now _)
  | true =>
    obtain ⟨m, rfl, hm, hlm⟩ := isRel_nat h
    refine L.Ev.ifp rfl ?_
    rw [Bool.true_and, Int.toNat_natCast]
    exact IsOrderLoop_ev h
theorem orGood_ev (n : Int) (l : List Int) (hl : l.length ≤ 1048576) : Ev (fun k => spec_orGood.f k n l) (isOrd n l) := by
  unfold spec_orGood.f isOrd
  refine Ev.bind (orRelation_ev n l (by omega)) ?_
  cases h : isRel n l with
  | false => exact L.Ev.ifn (by simp) (by rw [Bool.false_and]; exact Ev.now _)
  | true =>
    obtain ⟨m, rfl, hm, hlm⟩ := isRel_nat h
    refine L.Ev.ifp rfl ?_
    rw [Bool.true_and, Int.toNat_natCast]
    exact orGoodLoop_ev h
theorem isOrd_rel {n : Int} {l : List Int} (h : isOrd n l = true) : isRel n l = true := by
  unfold isOrd at h; rw [Bool.and_eq_true] at h; exact h.1
end Go.Proofs.YthmhgclnlfdinaaDoor.P
