/- Plain laws: which lists are relations, for the program and the reference alike; conditions: the numbers are 64-bit numbers. -/
import Derived.Test.YtjeghlmkipcihaaLib
import Derived.Test.YtjeghlmkipcihaaPx5
import Derived.Test.YtjeghlmkipcihaaPx3
namespace Go.Proofs.Ytjeghlmkipcihaa.P
open Go.RowKit Go.Proofs.YtjeghlmkipcihaaW.PrintWords Go.Proofs.YtjeghlmkipcihaaW.PrintLast Go.Proofs.YtjeghlmkipcihaaW.PrintMore L
set_option linter.unusedVariables false
set_option linter.unusedSimpArgs false
theorem within_eq (a b c : Int) : impl_within.f a b c = some (decide (b ≤ a ∧ a ≤ c)) := by
  unfold impl_within.f
  by_cases h : a ≥ b
  · rw [if_pos h]; congr 1; simp; omega
  · rw [if_neg h]; congr 1; simp; omega
theorem l1In_eq (a b c : Int) : spec_l1In.f a b c = some (decide (b ≤ a ∧ a ≤ c)) := within_eq a b c
/-- all of a list lie between two numbers. -/
def allIn (l : List Int) (b c : Int) : Bool := l.all fun x => decide (b ≤ x ∧ x ≤ c)
theorem allIn_iff (l : List Int) (b c : Int) : allIn l b c = true ↔ ∀ x ∈ l, b ≤ x ∧ x ≤ c := by simp [allIn]
theorem allIn_step (l : List Int) (b c : Int) (i : Nat) (hi : i < l.length) : allIn (l.drop i) b c = (decide (b ≤ l[i] ∧ l[i] ≤ c) && allIn (l.drop (i + 1)) b c) := by
  unfold allIn; rw [List.drop_eq_getElem_cons hi, List.all_cons]
theorem allWithin_ev (l : List Int) (b c : Int) (hl : l.length ≤ 9223372036854775806) : Ev (fun k => impl_allWithin.f k l b c) (allIn l b c) := by
  have key : ∀ i, i ≤ l.length → Ev (fun k => impl_allWithin.l0 k b c l (l.length : Int) (i : Int)) (allIn (l.drop i) b c) := by
    refine L.down ?_ fun i hi ih => ?_
    · refine L.Ev.succ ?_
      simp only [impl_allWithin.l0]
      refine L.Ev.ifn (by omega) ?_
      rw [List.drop_eq_nil_of_le (Nat.le_refl _)]
      exact Ev.now _
    · refine L.Ev.succ ?_
      simp only [impl_allWithin.l0]
      refine L.Ev.ifp (by omega) (L.Ev.ifp (by omega) (L.Ev.ifp (by omega) (L.Ev.bindc (within_eq _ _ _) ?_)))
      rw [allIn_step l b c i hi, L.rd_get hi]
      by_cases h : b ≤ l[i] ∧ l[i] ≤ c
      · refine L.Ev.ifp (by simpa using h) ?_
        simp only [h, and_self, decide_true, Bool.true_and]
        exact Ev.congr (fun k => by rw [L.w64n (by omega)]) ih
      · refine L.Ev.ifn (by simpa using h) ?_
        simp only [h, decide_false, Bool.false_and]
        exact Ev.now _
  exact key 0 (by omega)
theorem l1All_same : ∀ k a b c d e, spec_l1All.l0 k a b c d e = impl_allWithin.l0 k a b c d e := by
  intro k
  induction k with
  | zero => intros; rfl
  | succ k ih => intro a b c d e; simp only [spec_l1All.l0, impl_allWithin.l0, ih, l1In_eq, within_eq]
theorem l1All_ev (l : List Int) (b c : Int) (hl : l.length ≤ 9223372036854775806) : Ev (fun k => spec_l1All.f k l b c) (allIn l b c) :=
  Ev.congr (fun k => l1All_same k b c l _ _) (allWithin_ev l b c hl)
/-- the numbers of a relation. -/
def isRel (n : Int) (l : List Int) : Bool := decide (0 ≤ n ∧ n ≤ 10 ∧ (l.length : Int) = n ∧ ∀ x ∈ l, 0 ≤ x ∧ x < 2 ^ n.toNat)
theorem isRel_iff (n : Int) (l : List Int) : isRel n l = true ↔ 0 ≤ n ∧ n ≤ 10 ∧ (l.length : Int) = n ∧ ∀ x ∈ l, 0 ≤ x ∧ x < 2 ^ n.toNat := by simp [isRel]
theorem isRel_big {n : Nat} {l : List Int} (h : isRel n l = true) : ∀ x ∈ l, 0 ≤ x ∧ x < 1024 := by
  obtain ⟨h0, h1, h2, h3⟩ := (isRel_iff _ _).1 h
  intro x hx
  obtain ⟨a, b⟩ := h3 x hx
  have : (2 : Int) ^ (n : Int).toNat ≤ 2 ^ 10 := by
    have := Nat.pow_le_pow_right (n := 2) (by decide) (show (n : Int).toNat ≤ 10 by omega)
    exact_mod_cast this
  omega
theorem isRel_ok {n : Int} {l : List Int} (h : isRel n l = true) : L.okRel n l := by
  obtain ⟨h0, h1, h2, h3⟩ := (isRel_iff _ _).1 h
  obtain ⟨m, rfl⟩ := Int.eq_ofNat_of_zero_le h0
  refine ⟨h0, by omega, h2, fun x hx => ?_⟩
  have := isRel_big h x hx
  omega
theorem IsRelation_ev (n : Int) (l : List Int) (hl : l.length ≤ 9223372036854775806) : Ev (fun k => impl_IsRelation.f k n l) (isRel n l) := by
  unfold impl_IsRelation.f
  refine L.Ev.bindc (within_eq _ _ _) ?_
  by_cases h : 0 ≤ n ∧ n ≤ 10
  · refine L.Ev.ifp (by simpa using h) ?_
    by_cases h2 : (l.length : Int) = n
    · refine L.Ev.ifp h2 (L.Ev.ifp h.1 ?_)
      obtain ⟨m, rfl⟩ := Int.eq_ofNat_of_zero_le h.1
      have e : wrap64 (shl .i64 1 (m : Int) - 1) = 2 ^ m - 1 := by
        rw [L.shl_one (by omega)]
        have h1 : (2 : Nat) ^ m ≤ 2 ^ 10 := Nat.pow_le_pow_right (by decide) (by omega)
        have e3 : ((2 ^ m : Nat) : Int) = 2 ^ m := by push_cast; rfl
        rw [← e3]
        generalize (2 : Nat) ^ m = z at *
        rw [L.w64 (by omega) (by omega)]
      have e2 : isRel (m : Int) l = allIn l 0 (2 ^ m - 1) := by
        rw [Bool.eq_iff_iff, isRel_iff, allIn_iff, Int.toNat_natCast]
        constructor
        · rintro ⟨_, _, _, h4⟩ x hx
          have := h4 x hx
          omega
        · intro h4
          refine ⟨h.1, h.2, h2, fun x hx => ?_⟩
          have := h4 x hx
          omega
      refine Ev.congr (fun k => ?_) (Ev.bind (allWithin_ev l 0 (2 ^ m - 1) hl) (f := fun _ t => some t) (r := isRel (m : Int) l) (by rw [e2]; exact Ev.now _))
      rw [e]
    · refine L.Ev.ifn h2 ?_
      have e : isRel n l = false := by
        rw [← Bool.not_eq_true, isRel_iff]; rintro ⟨_, _, h3, _⟩; exact h2 h3
      rw [e]; exact Ev.now _
  · refine L.Ev.ifn (by simpa using h) ?_
    have e : isRel n l = false := by
      rw [← Bool.not_eq_true, isRel_iff]; rintro ⟨h3, h4, _⟩; exact h ⟨h3, h4⟩
    rw [e]; exact Ev.now _
theorem orRelation_ev (n : Int) (l : List Int) (hl : l.length ≤ 9223372036854775806) : Ev (fun k => spec_orRelation.f k n l) (isRel n l) := by
  refine Ev.congr (fun k => ?_) (IsRelation_ev n l hl)
  unfold spec_orRelation.f impl_IsRelation.f
  simp only [l1In_eq, within_eq]
  have e : ∀ b c, spec_l1All.f k l b c = impl_allWithin.f k l b c := fun b c => l1All_same k b c l _ _
  simp only [e]
end Go.Proofs.Ytjeghlmkipcihaa.P
