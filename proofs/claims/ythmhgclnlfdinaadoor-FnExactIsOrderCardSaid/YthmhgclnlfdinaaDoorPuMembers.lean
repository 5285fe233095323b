/- Plain laws: the elements of a set, in the program and in the reference; sets of numbers below ten. -/
import Derived.Test.YthmhgclnlfdinaaDoorPuRel2
import Derived.Test.YthmhgclnlfdinaaDoorPuRows
import Derived.Test.YthmhgclnlfdinaaDoorPx9
import Derived.Test.YthmhgclnlfdinaaDoorPx5
namespace Go.Proofs.YthmhgclnlfdinaaDoor.P
open Go.RowKit Go.Proofs.YthmhgclnlfdinaaDoorW.PrintWords Go.Proofs.YthmhgclnlfdinaaDoorW.PrintLast Go.Proofs.YthmhgclnlfdinaaDoorW.PrintMore L
set_option linter.unusedVariables false
set_option linter.unusedSimpArgs false
/-- the elements of a set, in order. -/
def membersN (x : Nat) : List Nat := (List.range 10).filter fun i => x.testBit i
theorem membersN_step : ∀ x : Nat, x < 1024 → x ≠ 0 → membersN x = Lib.ctz 64 x :: membersN (x &&& (x - 1)) ∧ x &&& (x - 1) < x := by decide +kernel
theorem membersN_zero : membersN 0 = [] := by decide +kernel
theorem membersN_length (x : Nat) : (membersN x).length ≤ 10 := by
  have := List.length_filter_le (fun i => x.testBit i) (List.range 10)
  rw [List.length_range] at this; exact this
theorem mem_membersN {x i : Nat} : i ∈ membersN x ↔ i < 10 ∧ x.testBit i = true := by simp [membersN]
theorem mem_members_lt {x m i : Nat} (hx : x < 2 ^ m) (h : i ∈ membersN x) : i < m := by
  have h2 := (mem_membersN.1 h).2
  by_cases hi : i < m
  · exact hi
  · rw [Nat.testBit_lt_two_pow (Nat.lt_of_lt_of_le hx (Nat.pow_le_pow_right (by decide) (by omega)))] at h2
    cases h2
theorem membersLoop_ev : ∀ x : Nat, x < 1024 → ∀ acc : List Int, acc.length + 10 < 1048576 → Ev (fun k => impl_members.l0 k (x : Int) acc) (acc ++ L.cast (membersN x)) := by
  have key : ∀ n x : Nat, x < n → x < 1024 → ∀ acc : List Int, acc.length + (membersN x).length < 1048600 → Ev (fun k => impl_members.l0 k (x : Int) acc) (acc ++ L.cast (membersN x)) := by
    intro n
    induction n with
    | zero => intro x hx; omega
    | succ n ih =>
      intro x hx h10 acc hacc
      refine L.Ev.succ ?_
      simp only [impl_members.l0]
      by_cases h0 : x = 0
      · subst h0
        rw [membersN_zero]
        refine L.Ev.ifp (by omega) ?_
        have e : acc ++ L.cast [] = acc := by simp [L.cast]
        rw [e]; exact Ev.now _
      · obtain ⟨e1, e2⟩ := membersN_step x h10 h0
        refine L.Ev.ifn (by omega) (L.Ev.bindc (a := ((Lib.ctz 64 x : Nat) : Int)) ?_ (L.Ev.ifp (by omega) ?_))
        · rw [IntKind.wrap_u64]
          unfold bits_TrailingZeros.f
          rw [if_pos (by omega)]
          congr 3; omega
        · rw [L.w64 (by omega) (by omega), show ((x : Int) - 1) = ((x - 1 : Nat) : Int) by omega, L.and_nat (by omega) (by omega), e1]
          rw [e1, List.length_cons] at hacc
          have := ih (x &&& (x - 1)) (by omega) (by omega) (acc ++ [((Lib.ctz 64 x : Nat) : Int)]) (by rw [List.length_append, List.length_singleton]; omega)
          rw [List.append_assoc] at this
          exact this
  intro x hx acc hacc
  have := membersN_length x
  exact key (x + 1) x (by omega) hx acc (by omega)
theorem members_ev (x : Nat) (hx : x < 1024) : Ev (fun k => impl_members.f k (x : Int)) (L.cast (membersN x)) := by
  have := membersLoop_ev x hx [] (by simp)
  rw [List.nil_append] at this
  exact this
theorem orHas_nat {x j : Nat} (hj : j ≤ 64) : spec_orHas.f (x : Int) (j : Int) = some (x.testBit j) := by
  unfold spec_orHas.f
  rw [if_pos (by omega), L.bit_mod hj]
theorem orList_ev (x : Nat) (hx : x < 1024) : Ev (fun k => spec_orList.f k (x : Int)) (L.cast (membersN x)) := by
  have key : ∀ i, i ≤ 10 → Ev (fun k => spec_orList.l0 k (x : Int) (L.cast ((List.range i).filter fun i => x.testBit i)) (i : Int)) (L.cast (membersN x)) := by
    refine L.down ?_ fun i hi ih => ?_
    · refine L.Ev.succ ?_
      simp only [spec_orList.l0]
      refine L.Ev.ifp (by omega) (L.Ev.ifn ?_ (Ev.now _))
      rw [L.shr_nat (by omega), Nat.shiftRight_eq_div_pow, Nat.div_eq_of_lt (by simpa using hx)]; simp
    · refine L.Ev.succ ?_
      simp only [spec_orList.l0]
      refine L.Ev.ifp (by omega) ?_
      rw [L.shr_nat (by omega)]
      by_cases h : x >>> i = 0
      · refine L.Ev.ifn (by rw [h]; simp) ?_
        have hlt : x < 2 ^ i := by
          rw [Nat.shiftRight_eq_div_pow] at h
          exact (Nat.div_eq_zero_iff_lt (Nat.two_pow_pos i)).1 h
        have e : membersN x = (List.range i).filter fun i => x.testBit i := by
          unfold membersN
          rw [show 10 = i + (10 - i) by omega, List.range_add, List.filter_append]
          have e2 : ((List.range (10 - i)).map (i + ·)).filter (fun i => x.testBit i) = [] := by
            rw [List.filter_eq_nil_iff]
            intro a ha
            obtain ⟨b, _, rfl⟩ := List.mem_map.1 ha
            rw [Nat.testBit_lt_two_pow (Nat.lt_of_lt_of_le hlt (Nat.pow_le_pow_right (by decide) (by omega)))]; simp
          rw [e2, List.append_nil]
        rw [e]; exact Ev.now _
      · refine L.Ev.ifp (by have := Nat.pos_of_ne_zero h; exact_mod_cast this) (L.Ev.bindc (orHas_nat (by omega)) ?_)
        have e : (List.range (i + 1)).filter (fun i => x.testBit i) = (List.range i).filter (fun i => x.testBit i) ++ if x.testBit i then [i] else [] := by
          rw [List.range_succ, List.filter_append]
          cases hb : x.testBit i <;> simp [hb]
        rw [e] at ih
        have hlen : ((List.range i).filter fun i => x.testBit i).length ≤ 10 := by
          have := List.length_filter_le (fun i => x.testBit i) (List.range i)
          rw [List.length_range] at this; omega
        cases hb : x.testBit i with
        | true =>
          refine L.Ev.ifp rfl (L.Ev.ifp (by rw [L.cast_length]; omega) ?_)
          rw [hb, if_pos rfl, L.cast_append] at ih
          exact Ev.congr (fun k => by rw [L.w64n (by omega)]; rfl) ih
        | false =>
          refine L.Ev.ifn (by simp) ?_
          rw [hb, if_neg (by simp), List.append_nil] at ih
          exact Ev.congr (fun k => by rw [L.w64n (by omega)]) ih
  exact key 0 (by omega)
end Go.Proofs.YthmhgclnlfdinaaDoor.P
