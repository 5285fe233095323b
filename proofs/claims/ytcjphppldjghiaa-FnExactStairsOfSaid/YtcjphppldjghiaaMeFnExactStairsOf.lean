/- The plain laws behind FnExactStairsOf, in one text (merged by wip/merge.py). -/
import Derived.Test.YtcjphppldjghiaaLib
import Derived.Test.YtcjphppldjghiaaPx3
import Derived.Test.YtcjphppldjghiaaPx1
import Derived.Test.YtcjphppldjghiaaRowLib
import Derived.Test.YtcjphppldjghiaaPx18
import Derived.Test.YtcjphppldjghiaaPx17
import Derived.Test.YtcjphppldjghiaaPx2
import Derived.Test.YtcjphppldjghiaaPx11
import Derived.Test.YtcjphppldjghiaaPx4
import Derived.Test.YtcjphppldjghiaaPx19
/-! ### PuStairs -/
/- Plain laws: all stairs of so many numbers, as the program lists them. -/
namespace Go.Proofs.Ytcjphppldjghiaa.P
open Go.RowKit Go.Proofs.YtcjphppldjghiaaW.PrintWords Go.Proofs.YtcjphppldjghiaaW.PrintLast Go.Proofs.YtcjphppldjghiaaW.PrintMore L
set_option linter.unusedVariables false
set_option linter.unusedSimpArgs false
namespace Stairs
/-- the least number that goes on a stair. -/
def low (i : Nat) (s : List Nat) : Nat := if i = 0 then 0 else s.getD (i - 1) 0
/-- the stairs that go on one of i numbers by one number. -/
def ext (i : Nat) (s : List Nat) : List (List Nat) := ((List.range (i + 1)).drop (low i s)).map fun k => s ++ [k]
def S : Nat → List (List Nat)
  | 0 => [[]]
  | i + 1 => (S i).flatMap (ext i)
def cc (M : List (List Nat)) : List (List Int) := M.map L.cast
theorem cc_length (M : List (List Nat)) : (cc M).length = M.length := by simp [cc]
theorem cc_append (M N : List (List Nat)) : cc (M ++ N) = cc M ++ cc N := by simp [cc]
theorem cc_get (M : List (List Nat)) (j : Nat) (h : j < M.length) : rd_L1 (cc M) (j : Int) = L.cast M[j] := by
  unfold rd_L1 cc
  rw [Int.toNat_natCast, List.getD_eq_getElem?_getD, List.getElem?_map, List.getElem?_eq_getElem h]; rfl
/-- what holds of each stair of i numbers. -/
def Ok (i : Nat) (s : List Nat) : Prop := s.length = i ∧ ∀ x ∈ s, x ≤ i
theorem low_le {i : Nat} {s : List Nat} (h : Ok i s) : low i s ≤ i := by
  unfold low
  by_cases h0 : i = 0
  · rw [if_pos h0]; omega
  · rw [if_neg h0, List.getD_eq_getElem?_getD, List.getElem?_eq_getElem (by rw [h.1]; omega)]
    exact h.2 _ (List.getElem_mem _)
theorem ext_len (i : Nat) (s : List Nat) : (ext i s).length ≤ i + 1 := by simp [ext]
theorem ok_ext {i : Nat} {s t : List Nat} (h : Ok i s) (ht : t ∈ ext i s) : Ok (i + 1) t := by
  unfold ext at ht
  obtain ⟨k, hk, rfl⟩ := List.mem_map.1 ht
  have := List.mem_range.1 (List.mem_of_mem_drop hk)
  refine ⟨by simp [h.1], fun x hx => ?_⟩
  rcases List.mem_append.1 hx with hx | hx
  · have := h.2 x hx; omega
  · have : x = k := by simpa using hx
    omega
theorem ok_S : ∀ i s, s ∈ S i → Ok i s
  | 0, s, h => by
    have : s = [] := by simpa [S] using h
    subst this; exact ⟨rfl, by simp⟩
  | i + 1, s, h => by
    obtain ⟨t, ht, h2⟩ := List.mem_flatMap.1 h
    exact ok_ext (ok_S i t ht) h2
theorem flat_len (i c : Nat) : ∀ M : List (List Nat), (∀ s, (ext i s).length ≤ c) → (M.flatMap (ext i)).length ≤ M.length * c
  | [], _ => by simp
  | s :: M, h => by
    have h1 := flat_len i c M h
    have h2 := h s
    rw [List.flatMap_cons, List.length_append, List.length_cons, Nat.succ_mul]; omega
theorem S_len : ∀ i, i ≤ 10 → (S i).length ≤ 11 ^ i
  | 0, _ => by simp [S]
  | i + 1, h => by
    have h1 := S_len i (by omega)
    have h2 := flat_len i 11 (S i) (fun s => Nat.le_trans (ext_len i s) (by omega))
    show ((S i).flatMap (ext i)).length ≤ _
    rw [Nat.pow_succ]
    exact Nat.le_trans h2 (Nat.mul_le_mul_right 11 h1)
theorem clone_st (l : List Int) (hl : l.length ≤ 1048576) : slices_Clone_int_int.f l = some l := by
  unfold slices_Clone_int_int.f
  rw [if_pos (by omega)]
theorem cast_snoc (s : List Nat) (i : Nat) : L.cast s ++ [(i : Int)] = L.cast (s ++ [i]) := by simp [L.cast]
theorem inner_ev (i n : Nat) (hi : i < 10) (hn : n ≤ 10) (M : List (List Nat)) (j : Nat) (s : List Nat) (hs : s.length = i) (hj : j < 1000000000000) (r : List (List Int)) :
    ∀ a, a ≤ i + 1 → ∀ next : List (List Nat), next.length + (i + 1 - a) ≤ 5000000000000 → Ev (fun k => impl_stairs.l1 k (i : Int) (cc (next ++ ((List.range (i + 1)).drop a).map fun k => s ++ [k])) (n : Int) (i : Int) (cc M) (M.length : Int) ((j + 1 : Nat) : Int)) r →
      Ev (fun k => impl_stairs.l2 k (i : Int) (cc next) (L.cast s) (a : Int) (n : Int) (i : Int) (cc M) (M.length : Int) (j : Int)) r := by
  refine L.down ?_ fun a ha ih => ?_
  · intro next hl hr
    refine L.Ev.succ ?_
    simp only [impl_stairs.l2]
    refine L.Ev.ifn (by omega) ?_
    rw [List.drop_eq_nil_of_le (by simp), List.map_nil, List.append_nil] at hr
    exact Ev.congr (fun k => by rw [L.w64n (by omega)]) hr
  · intro next hl hr
    refine L.Ev.succ ?_
    simp only [impl_stairs.l2]
    refine L.Ev.ifp (by omega) (L.Ev.bindc (clone_st _ (by rw [L.cast_length]; omega)) (L.Ev.ifp (by rw [L.cast_length]; omega) (L.Ev.ifp (by rw [cc_length]; omega) ?_)))
    rw [List.drop_eq_getElem_cons (by simpa using ha), List.map_cons, List.getElem_range] at hr
    have e : cc next ++ [L.cast s ++ [(a : Int)]] = cc (next ++ [s ++ [a]]) := by rw [cast_snoc, cc_append]; rfl
    refine Ev.congr (fun k => ?_) (ih (next ++ [s ++ [a]]) (by rw [List.length_append, List.length_singleton]; omega) ?_)
    · rw [e, L.w64n (by omega)]
    · rw [List.append_assoc]; exact hr
theorem mid_ev (i n : Nat) (hi : i < 10) (hn : n ≤ 10) (M : List (List Nat)) (hM : ∀ s ∈ M, Ok i s) (hml : M.length * 11 ≤ 4000000000000) (r : List (List Int)) :
    ∀ j, j ≤ M.length → ∀ next : List (List Nat), next.length + (M.length - j) * 11 ≤ 5000000000000 → Ev (fun k => impl_stairs.l0 k (cc (next ++ (M.drop j).flatMap (ext i))) (n : Int) ((i + 1 : Nat) : Int)) r →
      Ev (fun k => impl_stairs.l1 k (i : Int) (cc next) (n : Int) (i : Int) (cc M) (M.length : Int) (j : Int)) r := by
  refine L.down ?_ fun j hj ih => ?_
  · intro next hl hr
    refine L.Ev.succ ?_
    simp only [impl_stairs.l1]
    refine L.Ev.ifn (by omega) ?_
    rw [List.drop_eq_nil_of_le (Nat.le_refl _), List.flatMap_nil, List.append_nil] at hr
    exact Ev.congr (fun k => by rw [L.w64n (by omega)]) hr
  · intro next hl hr
    have ho := hM _ (List.getElem_mem hj)
    have hle := low_le ho
    have he := ext_len i M[j]
    have hx : (M.length - j) * 11 = (M.length - (j + 1)) * 11 + 11 := by
      rw [show M.length - j = (M.length - (j + 1)) + 1 by omega, Nat.succ_mul]
    have key : Ev (fun k => impl_stairs.l2 k (i : Int) (cc next) (L.cast M[j]) ((low i M[j] : Nat) : Int) (n : Int) (i : Int) (cc M) (M.length : Int) (j : Int)) r := by
      refine inner_ev i n hi hn M j M[j] ho.1 (by omega) r _ (by omega) next (by omega) (ih _ ?_ ?_)
      · rw [List.length_append]
        have : (((List.range (i + 1)).drop (low i M[j])).map fun k => M[j] ++ [k]).length ≤ i + 1 := he
        omega
      · rw [List.append_assoc]
        rw [List.drop_eq_getElem_cons hj, List.flatMap_cons] at hr
        exact hr
    refine L.Ev.succ ?_
    simp only [impl_stairs.l1]
    refine L.Ev.ifp (by omega) (L.Ev.ifp (by omega) (L.Ev.ifp (by rw [cc_length]; omega) ?_))
    rw [cc_get M j hj]
    unfold low at key
    by_cases h0 : i = 0
    · refine L.Ev.ifn (by omega) ?_
      rw [if_pos h0] at key
      exact key
    · rw [if_neg h0] at key
      have e1 : wrap64 ((i : Int) - 1) = ((i - 1 : Nat) : Int) := by rw [L.w64 (by omega) (by omega)]; omega
      have hlen := ho.1
      rw [e1, L.rd_cast, L.cast_length]
      refine L.Ev.ifp (by omega) (L.Ev.ifp (by omega) (L.Ev.ifp (by omega) key))
theorem outer_ev (n : Nat) (hn : n ≤ 10) : ∀ i, i ≤ n → Ev (fun k => impl_stairs.l0 k (cc (S i)) (n : Int) (i : Int)) (cc (S n)) := by
  refine L.down ?_ fun i hi ih => ?_
  · refine L.Ev.succ ?_
    simp only [impl_stairs.l0]
    exact L.Ev.ifn (by omega) (Ev.now _)
  · refine L.Ev.succ ?_
    simp only [impl_stairs.l0]
    refine L.Ev.ifp (by omega) ?_
    have hs := S_len i (by omega)
    have h2 : 11 ^ i ≤ 11 ^ 9 := Nat.pow_le_pow_right (by decide) (by omega)
    have h3 : (11 : Nat) ^ 9 = 2357947691 := by decide
    have := mid_ev i n (by omega) hn (S i) (fun s => ok_S i s) (by omega) (cc (S n)) 0 (by omega) [] (by rw [List.length_nil]; omega) (by rw [List.drop_zero, List.nil_append]; exact ih)
    rw [cc_length]
    exact this
theorem stairs_ev (n : Nat) (hn : n ≤ 10) : Ev (fun k => impl_stairs.f k (n : Int)) (cc (S n)) := by
  unfold impl_stairs.f
  exact outer_ev n hn 0 (by omega)
end Stairs
end Go.Proofs.Ytcjphppldjghiaa.P

/-! ### PuWithin -/
/- Plain laws: numbers between two numbers, in the program and in the reference. -/
namespace Go.Proofs.Ytcjphppldjghiaa.P
open Go.RowKit Go.Proofs.YtcjphppldjghiaaW.PrintWords Go.Proofs.YtcjphppldjghiaaW.PrintLast Go.Proofs.YtcjphppldjghiaaW.PrintMore L
set_option linter.unusedVariables false
set_option linter.unusedSimpArgs false
theorem within_eq (a b c : Int) : impl_within.f a b c = some (decide (b ≤ a ∧ a ≤ c)) := by
  unfold impl_within.f
  by_cases h : a ≥ b
  · rw [if_pos h]; congr 1; simp; omega
  · rw [if_neg h]; congr 1; simp; omega
theorem l1In_eq (a b c : Int) : spec_l1In.f a b c = some (decide (b ≤ a ∧ a ≤ c)) := within_eq a b c
end Go.Proofs.Ytcjphppldjghiaa.P

/-! ### BoStairsOf -/
/- What StairsOf comes to, in the program and in the reference. -/
namespace Go.Proofs.Ytcjphppldjghiaa.P
open Go.RowKit Go.Proofs.YtcjphppldjghiaaW.PrintWords Go.Proofs.YtcjphppldjghiaaW.PrintLast Go.Proofs.YtcjphppldjghiaaW.PrintMore L
set_option linter.unusedVariables false
set_option linter.unusedSimpArgs false
namespace Stairs
/-- the stairs that go on one by so many numbers. -/
def D : Nat → List Nat → List (List Nat)
  | 0, s => [s]
  | d + 1, s => (ext s.length s).flatMap (D d)
def T : Nat → Nat → List (List Nat) → List (List Nat)
  | 0, _, M => M
  | d + 1, i, M => T d (i + 1) (M.flatMap (ext i))
theorem flat_one : ∀ M : List (List Nat), M = M.flatMap (D 0)
  | [] => rfl
  | s :: M => by rw [List.flatMap_cons, ← flat_one M]; rfl
theorem T_D : ∀ (d i : Nat) (M : List (List Nat)), (∀ s ∈ M, s.length = i) → T d i M = M.flatMap (D d)
  | 0, i, M, _ => flat_one M
  | d + 1, i, M, h => by
    show T d (i + 1) (M.flatMap (ext i)) = _
    rw [T_D d (i + 1) _ (fun t ht => by
      obtain ⟨s, hs, h2⟩ := List.mem_flatMap.1 ht
      unfold ext at h2
      obtain ⟨k, _, rfl⟩ := List.mem_map.1 h2
      simp [h s hs]), List.flatMap_assoc]
    have e : ∀ M : List (List Nat), (∀ s ∈ M, s.length = i) → (M.flatMap fun x => (ext i x).flatMap (D d)) = M.flatMap (D (d + 1)) := by
      intro M h
      induction M with
      | nil => rfl
      | cons s M ih =>
        rw [List.flatMap_cons, List.flatMap_cons, ih fun t ht => h t (List.mem_cons_of_mem _ ht)]
        have : D (d + 1) s = (ext i s).flatMap (D d) := by
          show (ext s.length s).flatMap (D d) = _
          rw [h s List.mem_cons_self]
        rw [this]
    exact e M h
theorem T_S : ∀ d i, T d i (S i) = S (i + d)
  | 0, i => rfl
  | d + 1, i => by
    show T d (i + 1) (S (i + 1)) = _
    rw [T_S d (i + 1), show i + 1 + d = i + (d + 1) by omega]
theorem D_S (n : Nat) : D n [] = S n := by
  have h := T_S n 0
  rw [T_D n 0 _ (fun s hs => by
    have : s = [] := by simpa [S] using hs
    rw [this]; rfl), Nat.zero_add] at h
  rw [← h]
  show D n [] = D n [] ++ []
  rw [List.append_nil]
theorem D_len : ∀ (d : Nat) (s : List Nat), s.length + d ≤ 6 → (D d s).length ≤ 7 ^ d
  | 0, s, _ => by simp [D]
  | d + 1, s, h => by
    have he := ext_len s.length s
    have hx : ∀ t ∈ ext s.length s, t.length = s.length + 1 := by
      intro t ht
      unfold ext at ht
      obtain ⟨k, _, rfl⟩ := List.mem_map.1 ht
      simp
    have key : ∀ M : List (List Nat), (∀ t ∈ M, t.length = s.length + 1) → (M.flatMap (D d)).length ≤ M.length * 7 ^ d := by
      intro M hM
      induction M with
      | nil => simp
      | cons t M ih =>
        have h1 := D_len d t (by rw [hM t List.mem_cons_self]; omega)
        have h2 := ih fun u hu => hM u (List.mem_cons_of_mem _ hu)
        rw [List.flatMap_cons, List.length_append, List.length_cons, Nat.succ_mul]; omega
    show ((ext s.length s).flatMap (D d)).length ≤ _
    rw [Nat.pow_succ, Nat.mul_comm]
    exact Nat.le_trans (key _ hx) (Nat.mul_le_mul_right _ (by omega))
theorem own_st (l : List Int) (hl : l.length ≤ 1048576) : spec_l1Own.f l = some l := by
  unfold spec_l1Own.f
  simp only [Option.bind_some, List.length_nil, List.nil_append]
  rw [if_pos (by omega)]
theorem seStairs_ev : ∀ (d n : Nat) (s : List Nat), s.length + d = n → n ≤ 6 → (∀ x ∈ s, x ≤ s.length) → Ev (fun k => spec_seStairs.f k (L.cast s) (n : Int)) (cc (D d s))
  | 0, n, s, hs, hn, hx => by
    refine L.Ev.succ ?_
    simp only [spec_seStairs.f]
    refine L.Ev.ifp (by rw [L.cast_length]; omega) (L.Ev.bindc (own_st _ (by rw [L.cast_length]; omega)) (Ev.now _))
  | d + 1, n, s, hs, hn, hx => by
    have hc : (L.cast s).length = s.length := L.cast_length s
    have hpow : (7 : Nat) ^ d ≤ 7 ^ 6 := Nat.pow_le_pow_right (by decide) (by omega)
    have h7 : (7 : Nat) ^ 6 = 117649 := by decide
    have key : ∀ a, a ≤ s.length + 1 → ∀ acc : List (List Nat), acc.length + (s.length + 1 - a) * 7 ^ d ≤ 10000000 →
        Ev (fun k => spec_seStairs.l0 k (L.cast s) (n : Int) (cc acc) (a : Int)) (cc (acc ++ ((List.range (s.length + 1)).drop a).flatMap fun x => D d (s ++ [x]))) := by
      refine L.down ?_ fun a ha ih => ?_
      · intro acc hl
        refine L.Ev.succ ?_
        simp only [spec_seStairs.l0]
        refine L.Ev.ifn (by omega) ?_
        rw [List.drop_eq_nil_of_le (by simp), List.flatMap_nil, List.append_nil]
        exact Ev.now _
      · intro acc hl
        have hsum : (s.length + 1 - a) * 7 ^ d = (s.length + 1 - (a + 1)) * 7 ^ d + 7 ^ d := by
          rw [show s.length + 1 - a = (s.length + 1 - (a + 1)) + 1 by omega, Nat.succ_mul]
        refine L.Ev.succ ?_
        simp only [spec_seStairs.l0]
        refine L.Ev.ifp (by omega) (L.Ev.bindc (own_st _ (by omega)) (L.Ev.ifp (by omega) ?_))
        have hD := D_len d (s ++ [a]) (by simp; omega)
        have ih1 := seStairs_ev d n (s ++ [a]) (by simp; omega) hn (fun x h => by
          rcases List.mem_append.1 h with h | h
          · have := hx x h; simp; omega
          · have : x = a := by simpa using h
            simp; omega)
        rw [cast_snoc]
        refine Ev.bind ih1 (L.Ev.ifp (by rw [cc_length, cc_length]; omega) ?_)
        rw [List.drop_eq_getElem_cons (by simpa using ha), List.flatMap_cons, List.getElem_range, ← List.append_assoc, ← cc_append]
        exact Ev.congr (fun k => by rw [L.w64n (by omega)]) (ih (acc ++ D d (s ++ [a])) (by rw [List.length_append]; omega))
    have hlow : low s.length s ≤ s.length := low_le ⟨rfl, hx⟩
    have k0 := key (low s.length s) (by omega) [] (by
      rw [List.length_nil]
      have : (s.length + 1 - low s.length s) * 7 ^ d ≤ 7 * 7 ^ d := Nat.mul_le_mul_right _ (by omega)
      omega)
    have e : ([] : List (List Nat)) ++ (((List.range (s.length + 1)).drop (low s.length s)).flatMap fun x => D d (s ++ [x])) = D (d + 1) s := by
      show _ = (((List.range (s.length + 1)).drop (low s.length s)).map fun k => s ++ [k]).flatMap (D d)
      rw [List.flatMap_map, List.nil_append]
    rw [e] at k0
    refine L.Ev.succ ?_
    simp only [spec_seStairs.f]
    refine L.Ev.ifn (by omega) ?_
    unfold low at k0
    by_cases h0 : s.length = 0
    · refine L.Ev.ifn (by omega) (L.Ev.succ ?_)
      simp only [spec_seStairs.j0]
      rw [if_pos h0] at k0
      exact k0
    · rw [if_neg h0] at k0
      have e1 : wrap64 (((L.cast s).length : Int) - 1) = ((s.length - 1 : Nat) : Int) := by rw [hc, L.w64 (by omega) (by omega)]; omega
      rw [e1, L.rd_cast]
      refine L.Ev.ifp (by omega) (L.Ev.ifp (by omega) (L.Ev.ifp (by omega) (L.Ev.succ ?_)))
      simp only [spec_seStairs.j0]
      exact k0
end Stairs
theorem StairsOf_both (a0 : Int) (w0 : R.wf a0) : (∃ n : Nat, n ≤ 6 ∧ Ev (fun k => spec_StairsOf.f k a0) (Stairs.cc (Stairs.S n), true) ∧ Ev (fun k => impl_StairsOf.f k a0) (Stairs.cc (Stairs.S n), true)) ∨ (Ev (fun k => spec_StairsOf.f k a0) ([], false) ∧ Ev (fun k => impl_StairsOf.f k a0) ([], false)) := by
  unfold spec_StairsOf.f impl_StairsOf.f
  by_cases h : 0 ≤ a0 ∧ a0 ≤ 6
  · obtain ⟨n, rfl⟩ := Int.eq_ofNat_of_zero_le h.1
    refine .inl ⟨n, by omega, ?_, ?_⟩
    · have h1 := Stairs.seStairs_ev n n [] (by simp) (by omega) (by simp)
      rw [Stairs.D_S] at h1
      exact L.Ev.bindc (l1In_eq _ _ _) (L.Ev.ifp (by simpa using h) (Ev.bind h1 (Ev.now _)))
    · exact L.Ev.bindc (within_eq _ _ _) (L.Ev.ifp (by simpa using h) (Ev.bind (Stairs.stairs_ev n (by omega)) (Ev.now _)))
  · exact .inr ⟨L.Ev.bindc (l1In_eq _ _ _) (L.Ev.ifn (by simpa using h) (Ev.now _)), L.Ev.bindc (within_eq _ _ _) (L.Ev.ifn (by simpa using h) (Ev.now _))⟩
end Go.Proofs.Ytcjphppldjghiaa.P

/-! ### PuMark -/
/- Plain laws of the marks that are laid into rows of whole numbers and looked for again; no conditions beyond the rows' lengths. -/
namespace Go.Proofs.Ytcjphppldjghiaa.P
open Go.RowKit Go.Proofs.YtcjphppldjghiaaW.PrintWords Go.Proofs.YtcjphppldjghiaaW.PrintLast Go.Proofs.YtcjphppldjghiaaW.PrintMore L
set_option linter.unusedVariables false
set_option linter.unusedSimpArgs false
/-- a, a + 1, .. -/
def marks (a : Int) (n : Nat) : List Int := (List.range n).map fun (i : Nat) => a + (i : Int)
theorem marks_length (a : Int) (n : Nat) : (marks a n).length = n := by simp [marks]
theorem markIntS_ev (l : List Int) (a : Int) (ha : 0 ≤ a ∧ a ≤ 4194304) (hl : l.length ≤ 1048576) : Ev (fun k => laws_markIntS.f k l a) (a + l.length, marks a l.length) := by
  have key : ∀ i, i ≤ l.length → Ev (fun k => laws_markIntS.l0 k (marks a i ++ l.drop i) (a + i) (i : Int)) (a + l.length, marks a l.length) := by
    refine L.down ?_ fun i hi ih => ?_
    · refine L.Ev.succ ?_
      simp only [laws_markIntS.l0]
      rw [List.drop_eq_nil_of_le (Nat.le_refl _), List.append_nil]
      refine L.Ev.ifn (by rw [marks_length]; omega) ?_
      exact Ev.now _
    · refine L.Ev.succ ?_
      simp only [laws_markIntS.l0]
      refine L.Ev.ifp (by rw [List.length_append, marks_length, List.length_drop]; omega) (L.Ev.ifp (by omega) ?_)
      have e : (marks a i ++ l.drop i).set i (a + i) = marks a (i + 1) ++ l.drop (i + 1) := by
        refine List.ext_getElem? fun j => ?_
        rw [List.getElem?_set]
        by_cases hj : i = j
        · subst hj
          rw [if_pos rfl, if_pos (by rw [List.length_append, marks_length, List.length_drop]; omega), List.getElem?_append_left (by rw [marks_length]; omega)]
          simp [marks]
        · rw [if_neg hj]
          by_cases h1 : j < i
          · rw [List.getElem?_append_left (by rw [marks_length]; omega), List.getElem?_append_left (by rw [marks_length]; omega)]
            simp [marks, h1, show j < i + 1 by omega]
          · rw [List.getElem?_append_right (by rw [marks_length]; omega), List.getElem?_append_right (by rw [marks_length]; omega), marks_length, marks_length, List.getElem?_drop, List.getElem?_drop]
            congr 1; omega
      refine Ev.congr (fun k => ?_) ih
      rw [L.w64n (n := i) (by omega), L.w64 (x := a + i + 1) (by omega) (by omega), Int.toNat_natCast, e]
      congr 1; omega
  refine Ev.congr (fun k => ?_) (key 0 (by omega))
  unfold laws_markIntS.f
  simp [marks]
theorem heldIntS_ev (l : List Int) (a : Int) (ha : 0 ≤ a ∧ a ≤ 4194304) (hl : l.length ≤ 1048576) : Ev (fun k => laws_heldIntS.f k l a) (if l = marks a l.length then a + l.length else -1) := by
  by_cases hm : l = marks a l.length
  · rw [if_pos hm]
    have key : ∀ i, i ≤ l.length → Ev (fun k => laws_heldIntS.l0 k l (a + i) (i : Int)) (a + l.length) := by
      refine L.down ?_ fun i hi ih => ?_
      · refine L.Ev.succ ?_
        simp only [laws_heldIntS.l0]
        refine L.Ev.ifn (by omega) ?_
        exact Ev.now _
      · refine L.Ev.succ ?_
        simp only [laws_heldIntS.l0]
        refine L.Ev.ifp (by omega) (L.Ev.ifp (by omega) (L.Ev.ifp ?_ ?_))
        · rw [L.rd_nat]
          have e : l.getD i 0 = (marks a l.length).getD i 0 := by rw [← hm]
          rw [e, List.getD_eq_getElem?_getD]
          simp [marks, hi]
        · refine Ev.congr (fun k => ?_) ih
          rw [L.w64n (n := i) (by omega), L.w64 (x := a + i + 1) (by omega) (by omega)]
          congr 1; omega
    exact Ev.congr (fun k => by unfold laws_heldIntS.f; simp) (key 0 (by omega))
  · rw [if_neg hm]
    have key : ∀ i, i ≤ l.length → (∀ j, j < i → l.getD j 0 = a + j) → Ev (fun k => laws_heldIntS.l0 k l (a + i) (i : Int)) (-1) := by
      refine L.down ?_ fun i hi ih => ?_
      · intro h
        refine absurd ?_ hm
        refine List.ext_getElem? fun j => ?_
        by_cases hj : j < l.length
        · have := h j hj
          rw [List.getD_eq_getElem?_getD, List.getElem?_eq_getElem hj] at this
          rw [List.getElem?_eq_getElem hj]
          simp only [Option.getD_some] at this
          simp [marks, hj, this]
        · rw [List.getElem?_eq_none (by omega), List.getElem?_eq_none (by rw [marks_length]; omega)]
      · intro h
        refine L.Ev.succ ?_
        simp only [laws_heldIntS.l0]
        refine L.Ev.ifp (by omega) (L.Ev.ifp (by omega) ?_)
        by_cases e : rd l (i : Int) = a + i
        · refine L.Ev.ifp e ?_
          refine Ev.congr (fun k => ?_) (ih fun j hj => ?_)
          · rw [L.w64n (n := i) (by omega), L.w64 (x := a + i + 1) (by omega) (by omega)]
            congr 1; omega
          · by_cases hji : j = i
            · rw [hji, ← L.rd_nat]; exact e
            · exact h j (by omega)
        · exact L.Ev.ifn e (Ev.now _)
    exact Ev.congr (fun k => by unfold laws_heldIntS.f; simp) (key 0 (by omega) (by omega))
theorem held_marks (a : Int) (n : Nat) (ha : 0 ≤ a ∧ a ≤ 4194304) (hn : n ≤ 1048576) : Ev (fun k => laws_heldIntS.f k (marks a n) a) (a + n) := by
  have h := heldIntS_ev (marks a n) a ha (by rw [marks_length]; omega)
  rw [marks_length, if_pos rfl] at h
  exact h
end Go.Proofs.Ytcjphppldjghiaa.P

/-! ### PuInts -/
/- Plain laws of the copies and comparisons of rows of whole numbers; no conditions beyond the rows' lengths. -/
namespace Go.Proofs.Ytcjphppldjghiaa.P
open Go.RowKit Go.Proofs.YtcjphppldjghiaaW.PrintWords Go.Proofs.YtcjphppldjghiaaW.PrintLast Go.Proofs.YtcjphppldjghiaaW.PrintMore L
set_option linter.unusedVariables false
set_option linter.unusedSimpArgs false
theorem toIntS_ev (l : List Int) (hl : l.length ≤ 35184372088832) : Ev (fun k => laws_toIntS.f k l) l := by
  have key : ∀ i, i ≤ l.length → Ev (fun k => laws_toIntS.l0 k l (l.take i ++ List.replicate (l.length - i) 0) (i : Int)) l := by
    refine L.down ?_ fun i hi ih => ?_
    · refine L.Ev.succ ?_
      simp only [laws_toIntS.l0]
      refine L.Ev.ifn (by omega) ?_
      rw [Nat.sub_self, List.take_of_length_le (Nat.le_refl _)]
      simp only [List.replicate_zero, List.append_nil]
      exact Ev.now l
    · refine L.Ev.succ ?_
      simp only [laws_toIntS.l0]
      refine L.Ev.ifp (by omega) (L.Ev.ifp (by omega) (L.Ev.ifp ?_ ?_))
      · simp only [List.length_append, List.length_take, List.length_replicate]; omega
      · have e : (l.take i ++ List.replicate (l.length - i) 0).set i (rd l (i : Int)) = l.take (i + 1) ++ List.replicate (l.length - (i + 1)) 0 := by
          rw [L.rd_get hi]
          refine List.ext_getElem? fun j => ?_
          rw [List.getElem?_set]
          by_cases hj : i = j
          · subst hj
            rw [if_pos rfl, if_pos (by simp only [List.length_append, List.length_take, List.length_replicate]; omega), List.getElem?_append_left (by simp only [List.length_take]; omega), List.getElem?_take, if_pos (by omega), List.getElem?_eq_getElem hi]
          · rw [if_neg hj]
            by_cases h1 : j < i
            · rw [List.getElem?_append_left (by simp only [List.length_take]; omega), List.getElem?_append_left (by simp only [List.length_take]; omega), List.getElem?_take, List.getElem?_take, if_pos h1, if_pos (by omega)]
            · rw [List.getElem?_append_right (by simp only [List.length_take]; omega), List.getElem?_append_right (by simp only [List.length_take]; omega)]
              simp only [List.length_take, List.getElem?_replicate]
              by_cases h2 : j < l.length
              · rw [if_pos (by omega), if_pos (by omega)]
              · rw [if_neg (by omega), if_neg (by omega)]
        refine Ev.congr (fun k => ?_) ih
        rw [L.w64n (by omega), Int.toNat_natCast, e]
  refine Ev.congr (fun k => ?_) (key 0 (by omega))
  unfold laws_toIntS.f
  rw [if_pos (by omega), if_pos (by omega)]
  simp
theorem eqIntS_ev (l m : List Int) (hl : l.length ≤ 9223372036854775806) : Ev (fun k => laws_eqIntS.f k l m) (decide (l = m)) := by
  by_cases hlen : l.length = m.length
  · have key : ∀ i, i ≤ l.length → Ev (fun k => laws_eqIntS.l0 k l m (i : Int)) (decide (l.drop i = m.drop i)) := by
      refine L.down ?_ fun i hi ih => ?_
      · refine L.Ev.succ ?_
        simp only [laws_eqIntS.l0]
        refine L.Ev.ifn (by omega) ?_
        rw [List.drop_eq_nil_of_le (Nat.le_refl _), List.drop_eq_nil_of_le (by omega)]
        exact Ev.now _
      · refine L.Ev.succ ?_
        simp only [laws_eqIntS.l0]
        refine L.Ev.ifp (by omega) (L.Ev.ifp (by omega) (L.Ev.ifp (by omega) ?_))
        rw [L.rd_get hi, L.rd_get (l := m) (by omega), List.drop_eq_getElem_cons hi, List.drop_eq_getElem_cons (l := m) (by omega)]
        by_cases e : l[i] = m[i]'(by omega)
        · refine L.Ev.ifp e ?_
          refine Ev.congr (fun k => by rw [L.w64n (by omega)]) ?_
          have e2 : (l[i] :: List.drop (i + 1) l = m[i]'(by omega) :: List.drop (i + 1) m) = (List.drop (i + 1) l = List.drop (i + 1) m) := propext ⟨fun h => (List.cons.inj h).2, fun h => by rw [e, h]⟩
          simp only [e2]
          exact ih
        · refine L.Ev.ifn e ?_
          simp only [List.cons.injEq, e, false_and, decide_false]
          exact Ev.now _
    have h := key 0 (by omega)
    refine Ev.congr (fun k => ?_) h
    unfold laws_eqIntS.f
    rw [if_pos (by omega)]; rfl
  · have e : l ≠ m := fun h => hlen (by rw [h])
    refine Ev.congr (fun k => ?_) (f := fun _ => some false) (by simp only [e, decide_false]; exact Ev.now _)
    unfold laws_eqIntS.f
    rw [if_neg (by omega)]
theorem eqIntS_self (l : List Int) (hl : l.length ≤ 9223372036854775806) : Ev (fun k => laws_eqIntS.f k l l) true := by
  have h := eqIntS_ev l l hl
  simpa using h
end Go.Proofs.Ytcjphppldjghiaa.P

/-! ### PuMarkSS -/
/- Plain laws of the marks that are laid into rows of rows of whole numbers and looked for again, and of their comparison. -/
namespace Go.Proofs.Ytcjphppldjghiaa.P
open Go.RowKit Go.Proofs.YtcjphppldjghiaaW.PrintWords Go.Proofs.YtcjphppldjghiaaW.PrintLast Go.Proofs.YtcjphppldjghiaaW.PrintMore L
set_option linter.unusedVariables false
set_option linter.unusedSimpArgs false
/-- how many numbers there are in all. -/
def total : List (List Int) → Nat
  | [] => 0
  | l :: M => l.length + total M
def marksL : Int → List (List Int) → List (List Int)
  | _, [] => []
  | a, l :: M => marks a l.length :: marksL (a + l.length) M
theorem marksL_length : ∀ (M : List (List Int)) (a : Int), (marksL a M).length = M.length
  | [], _ => rfl
  | l :: M, a => by simp [marksL, marksL_length M]
theorem total_append : ∀ M N : List (List Int), total (M ++ N) = total M + total N
  | [], N => by simp [total]
  | l :: M, N => by
    show l.length + total (M ++ N) = l.length + total M + total N
    rw [total_append M N]; omega
theorem marksL_append : ∀ (M N : List (List Int)) (a : Int), marksL a (M ++ N) = marksL a M ++ marksL (a + total M) N
  | [], N, a => by simp [marksL, total]
  | l :: M, N, a => by
    show marks a l.length :: marksL (a + l.length) (M ++ N) = marks a l.length :: (marksL (a + l.length) M ++ marksL (a + (l.length + total M : Nat)) N)
    rw [marksL_append M N, show a + (l.length : Int) + (total M : Int) = a + ((l.length + total M : Nat) : Int) by omega]
theorem rd_mid (M N : List (List Int)) (l : List Int) (j : Nat) (h : M.length = j) : rd_L1 (M ++ l :: N) (j : Int) = l := by
  unfold rd_L1
  subst h
  rw [Int.toNat_natCast, List.getD_eq_getElem?_getD, List.getElem?_append_right (Nat.le_refl _), Nat.sub_self]; rfl
theorem set_mid (M N : List (List Int)) (l x : List Int) (j : Nat) (h : M.length = j) : (M ++ l :: N).set j x = M ++ x :: N := by
  subst h
  rw [List.set_append_right _ _ (Nat.le_refl _), Nat.sub_self]; rfl
theorem markIntSS_key (n : Nat) (hn : n ≤ 1000000) (r : Int × List (List Int)) : ∀ (N M : List (List Int)) (a : Int), 0 ≤ a → a + total N ≤ 2000000 → total N ≤ 1000000 → M.length + N.length = n → r = (a + total N, M ++ marksL a N) →
    Ev (fun k => laws_markIntSS.l0 k (M ++ N) a (M.length : Int)) r
  | [], M, a, h0, h1, h2, h3, hr => by
    subst hr
    refine L.Ev.succ ?_
    simp only [laws_markIntSS.l0, List.append_nil, marksL, total]
    refine L.Ev.ifn (by omega) ?_
    simp only [Int.natCast_zero, Int.add_zero]
    exact Ev.now _
  | l :: N, M, a, h0, h1, h2, h3, hr => by
    have ht : total (l :: N) = l.length + total N := rfl
    rw [ht] at h1 h2 hr
    have hl3 : M.length + (N.length + 1) = n := by simpa using h3
    refine L.Ev.succ ?_
    simp only [laws_markIntSS.l0]
    refine L.Ev.ifp (by rw [List.length_append, List.length_cons]; omega) (L.Ev.ifp (by omega) ?_)
    rw [rd_mid M N l _ rfl]
    refine Ev.bind (markIntS_ev l a (by omega) (by omega)) ?_
    have ih := markIntSS_key n hn r N (M ++ [marks a l.length]) (a + l.length) (by omega) (by omega) (by omega) (by rw [List.length_append, List.length_singleton]; omega) (by
      rw [hr]
      show _ = _
      rw [List.append_assoc, show a + (l.length : Int) + (total N : Int) = a + ((l.length + total N : Nat) : Int) by omega]
      rfl)
    refine Ev.congr (fun k => ?_) ih
    rw [Int.toNat_natCast, set_mid M N l _ _ rfl, List.append_assoc, List.length_append, List.length_singleton, L.w64n (by omega)]
    rfl
theorem markIntSS_ev (M : List (List Int)) (hn : M.length ≤ 1000000) (ht : total M ≤ 1000000) : Ev (fun k => laws_markIntSS.f k M 1) (1 + (total M : Int), marksL 1 M) := by
  unfold laws_markIntSS.f
  exact markIntSS_key M.length hn _ M [] 1 (by omega) (by omega) ht (by simp) rfl
theorem heldIntSS_key (n : Nat) (hn : n ≤ 1000000) (r : Int) : ∀ (N M : List (List Int)) (a : Int), 0 ≤ a → a + total N ≤ 2000000 → total N ≤ 1000000 → M.length + N.length = n → r = a + total N →
    Ev (fun k => laws_heldIntSS.l0 k (M ++ marksL a N) a (M.length : Int)) r
  | [], M, a, h0, h1, h2, h3, hr => by
    subst hr
    refine L.Ev.succ ?_
    simp only [laws_heldIntSS.l0, List.append_nil, marksL, total]
    refine L.Ev.ifn (by omega) ?_
    simp only [Int.natCast_zero, Int.add_zero]
    exact Ev.now _
  | l :: N, M, a, h0, h1, h2, h3, hr => by
    have ht : total (l :: N) = l.length + total N := rfl
    rw [ht] at h1 h2 hr
    have hl3 : M.length + (N.length + 1) = n := by simpa using h3
    refine L.Ev.succ ?_
    simp only [laws_heldIntSS.l0, marksL]
    refine L.Ev.ifp (by rw [List.length_append, List.length_cons]; omega) (L.Ev.ifp (by omega) ?_)
    rw [rd_mid M _ _ _ rfl]
    refine Ev.bind (held_marks a l.length (by omega) (by omega)) (L.Ev.ifn (by omega) ?_)
    have ih := heldIntSS_key n hn r N (M ++ [marks a l.length]) (a + l.length) (by omega) (by omega) (by omega) (by rw [List.length_append, List.length_singleton]; omega) (by rw [hr]; omega)
    refine Ev.congr (fun k => ?_) ih
    rw [List.append_assoc, List.length_append, List.length_singleton, L.w64n (by omega)]
    rfl
theorem heldIntSS_ev (M : List (List Int)) (hn : M.length ≤ 1000000) (ht : total M ≤ 1000000) : Ev (fun k => laws_heldIntSS.f k (marksL 1 M) 1) (1 + (total M : Int)) := by
  unfold laws_heldIntSS.f
  exact heldIntSS_key M.length hn _ M [] 1 (by omega) (by omega) ht (by simp) rfl
theorem eqIntSS_self (M : List (List Int)) (hn : M.length ≤ 1000000) (hl : ∀ l ∈ M, l.length ≤ 1000000) : Ev (fun k => laws_eqIntSS.f k M M) true := by
  have key : ∀ i, i ≤ M.length → Ev (fun k => laws_eqIntSS.l0 k M M (i : Int)) true := by
    refine L.down ?_ fun i hi ih => ?_
    · refine L.Ev.succ ?_
      simp only [laws_eqIntSS.l0]
      exact L.Ev.ifn (by omega) (Ev.now _)
    · refine L.Ev.succ ?_
      simp only [laws_eqIntSS.l0]
      have e : rd_L1 M (i : Int) = M[i] := by
        unfold rd_L1; rw [Int.toNat_natCast, List.getD_eq_getElem?_getD, List.getElem?_eq_getElem hi]; rfl
      rw [e]
      have := hl _ (List.getElem_mem hi)
      refine L.Ev.ifp (by omega) (L.Ev.ifp (by omega) (L.Ev.ifp (by omega) (Ev.bind (eqIntS_self _ (by omega)) (L.Ev.ifp rfl ?_))))
      exact Ev.congr (fun k => by rw [L.w64n (by omega)]) ih
  unfold laws_eqIntSS.f
  exact L.Ev.ifp rfl (key 0 (by omega))
end Go.Proofs.Ytcjphppldjghiaa.P

/-! ### PuFnExactStairsOf -/
/- The plain law behind FnExactStairsOf, out of what the program's and the reference's function come to. -/
namespace Go.Proofs.Ytcjphppldjghiaa.P
open Go.RowKit Go.Proofs.YtcjphppldjghiaaW.PrintWords Go.Proofs.YtcjphppldjghiaaW.PrintLast Go.Proofs.YtcjphppldjghiaaW.PrintMore L
set_option linter.unusedVariables false
set_option linter.unusedSimpArgs false
set_option maxRecDepth 100000 in
theorem S_few : ∀ n : Fin 7, (Stairs.S n.1).length ≤ 132 := by decide +kernel
theorem total_le (c : Nat) : ∀ M : List (List Int), (∀ l ∈ M, l.length ≤ c) → total M ≤ M.length * c
  | [], _ => by simp [total]
  | l :: M, h => by
    have h1 := total_le c M fun x hx => h x (List.mem_cons_of_mem _ hx)
    have h2 := h l List.mem_cons_self
    show l.length + total M ≤ _
    rw [List.length_cons, Nat.succ_mul]; omega
theorem StairsOf_law (a0 : Int) (M : List (List Int)) (b : Bool) (hs : Ev (fun k => spec_StairsOf.f k a0) (M, b)) (hi : Ev (fun k => impl_StairsOf.f k a0) (M, b)) (hn : M.length ≤ 1000000) (hl : ∀ l ∈ M, l.length ≤ 1000000) (ht : total M ≤ 1000000) :
    ∃ k, laws_FnExactStairsOf.f k a0 = some true := by
  refine Ev.rounds (r := true) ?_
  unfold laws_FnExactStairsOf.f
  refine Ev.bind hs (Ev.bind hi (Ev.bind (eqIntSS_self M hn hl) (Ev.bind (markIntSS_ev M hn ht) (Ev.bind (heldIntSS_ev M hn ht) ?_))))
  exact L.Ev.ifp ⟨rfl, rfl, by omega, rfl⟩ (Ev.now _)
theorem FnExactStairsOf_pure (a0 : Int) (w0 : R.wf a0) : ∃ k, laws_FnExactStairsOf.f k a0 = some true := by
  rcases StairsOf_both a0 w0 with ⟨n, hn, hs, hi⟩ | ⟨hs, hi⟩
  · have h1 : (Stairs.S n).length ≤ 132 := S_few ⟨n, by omega⟩
    have h2 : ∀ l ∈ Stairs.cc (Stairs.S n), l.length ≤ 6 := by
      intro l hl
      obtain ⟨s, hs, rfl⟩ := List.mem_map.1 hl
      have := (Stairs.ok_S n s hs).1
      rw [L.cast_length]; omega
    have h3 := total_le 6 _ h2
    rw [Stairs.cc_length] at h3
    exact StairsOf_law a0 _ true hs hi (by rw [Stairs.cc_length]; omega) (fun l hl => by have := h2 l hl; omega) (by omega)
  · exact StairsOf_law a0 [] false hs hi (by simp) (by simp) (by simp [total])
end Go.Proofs.Ytcjphppldjghiaa.P
