/- The plain laws behind FnExactCountStairs, in one text (merged by wip/merge.py). -/
import Derived.Test.YtcjphppldjghiaaLib
import Derived.Test.YtcjphppldjghiaaPx3
import Derived.Test.YtcjphppldjghiaaPx1
import Derived.Test.YtcjphppldjghiaaRowLib
import Derived.Test.YtcjphppldjghiaaPx12
/-! ### PuStairs -/
/- Plain laws: all stairs of so many numbers, as the program lists them. -/
namespace Go.Proofs.Ytcjphppldjghiaa.P
open Go.RowKit Go.Proofs.YtcjphppldjghiaaW.PrintWords Go.Proofs.YtcjphppldjghiaaW.PrintLast Go.Proofs.YtcjphppldjghiaaW.PrintMore L
set_option linter.unusedVariables false
set_option linter.unusedSimpArgs false
namespace Stairs
/-- the least number that goes on a stair. -/
def low (i : Nat) (s : List Nat) : Nat := if i = 0 then 0 else s.getD (i - 1) 0
/-- the stairs that go on one of i numbers by one number. -/
def ext (i : Nat) (s : List Nat) : List (List Nat) := ((List.range (i + 1)).drop (low i s)).map fun k => s ++ [k]
def S : Nat → List (List Nat)
  | 0 => [[]]
  | i + 1 => (S i).flatMap (ext i)
def cc (M : List (List Nat)) : List (List Int) := M.map L.cast
theorem cc_length (M : List (List Nat)) : (cc M).length = M.length := by simp [cc]
theorem cc_append (M N : List (List Nat)) : cc (M ++ N) = cc M ++ cc N := by simp [cc]
theorem cc_get (M : List (List Nat)) (j : Nat) (h : j < M.length) : rd_L1 (cc M) (j : Int) = L.cast M[j] := by
  unfold rd_L1 cc
  rw [Int.toNat_natCast, List.getD_eq_getElem?_getD, List.getElem?_map, List.getElem?_eq_getElem h]; rfl
/-- what holds of each stair of i numbers. -/
def Ok (i : Nat) (s : List Nat) : Prop := s.length = i ∧ ∀ x ∈ s, x ≤ i
theorem low_le {i : Nat} {s : List Nat} (h : Ok i s) : low i s ≤ i := by
  unfold low
  by_cases h0 : i = 0
  · rw [if_pos h0]; omega
  · rw [if_neg h0, List.getD_eq_getElem?_getD, List.getElem?_eq_getElem (by rw [h.1]; omega)]
    exact h.2 _ (List.getElem_mem _)
theorem ext_len (i : Nat) (s : List Nat) : (ext i s).length ≤ i + 1 := by simp [ext]
theorem ok_ext {i : Nat} {s t : List Nat} (h : Ok i s) (ht : t ∈ ext i s) : Ok (i + 1) t := by
  unfold ext at ht
  obtain ⟨k, hk, rfl⟩ := List.mem_map.1 ht
  have := List.mem_range.1 (List.mem_of_mem_drop hk)
  refine ⟨by simp [h.1], fun x hx => ?_⟩
  rcases List.mem_append.1 hx with hx | hx
  · have := h.2 x hx; omega
  · have : x = k := by simpa using hx
    omega
theorem ok_S : ∀ i s, s ∈ S i → Ok i s
  | 0, s, h => by
    have : s = [] := by simpa [S] using h
    subst this; exact ⟨rfl, by simp⟩
  | i + 1, s, h => by
    obtain ⟨t, ht, h2⟩ := List.mem_flatMap.1 h
    exact ok_ext (ok_S i t ht) h2
theorem flat_len (i c : Nat) : ∀ M : List (List Nat), (∀ s, (ext i s).length ≤ c) → (M.flatMap (ext i)).length ≤ M.length * c
  | [], _ => by simp
  | s :: M, h => by
    have h1 := flat_len i c M h
    have h2 := h s
    rw [List.flatMap_cons, List.length_append, List.length_cons, Nat.succ_mul]; omega
theorem S_len : ∀ i, i ≤ 10 → (S i).length ≤ 11 ^ i
  | 0, _ => by simp [S]
  | i + 1, h => by
    have h1 := S_len i (by omega)
    have h2 := flat_len i 11 (S i) (fun s => Nat.le_trans (ext_len i s) (by omega))
    show ((S i).flatMap (ext i)).length ≤ _
    rw [Nat.pow_succ]
    exact Nat.le_trans h2 (Nat.mul_le_mul_right 11 h1)
theorem clone_st (l : List Int) (hl : l.length ≤ 1048576) : slices_Clone_int_int.f l = some l := by
  unfold slices_Clone_int_int.f
  rw [if_pos (by omega)]
theorem cast_snoc (s : List Nat) (i : Nat) : L.cast s ++ [(i : Int)] = L.cast (s ++ [i]) := by simp [L.cast]
theorem inner_ev (i n : Nat) (hi : i < 10) (hn : n ≤ 10) (M : List (List Nat)) (j : Nat) (s : List Nat) (hs : s.length = i) (hj : j < 1000000000000) (r : List (List Int)) :
    ∀ a, a ≤ i + 1 → ∀ next : List (List Nat), next.length + (i + 1 - a) ≤ 5000000000000 → Ev (fun k => impl_stairs.l1 k (i : Int) (cc (next ++ ((List.range (i + 1)).drop a).map fun k => s ++ [k])) (n : Int) (i : Int) (cc M) (M.length : Int) ((j + 1 : Nat) : Int)) r →
      Ev (fun k => impl_stairs.l2 k (i : Int) (cc next) (L.cast s) (a : Int) (n : Int) (i : Int) (cc M) (M.length : Int) (j : Int)) r := by
  refine L.down ?_ fun a ha ih => ?_
  · intro next hl hr
    refine L.Ev.succ ?_
    simp only [impl_stairs.l2]
    refine L.Ev.ifn (by omega) ?_
    rw [List.drop_eq_nil_of_le (by simp), List.map_nil, List.append_nil] at hr
    exact Ev.congr (fun k => by rw [L.w64n (by omega)]) hr
  · intro next hl hr
    refine L.Ev.succ ?_
    simp only [impl_stairs.l2]
    refine L.Ev.ifp (by omega) (L.Ev.bindc (clone_st _ (by rw [L.cast_length]; omega)) (L.Ev.ifp (by rw [L.cast_length]; omega) (L.Ev.ifp (by rw [cc_length]; omega) ?_)))
    rw [List.drop_eq_getElem_cons (by simpa using ha), List.map_cons, List.getElem_range] at hr
    have e : cc next ++ [L.cast s ++ [(a : Int)]] = cc (next ++ [s ++ [a]]) := by rw [cast_snoc, cc_append]; rfl
    refine Ev.congr (fun k => ?_) (ih (next ++ [s ++ [a]]) (by rw [List.length_append, List.length_singleton]; omega) ?_)
    · rw [e, L.w64n (by omega)]
    · rw [List.append_assoc]; exact hr
theorem mid_ev (i n : Nat) (hi : i < 10) (hn : n ≤ 10) (M : List (List Nat)) (hM : ∀ s ∈ M, Ok i s) (hml : M.length * 11 ≤ 4000000000000) (r : List (List Int)) :
    ∀ j, j ≤ M.length → ∀ next : List (List Nat), next.length + (M.length - j) * 11 ≤ 5000000000000 → Ev (fun k => impl_stairs.l0 k (cc (next ++ (M.drop j).flatMap (ext i))) (n : Int) ((i + 1 : Nat) : Int)) r →
      Ev (fun k => impl_stairs.l1 k (i : Int) (cc next) (n : Int) (i : Int) (cc M) (M.length : Int) (j : Int)) r := by
  refine L.down ?_ fun j hj ih => ?_
  · intro next hl hr
    refine L.Ev.succ ?_
    simp only [impl_stairs.l1]
    refine L.Ev.ifn (by omega) ?_
    rw [List.drop_eq_nil_of_le (Nat.le_refl _), List.flatMap_nil, List.append_nil] at hr
    exact Ev.congr (fun k => by rw [L.w64n (by omega)]) hr
  · intro next hl hr
    have ho := hM _ (List.getElem_mem hj)
    have hle := low_le ho
    have he := ext_len i M[j]
    have hx : (M.length - j) * 11 = (M.length - (j + 1)) * 11 + 11 := by
      rw [show M.length - j = (M.length - (j + 1)) + 1 by omega, Nat.succ_mul]
    have key : Ev (fun k => impl_stairs.l2 k (i : Int) (cc next) (L.cast M[j]) ((low i M[j] : Nat) : Int) (n : Int) (i : Int) (cc M) (M.length : Int) (j : Int)) r := by
      refine inner_ev i n hi hn M j M[j] ho.1 (by omega) r _ (by omega) next (by omega) (ih _ ?_ ?_)
      · rw [List.length_append]
        have : (((List.range (i + 1)).drop (low i M[j])).map fun k => M[j] ++ [k]).length ≤ i + 1 := he
        omega
      · rw [List.append_assoc]
        rw [List.drop_eq_getElem_cons hj, List.flatMap_cons] at hr
        exact hr
    refine L.Ev.succ ?_
    simp only [impl_stairs.l1]
    refine L.Ev.ifp (by omega) (L.Ev.ifp (by omega) (L.Ev.ifp (by rw [cc_length]; omega) ?_))
    rw [cc_get M j hj]
    unfold low at key
    by_cases h0 : i = 0
    · refine L.Ev.ifn (by omega) ?_
      rw [if_pos h0] at key
      exact key
    · rw [if_neg h0] at key
      have e1 : wrap64 ((i : Int) - 1) = ((i - 1 : Nat) : Int) := by rw [L.w64 (by omega) (by omega)]; omega
      have hlen := ho.1
      rw [e1, L.rd_cast, L.cast_length]
      refine L.Ev.ifp (by omega) (L.Ev.ifp (by omega) (L.Ev.ifp (by omega) key))
theorem outer_ev (n : Nat) (hn : n ≤ 10) : ∀ i, i ≤ n → Ev (fun k => impl_stairs.l0 k (cc (S i)) (n : Int) (i : Int)) (cc (S n)) := by
  refine L.down ?_ fun i hi ih => ?_
  · refine L.Ev.succ ?_
    simp only [impl_stairs.l0]
    exact L.Ev.ifn (by omega) (Ev.now _)
  · refine L.Ev.succ ?_
    simp only [impl_stairs.l0]
    refine L.Ev.ifp (by omega) ?_
    have hs := S_len i (by omega)
    have h2 : 11 ^ i ≤ 11 ^ 9 := Nat.pow_le_pow_right (by decide) (by omega)
    have h3 : (11 : Nat) ^ 9 = 2357947691 := by decide
    have := mid_ev i n (by omega) hn (S i) (fun s => ok_S i s) (by omega) (cc (S n)) 0 (by omega) [] (by rw [List.length_nil]; omega) (by rw [List.drop_zero, List.nil_append]; exact ih)
    rw [cc_length]
    exact this
theorem stairs_ev (n : Nat) (hn : n ≤ 10) : Ev (fun k => impl_stairs.f k (n : Int)) (cc (S n)) := by
  unfold impl_stairs.f
  exact outer_ev n hn 0 (by omega)
end Stairs
end Go.Proofs.Ytcjphppldjghiaa.P

/-! ### PuWithin -/
/- Plain laws: numbers between two numbers, in the program and in the reference. -/
namespace Go.Proofs.Ytcjphppldjghiaa.P
open Go.RowKit Go.Proofs.YtcjphppldjghiaaW.PrintWords Go.Proofs.YtcjphppldjghiaaW.PrintLast Go.Proofs.YtcjphppldjghiaaW.PrintMore L
set_option linter.unusedVariables false
set_option linter.unusedSimpArgs false
theorem within_eq (a b c : Int) : impl_within.f a b c = some (decide (b ≤ a ∧ a ≤ c)) := by
  unfold impl_within.f
  by_cases h : a ≥ b
  · rw [if_pos h]; congr 1; simp; omega
  · rw [if_neg h]; congr 1; simp; omega
theorem l1In_eq (a b c : Int) : spec_l1In.f a b c = some (decide (b ≤ a ∧ a ≤ c)) := within_eq a b c
end Go.Proofs.Ytcjphppldjghiaa.P

/-! ### BoCountStairs -/
/- What CountStairs comes to, in the program and in the reference. -/
namespace Go.Proofs.Ytcjphppldjghiaa.P
open Go.RowKit Go.Proofs.YtcjphppldjghiaaW.PrintWords Go.Proofs.YtcjphppldjghiaaW.PrintLast Go.Proofs.YtcjphppldjghiaaW.PrintMore L
set_option linter.unusedVariables false
set_option linter.unusedSimpArgs false
/-- how many stairs of so many numbers there are. -/
def cat (n : Nat) : Nat := [1, 1, 2, 5, 14, 42, 132, 429, 1430, 4862, 16796].getD n 0
/-- the sum over the first ones of the splits. -/
def catSum (n : Nat) : Nat → Nat
  | 0 => 0
  | k + 1 => catSum n k + cat k * cat (n - 1 - k)
theorem cat_small (n : Nat) : cat n ≤ 16796 := by
  by_cases h : n < 11
  · have : ∀ n : Fin 11, cat n.1 ≤ 16796 := by decide
    exact this ⟨n, h⟩
  · unfold cat
    rw [List.getD_eq_getElem?_getD, List.getElem?_eq_none (by simp; omega)]; simp
theorem catSum_small (n : Nat) : ∀ k, k ≤ 10 → catSum n k ≤ k * 282105616
  | 0, _ => by simp [catSum]
  | k + 1, h => by
    have h1 := catSum_small n k (by omega)
    have h2 : cat k * cat (n - 1 - k) ≤ 16796 * 16796 := Nat.mul_le_mul (cat_small _) (cat_small _)
    show catSum n k + _ ≤ _
    omega
theorem catSum_all (n : Nat) (h0 : n ≠ 0) (hn : n ≤ 10) : catSum n n = cat n := by
  have : ∀ n : Fin 11, n.1 ≠ 0 → catSum n.1 n.1 = cat n.1 := by decide
  exact this ⟨n, by omega⟩ h0
theorem seCatalan_ev : ∀ n : Nat, n ≤ 10 → Ev (fun k => spec_seCatalan.f k (n : Int)) ((cat n : Nat) : Int) := by
  intro n
  induction n using Nat.strongRecOn with
  | _ n ih =>
  intro hn
  refine L.Ev.succ ?_
  simp only [spec_seCatalan.f]
  by_cases h0 : n = 0
  · subst h0
    exact L.Ev.ifp rfl (Ev.now _)
  · refine L.Ev.ifn (by omega) ?_
    rw [← catSum_all n h0 hn]
    have key : ∀ j, j ≤ n → Ev (fun k => spec_seCatalan.l0 k (n : Int) ((catSum n j : Nat) : Int) (j : Int)) ((catSum n n : Nat) : Int) := by
      refine L.down ?_ fun j hj ih2 => ?_
      · refine L.Ev.succ ?_
        simp only [spec_seCatalan.l0]
        exact L.Ev.ifn (by omega) (Ev.now _)
      · refine L.Ev.succ ?_
        simp only [spec_seCatalan.l0]
        have e1 : wrap64 (wrap64 ((n : Int) - 1) - (j : Int)) = ((n - 1 - j : Nat) : Int) := by
          rw [L.w64 (x := (n : Int) - 1) (by omega) (by omega), L.w64 (by omega) (by omega)]; omega
        rw [e1]
        refine L.Ev.ifp (by omega) (Ev.bind (ih j (by omega) (by omega)) (Ev.bind (ih (n - 1 - j) (by omega) (by omega)) ?_))
        have h1 := catSum_small n j (by omega)
        have h2 : cat j * cat (n - 1 - j) ≤ 16796 * 16796 := Nat.mul_le_mul (cat_small _) (cat_small _)
        refine Ev.congr (fun k => ?_) ih2
        have e2 : ((cat j : Nat) : Int) * ((cat (n - 1 - j) : Nat) : Int) = ((cat j * cat (n - 1 - j) : Nat) : Int) := by push_cast; rfl
        rw [e2]
        show _ = spec_seCatalan.l0 k (n : Int) ((catSum n j + cat j * cat (n - 1 - j) : Nat) : Int) _
        generalize cat j * cat (n - 1 - j) = z at *
        rw [L.w64 (x := (z : Int)) (by omega) (by omega), L.w64 (by omega) (by omega), L.w64n (by omega)]
        push_cast; rfl
    exact key 0 (by omega)
set_option maxRecDepth 100000 in
theorem S_cat : ∀ n : Fin 11, (Stairs.S n.1).length = cat n.1 := by decide +kernel
theorem CountStairs_both (a0 : Int) (w0 : R.wf a0) : ∃ (r0 : Int) (r1 : Bool), Ev (fun k => spec_CountStairs.f k a0) (r0, r1) ∧ Ev (fun k => impl_CountStairs.f k a0) (r0, r1) := by
  unfold spec_CountStairs.f impl_CountStairs.f
  by_cases h : 0 ≤ a0 ∧ a0 ≤ 10
  · obtain ⟨n, rfl⟩ := Int.eq_ofNat_of_zero_le h.1
    refine ⟨((cat n : Nat) : Int), true, ?_, ?_⟩
    · exact L.Ev.bindc (l1In_eq _ _ _) (L.Ev.ifp (by simpa using h) (Ev.bind (seCatalan_ev n (by omega)) (Ev.now _)))
    · refine L.Ev.bindc (within_eq _ _ _) (L.Ev.ifp (by simpa using h) (Ev.bind (Stairs.stairs_ev n (by omega)) ?_))
      rw [Stairs.cc_length, S_cat ⟨n, by omega⟩]
      exact Ev.now _
  · exact ⟨0, false, L.Ev.bindc (l1In_eq _ _ _) (L.Ev.ifn (by simpa using h) (Ev.now _)), L.Ev.bindc (within_eq _ _ _) (L.Ev.ifn (by simpa using h) (Ev.now _))⟩
end Go.Proofs.Ytcjphppldjghiaa.P

/-! ### PuFnExactCountStairs -/
/- The plain law behind FnExactCountStairs, out of what the program's and the reference's function come to. -/
namespace Go.Proofs.Ytcjphppldjghiaa.P
open Go.RowKit Go.Proofs.YtcjphppldjghiaaW.PrintWords Go.Proofs.YtcjphppldjghiaaW.PrintLast Go.Proofs.YtcjphppldjghiaaW.PrintMore L
set_option linter.unusedVariables false
set_option linter.unusedSimpArgs false
set_option maxHeartbeats 1000000 in
theorem FnExactCountStairs_pure (a0 : Int) (w0 : R.wf a0) : ∃ k, laws_FnExactCountStairs.f k a0 = some true := by
  refine Ev.rounds (r := true) ?_
  unfold laws_FnExactCountStairs.f
  obtain ⟨r0, r1, hs, hi⟩ := CountStairs_both a0 w0
  repeat' (first
    | exact Ev.now true
    | exact Ev.now _
    | with_reducible exact rfl
    | (with_reducible refine Ev.bind hs ?_)
    | (with_reducible refine Ev.bind hi ?_)
    | (refine L.Ev.ifp ?hc ?_; (case hc => first | rfl | omega | (simp; done)))
    | (refine L.Ev.ifn ?hc ?_; (case hc => first | omega | (simp; done)))
    | (refine L.Ev.succ ?_; simp only [laws_FnExactCountStairs.j0])
    | (refine L.Ev.succ ?_; simp only [laws_FnExactCountStairs.j1])
    | (refine L.Ev.succ ?_; simp only [laws_FnExactCountStairs.j2])
    | (refine L.Ev.succ ?_; simp only [laws_FnExactCountStairs.j3])
    | (refine L.Ev.succ ?_; simp only [laws_FnExactCountStairs.j4]))
end Go.Proofs.Ytcjphppldjghiaa.P
