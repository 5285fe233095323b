-- Written by wip/myprint.py of this session (a driver of the kit's print); Lean checks it.
import Derived.Test.YtoilbeffheijeaaPx0
import Derived.Test.YtoilbeffheijeaaPx10
namespace Go.Proofs.Ytoilbeffheijeaa.P
open Go.RowKit Go.Proofs.YtoilbeffheijeaaW.PrintWords Go.Proofs.YtoilbeffheijeaaW.PrintLast Go.Proofs.YtoilbeffheijeaaW.PrintMore
attribute [local go_sem] max2_int min2_int max_two min_two max_three min_three max_four min_four   -- for this text's walks alone
set_option linter.unusedVariables false
set_option linter.unusedSimpArgs false

/-! ### impl_orderOf: function 15 -/
set_option maxHeartbeats 1000000 in
theorem impl_orderOf.lit (g : Nat) (A0 : Option Addr) (c0 : Nat) (l0 : List S37) (i j : Nat) (W : World) (hg : W.heap[g]? = some (.cells #[.slice A0 l0.length c0] 26 (0, 0)))
    (hr : Kd.C k37 W A0 l0.length l0) (hi : i < l0.length) (hj : j < l0.length) :
    Calls Try.prog 24 #[.int .i64 (i : Int), .int .i64 (j : Int), .pointer (some ⟨g, 0, none⟩)] W fun e W' => e = .returned (.bool (decide ((rd_T37 l0 (i : Int)).f1 < (rd_T37 l0 (j : Int)).f0))) ∧ Below W.heap.size W W' := by
  have hu := Try.underlying37
  have hc0 : W.cell? ⟨g, 0, none⟩ = some (.slice A0 l0.length c0) := (blk_cell hg 0).trans rfl
  obtain ⟨ad, rfl, hx0, hx1⟩ := at_T37 hr (i : Int) (by omega) (by omega)
  obtain ⟨ad2, e2, hy0, hy1⟩ := at_T37 hr (j : Int) (by omega) (by omega)
  cases e2
  rw [Int.toNat_natCast] at hx0 hx1 hy0 hy1
  have p1 : (0 ≤ (j : Int)) = True := eq_true (by omega)
  have q1 : ((j : Int) < (l0.length : Int)) = True := eq_true (by omega)
  have p2 : (0 ≤ (i : Int)) = True := eq_true (by omega)
  have q2 : ((i : Int) < (l0.length : Int)) = True := eq_true (by omega)
  clear hg hr hj hi
  go_enter Try.func24, Try.ntmps24
  go_wp2
  go_quiet (fail)
  go_wp2
  go_ret
  exact ⟨by rfl, pw_below_drewN (Below.refl _ _) _⟩
def impl_orderOf.f (l0 : List S37) : Option (Int × List Int) := if l0.length ≤ 60 then some ((l0.length : Int), L.relL l0.length fun i j => decide ((rd_T37 l0 (i : Int)).f1 < (rd_T37 l0 (j : Int)).f0)) else none
set_option maxHeartbeats 1000000 in
theorem impl_orderOf.calls (A0 : Option Addr) (c0 : Nat) (l0 : List S37) (r1 : Int) (r2 : List Int) (w : World) (hr0 : Kd.C k37 w A0 l0.length l0) (hc0 : l0.length ≤ c0) (h : impl_orderOf.f l0 = some (r1, r2)) :
    Calls Try.prog 15 #[.slice A0 l0.length c0] w fun e w' => ∃ v1_ : Value, e = .returned (.agg #[.int .i64 r1, v1_]) ∧ Kd.R (Kd.int .i64) 3 w' w.heap.size (fun _ => True) v1_ r2 ∧ Below w.heap.size w w' := by
  unfold impl_orderOf.f at h
  by_cases ok : l0.length ≤ 60
  case neg => rw [if_neg ok] at h; cases h
  rw [if_pos ok] at h
  simp only [Option.some.injEq, Prod.mk.injEq] at h
  obtain ⟨rfl, rfl⟩ := h
  have hu := Try.underlying34
  have hmf : ∀ (fn : Fn) (first cap : Array Value) (W : World), (Instr.makeFunc fn first cap).run Try.prog W = .ok (.func fn first cap) W := fun _ _ _ _ => rfl
  have C := fun (W : World) (g : Nat) (hW : Below w.heap.size w W) (hg : W.heap[g]? = some (.cells #[.slice A0 l0.length c0] 26 (0, 0))) =>
    impl_relation.does 24 #[.pointer (some ⟨g, 0, none⟩)] l0.length (by omega) (fun i j => decide ((rd_T37 l0 (i : Int)).f1 < (rd_T37 l0 (j : Int)).f0)) W (enters_ Try.func24 (by kernel_rfl) rfl)
      (fun i j W2 hi hj hb => impl_orderOf.lit g A0 c0 l0 i j W2 (blk_below hg hb) (Kd.C_below hr0 (below_step hW hb)) hi hj)
  have CH := Aside0.mk (fun (W : World) (hW : Below w.heap.size w W) (hg : W.heap[w.heap.size]? = some (.cells #[.slice A0 l0.length c0] 26 (0, 0))) => C W w.heap.size hW hg)
  clear C hr0 hc0 ok
  go_enter Try.func15, Try.ntmps15
  go_wp2_with (go_at_call 23; refine (CH.out _ (below_alloc (below_alloc (Below.refl _ _) _) _) (blk_alloc (blk_new _ _) _)).mono ?_; rintro e w2 ⟨v, rfl, ho, hb⟩; have HB := Aside0.mk (below_step (below_alloc (below_alloc (Below.refl _ w) _) _) hb); have BK := Aside0.mk (blk_below (g := w.heap.size + 1) (by have h_ := blk_new (w.alloc (.cells #[.slice A0 l0.length c0] 26 (0, 0))) (.cells #[.int .i64 0, .slice none 0 0] 34 (0, 0)); simpa using h_) hb); have HO := Aside0.mk (Kd.R_lower ho (show w.heap.size ≤ _ by simp; omega)); obtain ⟨Av, cv, rfl⟩ := Kd.R_slice ho; clear ho hb; have hcz0 : w2.cell? ⟨w.heap.size + 1, 0, none⟩ = some (.int .i64 0) := (blk_cell BK.out 0).trans rfl; have hcz1 : w2.cell? ⟨w.heap.size + 1, 1, none⟩ = some (.slice none 0 0) := (blk_cell BK.out 1).trans rfl; have hfz0 := blk_frozen BK.out 0; have hfz1 := blk_frozen BK.out 1)
  refine bodyPost_ret (results_cell_row rfl _ _ (w.heap.size + 1) 34 #[.int .i64 (l0.length : Int), .slice Av _ cv] (0, 0) _ rfl (blk_put (cs := #[.int .i64 (l0.length : Int), .slice none 0 0]) (blk_put (cs := #[.int .i64 0, .slice none 0 0]) BK.out 0 _ rfl) 1 _ rfl) Try.underlying34 rfl (by kernel_rfl)) rfl ?_
  exact ⟨_, rfl, Kd.R_mono (Kd.R_far (p := ⟨w.heap.size + 1, 1, none⟩) (Kd.R_far (p := ⟨w.heap.size + 1, 0, none⟩) (Kd.R_types HO.out BK.out (by decide)) (fun _ hk => hk.2) (.int .i64 (l0.length : Int))) (fun _ hk => hk.2) _) (fun _ _ => trivial), below_set (below_set HB.out (by omega)) (by omega)⟩

/-! ### impl_Order_better: function 26 -/
def impl_Order_better.f (a0_0 : Int) (l0_1 : List Int) (a1 : Int) (a2 : Int) : Option (Bool) := if 0 ≤ a1 then (if a1 < (l0_1.length : Int) then (if 0 ≤ a2 then (some ((Go.bits .and .i64 (shr .i64 (rd l0_1 a1) a2) 1) == 1)) else (none)) else (none)) else (none)
set_option maxHeartbeats 8000000 in
set_option maxRecDepth 100000 in
theorem impl_Order_better.calls (a0_0 : Int) (A0_1 : Option Addr) (c0_1 : Nat) (l0_1 : List Int) (a1 : Int) (a2 : Int) (r : Bool) (w : World) (hr0_1 : Kd.C (Kd.int .i64) w A0_1 l0_1.length l0_1) (hc0_1 : l0_1.length ≤ c0_1) (h : impl_Order_better.f a0_0 l0_1 a1 a2 = some r) :
    Calls Try.prog 26 #[.agg #[.int .i64 a0_0, .slice A0_1 l0_1.length c0_1], .int .i64 a1, .int .i64 a2] w fun e w' => e = .returned (.bool r) ∧ Below w.heap.size w w' := by
  have hu34 := Try.underlying34
  have HR0_1 := Aside0.mk hr0_1
  have HC0_1 := Aside0.mk hc0_1
  clear hr0_1 hc0_1
  have HB := Aside0.mk (Below.refl w.heap.size w)
  have H : (if 0 ≤ a1 then (if a1 < (l0_1.length : Int) then (if 0 ≤ a2 then (some ((Go.bits .and .i64 (shr .i64 (rd l0_1 a1) a2) 1) == 1)) else (none)) else (none)) else (none)) = some r := h
  clear h
  by_cases c4 : 0 ≤ a1
  · rw [if_pos c4] at H
    have c4b0 : decide (0 ≤ a1) = true := decide_eq_true c4
    clear c4
    by_cases c5 : a1 < (l0_1.length : Int)
    · rw [if_pos c5] at H
      have c5b0 : decide (a1 < (l0_1.length : Int)) = true := decide_eq_true c5
      clear c5
      by_cases c6 : 0 ≤ a2
      · rw [if_pos c6] at H
        have c6b0 := eq_true c6
        have c6b1 : decide (0 ≤ a2) = true := decide_eq_true c6
        clear c6
        obtain ⟨ji7, hji7⟩ : ∃ j_ : Int, (shr .i64 (rd l0_1 a1) a2) = j_ := ⟨_, rfl⟩
        replace H : (some ((Go.bits .and .i64 (ji7) 1) == 1)) = some r := by first | (rw [hji7] at H; exact H) | (simp only [hji7] at H ⊢; exact H)
        have hji7_ : ((rd l0_1 a1) / 2 ^ min a2.toNat 64) = ji7 := hji7
        have hji7z : a2 ≤ 64 → ((rd l0_1 a1) / 2 ^ a2.toNat) = ji7 := shr_small hji7
        obtain rfl := Option.some.inj H
        go_enter Try.func26, Try.ntmps26
        go_wp2_with (first | ((with_reducible refine gate_dst (N := 3) rfl ?_); refine box_event ?hg (N := 3) ?hd (cs := #[.int .i64 a0_0, .slice A0_1 l0_1.length c0_1]) (t := 34) ?hr ?_; (case hd => rfl); (case hg => rfl); (case hr => first | (go_simp; done) | (go_simp; rfl)); intro gb217 hg w8 hbox hb; have n0_ := Aside0.mk (below_step (by repeat (first | (with_reducible first | exact HB.out | apply below_alloc | apply pw_below_drewN | apply below_drew1) | exact HB.out)) hb); have n1_ := Aside0.mk (hbox); have n2_ := Aside0.mk ((by rw [hg]; exact (below_size (by repeat (first | (with_reducible first | exact HB.out | apply below_alloc | apply pw_below_drewN | apply below_drew1) | exact HB.out))) : w.heap.size ≤ gb217)); have n3_ := Aside0.mk ((by rw [hg]; exact (below_size (by repeat (first | (with_reducible first | exact HB.out | apply below_alloc | apply pw_below_drewN | apply below_drew1) | exact HB.out))) : w.heap.size ≤ gb217)); clear HB; have HB := n0_; have BK217 := n1_; have GW217 := n2_; have GE217 := n3_; clear n0_ n1_ n2_ n3_; clear hb hbox hg; have hcz9_0 : w8.cell? ⟨gb217, 0, none⟩ = some (.int .i64 a0_0) := (blk_cell BK217.out 0).trans rfl; have hcz9_1 : w8.cell? ⟨gb217, 1, none⟩ = some (.slice A0_1 l0_1.length c0_1) := (blk_cell BK217.out 1).trans rfl; have hfz9_0 := blk_frozen BK217.out 0; have hfz9_1 := blk_frozen BK217.out 1; have p218 : 0 ≤ (a1 : Int) := of_decide_eq_true (by first | (with_reducible assumption) | assumption); have q218 : a1 < (l0_1.length : Int) := of_decide_eq_true (by first | (with_reducible assumption) | assumption); obtain ⟨ad218, e218, hx218_0⟩ := Kd.at_int HR0_1.out a1 p218 q218; cases e218; replace hx218_0 := (HB.out.cell (World.block_lt_of_cell? w _ hx218_0)).trans hx218_0; replace p218 := eq_true p218; replace q218 := eq_true q218))
        go_ret
        exact ⟨by first | rfl | (simp [errW_none, errW_some] <;> rfl) | (simp only [← hji7]; first | rfl | (simp [errW_none, errW_some] <;> rfl)) | (simp [*, errW_none, errW_some] <;> rfl), by repeat (first | (with_reducible first | exact HB.out | apply below_alloc | apply pw_below_drewN | apply below_drew1 | refine below_set ?_ GE217.out) | exact HB.out)⟩
      · rw [if_neg c6] at H
        exact absurd H (by simp)
    · rw [if_neg c5] at H
      exact absurd H (by simp)
  · rw [if_neg c4] at H
    exact absurd H (by simp)

/-! ### impl_Order_mirror: function 29 -/
theorem impl_Order_better.tells {n : Int} {l : List Int} (h : L.okRel n l) (i j : Nat) (hi : (i : Int) < n) (hj : j ≤ 64) : impl_Order_better.f n l (i : Int) (j : Int) = some (L.bitAt l i j) := by
  unfold impl_Order_better.f
  rw [if_pos (by omega), if_pos (by have := h.len; omega), if_pos (by omega), h.bit i j hj]
set_option maxHeartbeats 1000000 in
theorem impl_Order_mirror.lit (g : Nat) (a0_0 : Int) (A0_1 : Option Addr) (c0_1 : Nat) (l0_1 : List Int) (i j : Int) (b : Bool) (W : World) (hg : W.heap[g]? = some (.cells #[.int .i64 a0_0, .slice A0_1 l0_1.length c0_1] 34 (0, 0)))
    (hr : Kd.C (Kd.int .i64) W A0_1 l0_1.length l0_1) (hc : l0_1.length ≤ c0_1) (h : impl_Order_better.f a0_0 l0_1 j i = some b) :
    Calls Try.prog 31 #[.int .i64 i, .int .i64 j, .pointer (some ⟨g, 0, none⟩)] W fun e W' => e = .returned (.bool b) ∧ Below W.heap.size W W' := by
  have hu := Try.underlying34
  have hc0 : W.cell? ⟨g, 0, none⟩ = some (.int .i64 a0_0) := (blk_cell hg 0).trans rfl
  have hc1 : W.cell? ⟨g, 1, none⟩ = some (.slice A0_1 l0_1.length c0_1) := (blk_cell hg 1).trans rfl
  have C := Aside0.mk (impl_Order_better.calls a0_0 A0_1 c0_1 l0_1 j i b W hr hc h)
  clear hr hc h hg
  go_enter Try.func31, Try.ntmps31
  go_wp2_with (go_at_call 26; refine C.out.mono ?_; rintro e w2 ⟨rfl, hb⟩)
  go_ret
  exact ⟨rfl, hb⟩
def impl_Order_mirror.f (a0_0 : Int) (l0_1 : List Int) : Option (Int × List Int) := if L.okRel a0_0 l0_1 then some (a0_0, L.relL a0_0.toNat fun i j => L.bitAt l0_1 j i) else none
set_option maxHeartbeats 1000000 in
theorem impl_Order_mirror.calls (a0_0 : Int) (A0_1 : Option Addr) (c0_1 : Nat) (l0_1 : List Int) (r1 : Int) (r2 : List Int) (w : World) (hr0_1 : Kd.C (Kd.int .i64) w A0_1 l0_1.length l0_1) (hc0_1 : l0_1.length ≤ c0_1) (h : impl_Order_mirror.f a0_0 l0_1 = some (r1, r2)) :
    Calls Try.prog 29 #[.agg #[.int .i64 a0_0, .slice A0_1 l0_1.length c0_1]] w fun e w' => ∃ v1_ : Value, e = .returned (.agg #[.int .i64 r1, v1_]) ∧ Kd.R (Kd.int .i64) 3 w' w.heap.size (fun _ => True) v1_ r2 ∧ Below w.heap.size w w' := by
  unfold impl_Order_mirror.f at h
  by_cases ok : L.okRel a0_0 l0_1
  case neg => rw [if_neg ok] at h; cases h
  rw [if_pos ok] at h
  simp only [Option.some.injEq, Prod.mk.injEq] at h
  obtain ⟨rfl, rfl⟩ := h
  obtain ⟨n, rfl⟩ := Int.eq_ofNat_of_zero_le ok.1
  have hn : n ≤ 60 := by have := ok.2.1; omega
  rw [Int.toNat_natCast]
  have hu := Try.underlying34
  have hmf : ∀ (fn : Fn) (first cap : Array Value) (W : World), (Instr.makeFunc fn first cap).run Try.prog W = .ok (.func fn first cap) W := fun _ _ _ _ => rfl
  have C := fun (W : World) (g : Nat) (hW : Below w.heap.size w W) (hg : W.heap[g]? = some (.cells #[.int .i64 (n : Int), .slice A0_1 l0_1.length c0_1] 34 (0, 0))) =>
    impl_relation.does 31 #[.pointer (some ⟨g, 0, none⟩)] n (by omega) (fun i j => L.bitAt l0_1 j i) W (enters_ Try.func31 (by kernel_rfl) rfl)
      (fun i j W2 hi hj hb => impl_Order_mirror.lit g (n : Int) A0_1 c0_1 l0_1 (i : Int) (j : Int) _ W2 (blk_below hg hb) (Kd.C_below hr0_1 (below_step hW hb)) hc0_1 (impl_Order_better.tells ok j i (by omega) (by omega)))
  have CH := Aside0.mk C
  clear C hr0_1 hc0_1
  have OK := Aside0.mk ok
  clear ok
  go_enter Try.func29, Try.ntmps29
  go_wp2_with (go_at_call 23; refine (CH.out _ w.heap.size (below_alloc (below_alloc (Below.refl _ _) _) _) (blk_alloc (blk_new _ _) _)).mono ?_; rintro e w2 ⟨v, rfl, ho, hb⟩; have HB := Aside0.mk (below_step (below_alloc (below_alloc (Below.refl _ w) _) _) hb); have BK := Aside0.mk (blk_below (g := w.heap.size + 1) (by have h_ := blk_new (w.alloc (.cells #[.int .i64 (n : Int), .slice A0_1 l0_1.length c0_1] 34 (0, 0))) (.cells #[.int .i64 0, .slice none 0 0] 34 (0, 0)); simpa using h_) hb); have HO := Aside0.mk (Kd.R_lower ho (show w.heap.size ≤ _ by simp; omega)); obtain ⟨Av, cv, rfl⟩ := Kd.R_slice ho; clear ho hb; have hcz0 : w2.cell? ⟨w.heap.size + 1, 0, none⟩ = some (.int .i64 0) := (blk_cell BK.out 0).trans rfl; have hcz1 : w2.cell? ⟨w.heap.size + 1, 1, none⟩ = some (.slice none 0 0) := (blk_cell BK.out 1).trans rfl; have hfz0 := blk_frozen BK.out 0; have hfz1 := blk_frozen BK.out 1)
  refine bodyPost_ret (results_cell_row rfl _ _ (w.heap.size + 1) 34 #[.int .i64 (n : Int), .slice Av _ cv] (0, 0) _ rfl (blk_put (cs := #[.int .i64 (n : Int), .slice none 0 0]) (blk_put (cs := #[.int .i64 0, .slice none 0 0]) BK.out 0 _ rfl) 1 _ rfl) Try.underlying34 rfl (by kernel_rfl)) rfl ?_
  exact ⟨_, rfl, Kd.R_mono (Kd.R_far (p := ⟨w.heap.size + 1, 1, none⟩) (Kd.R_far (p := ⟨w.heap.size + 1, 0, none⟩) (Kd.R_types HO.out BK.out (by decide)) (fun _ hk => hk.2) (.int .i64 (n : Int))) (fun _ hk => hk.2) _) (fun _ _ => trivial), below_set (below_set HB.out (by omega)) (by omega)⟩

/-! ### impl_different: function 30 -/
def impl_different.f (l0 : List Int) : Option (List Int) := if l0.length ≤ 1048576 then some (Diff.diffL l0) else none
theorem impl_different.calls (A0 : Option Addr) (c0 : Nat) (l0 : List Int) (r : List Int) (w : World) (hr0 : Kd.C (Kd.int .i64) w A0 l0.length l0) (hc0 : l0.length ≤ c0) (h : impl_different.f l0 = some r) :
    Calls Try.prog 30 #[.slice A0 l0.length c0] w fun e w' => ∃ v0_ : Value, e = .returned (v0_) ∧ Kd.R (Kd.int .i64) 3 w' w.heap.size (fun _ => True) v0_ r ∧ Below w.heap.size w w' := by
  unfold impl_different.f at h
  by_cases hc : l0.length ≤ 1048576
  case neg => rw [if_neg hc] at h; cases h
  rw [if_pos hc] at h
  obtain rfl := Option.some.inj h
  exact different_calls A0 c0 l0 hc w hr0

end Go.Proofs.Ytoilbeffheijeaa.P
