-- Written by wip/myprint.py of this session (a driver of the kit's print); Lean checks it.
import Derived.Test.YtoilbeffheijeaaDoorPx0
import Derived.Test.YtoilbeffheijeaaDoorPx7
import Derived.Test.YtoilbeffheijeaaDoorPx17
namespace Go.Proofs.YtoilbeffheijeaaDoor.P
open Go.RowKit Go.Proofs.YtoilbeffheijeaaDoorW.PrintWords Go.Proofs.YtoilbeffheijeaaDoorW.PrintLast Go.Proofs.YtoilbeffheijeaaDoorW.PrintMore
attribute [local go_sem] max2_int min2_int max_two min_two max_three min_three max_four min_four   -- for this text's walks alone
set_option linter.unusedVariables false
set_option linter.unusedSimpArgs false

/-! ### impl_Order_mirror: function 77 -/
theorem impl_Order_better.tells {n : Int} {l : List Int} (h : L.okRel n l) (i j : Nat) (hi : (i : Int) < n) (hj : j ≤ 64) : impl_Order_better.f n l (i : Int) (j : Int) = some (L.bitAt l i j) := by
  unfold impl_Order_better.f
  rw [if_pos (by omega), if_pos (by have := h.len; omega), if_pos (by omega), h.bit i j hj]
set_option maxHeartbeats 1000000 in
theorem impl_Order_mirror.lit (g : Nat) (a0_0 : Int) (A0_1 : Option Addr) (c0_1 : Nat) (l0_1 : List Int) (i j : Int) (b : Bool) (W : World) (hg : W.heap[g]? = some (.cells #[.int .i64 a0_0, .slice A0_1 l0_1.length c0_1] 29 (0, 0)))
    (hr : Kd.C (Kd.int .i64) W A0_1 l0_1.length l0_1) (hc : l0_1.length ≤ c0_1) (h : impl_Order_better.f a0_0 l0_1 j i = some b) :
    Calls Tryd.prog 85 #[.int .i64 i, .int .i64 j, .pointer (some ⟨g, 0, none⟩)] W fun e W' => e = .returned (.bool b) ∧ Below W.heap.size W W' := by
  have hu := Tryd.underlying29
  have hc0 : W.cell? ⟨g, 0, none⟩ = some (.int .i64 a0_0) := (blk_cell hg 0).trans rfl
  have hc1 : W.cell? ⟨g, 1, none⟩ = some (.slice A0_1 l0_1.length c0_1) := (blk_cell hg 1).trans rfl
  have C := Aside0.mk (impl_Order_better.calls a0_0 A0_1 c0_1 l0_1 j i b W hr hc h)
  clear hr hc h hg
  go_enter Tryd.func85, Tryd.ntmps85
  go_wp2_with (go_at_call 62; refine C.out.mono ?_; rintro e w2 ⟨rfl, hb⟩)
  go_ret
  exact ⟨rfl, hb⟩
def impl_Order_mirror.f (a0_0 : Int) (l0_1 : List Int) : Option (Int × List Int) := if L.okRel a0_0 l0_1 then some (a0_0, L.relL a0_0.toNat fun i j => L.bitAt l0_1 j i) else none
set_option maxHeartbeats 1000000 in
theorem impl_Order_mirror.calls (a0_0 : Int) (A0_1 : Option Addr) (c0_1 : Nat) (l0_1 : List Int) (r1 : Int) (r2 : List Int) (w : World) (hr0_1 : Kd.C (Kd.int .i64) w A0_1 l0_1.length l0_1) (hc0_1 : l0_1.length ≤ c0_1) (h : impl_Order_mirror.f a0_0 l0_1 = some (r1, r2)) :
    Calls Tryd.prog 77 #[.agg #[.int .i64 a0_0, .slice A0_1 l0_1.length c0_1]] w fun e w' => ∃ v1_ : Value, e = .returned (.agg #[.int .i64 r1, v1_]) ∧ Kd.R (Kd.int .i64) 3 w' w.heap.size (fun _ => True) v1_ r2 ∧ Below w.heap.size w w' := by
  unfold impl_Order_mirror.f at h
  by_cases ok : L.okRel a0_0 l0_1
  case neg => rw [if_neg ok] at h; cases h
  rw [if_pos ok] at h
  simp only [Option.some.injEq, Prod.mk.injEq] at h
  obtain ⟨rfl, rfl⟩ := h
  obtain ⟨n, rfl⟩ := Int.eq_ofNat_of_zero_le ok.1
  have hn : n ≤ 60 := by have := ok.2.1; omega
  rw [Int.toNat_natCast]
  have hu := Tryd.underlying29
  have hmf : ∀ (fn : Fn) (first cap : Array Value) (W : World), (Instr.makeFunc fn first cap).run Tryd.prog W = .ok (.func fn first cap) W := fun _ _ _ _ => rfl
  have C := fun (W : World) (g : Nat) (hW : Below w.heap.size w W) (hg : W.heap[g]? = some (.cells #[.int .i64 (n : Int), .slice A0_1 l0_1.length c0_1] 29 (0, 0))) =>
    impl_relation.does 85 #[.pointer (some ⟨g, 0, none⟩)] n (by omega) (fun i j => L.bitAt l0_1 j i) W (enters_ Tryd.func85 (by kernel_rfl) rfl)
      (fun i j W2 hi hj hb => impl_Order_mirror.lit g (n : Int) A0_1 c0_1 l0_1 (i : Int) (j : Int) _ W2 (blk_below hg hb) (Kd.C_below hr0_1 (below_step hW hb)) hc0_1 (impl_Order_better.tells ok j i (by omega) (by omega)))
  have CH := Aside0.mk C
  clear C hr0_1 hc0_1
  have OK := Aside0.mk ok
  clear ok
  go_enter Tryd.func77, Tryd.ntmps77
  go_wp2_with (go_at_call 64; refine (CH.out _ w.heap.size (below_alloc (below_alloc (Below.refl _ _) _) _) (blk_alloc (blk_new _ _) _)).mono ?_; rintro e w2 ⟨v, rfl, ho, hb⟩; have HB := Aside0.mk (below_step (below_alloc (below_alloc (Below.refl _ w) _) _) hb); have BK := Aside0.mk (blk_below (g := w.heap.size + 1) (by have h_ := blk_new (w.alloc (.cells #[.int .i64 (n : Int), .slice A0_1 l0_1.length c0_1] 29 (0, 0))) (.cells #[.int .i64 0, .slice none 0 0] 29 (0, 0)); simpa using h_) hb); have HO := Aside0.mk (Kd.R_lower ho (show w.heap.size ≤ _ by simp; omega)); obtain ⟨Av, cv, rfl⟩ := Kd.R_slice ho; clear ho hb; have hcz0 : w2.cell? ⟨w.heap.size + 1, 0, none⟩ = some (.int .i64 0) := (blk_cell BK.out 0).trans rfl; have hcz1 : w2.cell? ⟨w.heap.size + 1, 1, none⟩ = some (.slice none 0 0) := (blk_cell BK.out 1).trans rfl; have hfz0 := blk_frozen BK.out 0; have hfz1 := blk_frozen BK.out 1)
  refine bodyPost_ret (results_cell_row rfl _ _ (w.heap.size + 1) 29 #[.int .i64 (n : Int), .slice Av _ cv] (0, 0) _ rfl (blk_put (cs := #[.int .i64 (n : Int), .slice none 0 0]) (blk_put (cs := #[.int .i64 0, .slice none 0 0]) BK.out 0 _ rfl) 1 _ rfl) Tryd.underlying29 rfl (by kernel_rfl)) rfl ?_
  exact ⟨_, rfl, Kd.R_mono (Kd.R_far (p := ⟨w.heap.size + 1, 1, none⟩) (Kd.R_far (p := ⟨w.heap.size + 1, 0, none⟩) (Kd.R_types HO.out BK.out (by decide)) (fun _ hk => hk.2) (.int .i64 (n : Int))) (fun _ hk => hk.2) _) (fun _ _ => trivial), below_set (below_set HB.out (by omega)) (by omega)⟩

end Go.Proofs.YtoilbeffheijeaaDoor.P
