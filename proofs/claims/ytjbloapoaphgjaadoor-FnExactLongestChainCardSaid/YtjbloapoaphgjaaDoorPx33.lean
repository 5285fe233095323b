-- Written by wip/myprint.py of this session (a driver of the kit's print); Lean checks it.
import Derived.Test.YtjbloapoaphgjaaDoorPx0
import Derived.Test.YtjbloapoaphgjaaDoorPx5
namespace Go.Proofs.YtjbloapoaphgjaaDoor.P
open Go.RowKit Go.Proofs.YtjbloapoaphgjaaDoorW.PrintWords Go.Proofs.YtjbloapoaphgjaaDoorW.PrintLast Go.Proofs.YtjbloapoaphgjaaDoorW.PrintMore
attribute [local go_sem] max2_int min2_int max_two min_two max_three min_three max_four min_four   -- for this text's walks alone
set_option linter.unusedVariables false
set_option linter.unusedSimpArgs false

/-! ### impl_LongestChain_1: function 47 -/
mutual
def impl_LongestChain_1.l0 : Nat → Int → List Int → List Int → Int → Int → Int → List Int → Int → Option (List Int)
  | 0, _, _, _, _, _, _, _, _ => none
  | k + 1, x0, x5, x15, x16, x17, x543000, x543001, x544000 => if x17 < x16 then (if 0 ≤ x17 then (if x17 < (x15.length : Int) then ((impl_LongestChain_1.f k (rd x15 x17) x543000 x543001 x544000).bind fun t552 => (if (t552.length : Int) > (x5.length : Int) then (impl_LongestChain_1.l0 k x0 t552 x15 x16 (wrap64 (x17 + 1)) x543000 x543001 x544000) else (impl_LongestChain_1.l0 k x0 x5 x15 x16 (wrap64 (x17 + 1)) x543000 x543001 x544000))) else (none)) else (none)) else ((some (([x0] : List Int) : List Int)).bind fun y555 => (if y555.length + x5.length < 17592186044416 then (some (y555 ++ x5)) else (none)))
def impl_LongestChain_1.f : Nat → Int → Int → List Int → Int → Option (List Int)
  | 0, _, _, _, _ => none
  | k + 1, a0, a1_0, l1_1, a2_0 => if 0 ≤ a0 then (if a0 < (l1_1.length : Int) then ((impl_members.f k (rd l1_1 a0)).bind fun t548 => (impl_LongestChain_1.l0 k a0 (([] : List Int)) t548 (t548.length : Int) 0 a1_0 l1_1 a2_0)) else (none)) else (none)
end
set_option maxHeartbeats 8000000 in
set_option maxRecDepth 100000 in
theorem impl_LongestChain_1.calls (k : Nat) : ∀ (a0 : Int) (a1_0 : Int) (A1_1 : Option Addr) (c1_1 : Nat) (l1_1 : List Int) (a2_0 : Int) (r : List Int) (w : World) (hr1_1 : Kd.C (Kd.int .i64) w A1_1 l1_1.length l1_1) (hc1_1 : l1_1.length ≤ c1_1) (hT : TzW w) (gb542 : Nat) (hg542_ : w.heap[gb542]? = some (.cells #[.int .i64 a1_0, .slice A1_1 l1_1.length c1_1] 26 (0, 0))) (gb543 : Nat) (hg543_ : w.heap[gb543]? = some (.cells #[.func (.func 47) #[] #[.pointer (some ⟨gb542, 0, none⟩), .pointer (some ⟨gb543, 0, none⟩)]] 46 (0, 0))) (h : impl_LongestChain_1.f k a0 a1_0 l1_1 a2_0 = some r),
    Calls Tryd.prog 47 #[.int .i64 a0, .pointer (some ⟨gb542, 0, none⟩), .pointer (some ⟨gb543, 0, none⟩)] w fun e w' => ∃ v0_ : Value, e = .returned (v0_) ∧ Kd.R (Kd.int .i64) 3 w' w.heap.size (fun _ => True) v0_ r ∧ Below w.heap.size w w' := by
  induction k using Nat.strongRecOn with
  | _ k ih =>
  intro a0 a1_0 A1_1 c1_1 l1_1 a2_0 r w hr1_1 hc1_1 hT gb542 hg542_ gb543 hg543_ h
  cases k with
  | zero => exact absurd h (by simp [impl_LongestChain_1.f])
  | succ k =>
  simp only [impl_LongestChain_1.f] at h
  have hu26 := Tryd.underlying26
  have HR1_1 := Aside0.mk hr1_1
  have HC1_1 := Aside0.mk hc1_1
  clear hr1_1 hc1_1
  have HT := Aside0.mk hT
  clear hT
  have HEV := Aside0.mk (enters_ Tryd.func47 (by kernel_rfl) rfl)
  have hmf : ∀ (fn : Fn) (first cap : Array Value) (W : World), (Instr.makeFunc fn first cap).run Tryd.prog W = .ok (.func fn first cap) W := fun _ _ _ _ => rfl
  have hsf : ∀ (ad : Addr) (fn : Fn) (first cap : Array Value) (m : Mode) (W : World), (Go.store ad (.func fn first cap) m).run Tryd.prog W = stored Tryd.prog W ad (.func fn first cap) m := fun ad fn first cap m W => run_store Tryd.prog W ad (.func fn first cap) m rfl
  have HB := Aside0.mk (Below.refl w.heap.size w)
  have NB542_543 : Aside0 (gb542 ≠ gb543) := Aside0.mk (fun e_ => by rw [e_, hg543_] at hg542_; simp at hg542_)
  have NB543_542 : Aside0 (gb543 ≠ gb542) := Aside0.mk (fun e_ => NB542_543.out e_.symm)
  have BK542 := Aside0.mk hg542_
  clear hg542_
  have BK543 := Aside0.mk hg543_
  clear hg543_
  have H : (if 0 ≤ a0 then (if a0 < (l1_1.length : Int) then ((impl_members.f k (rd l1_1 a0)).bind fun t548 => (impl_LongestChain_1.l0 k a0 (([] : List Int)) t548 (t548.length : Int) 0 a1_0 l1_1 a2_0)) else (none)) else (none)) = some r := h
  clear h
  obtain ⟨y544, hy544⟩ : ∃ y_ : List Int, y_ = (([] : List Int)) := ⟨_, rfl⟩
  replace H : (if 0 ≤ a0 then (if a0 < (l1_1.length : Int) then ((impl_members.f k (rd l1_1 a0)).bind fun t548 => (impl_LongestChain_1.l0 k a0 y544 t548 (t548.length : Int) 0 a1_0 l1_1 a2_0)) else (none)) else (none)) = some r := by first | (rw [hy544]; with_reducible exact H) | (have H2_ := (Option.bind_some _ _).symm.trans H; rw [hy544]; with_reducible exact H2_) | (have H2_ := (Option.bind_some _ _).symm.trans H; with_reducible exact H2_) | with_reducible exact H | (rw [hy544]; exact H) | exact H
  have Ny544 := Aside0.mk hy544
  clear hy544
  by_cases c4 : 0 ≤ a0
  · rw [if_pos c4] at H
    have c4b0 : decide (0 ≤ a0) = true := decide_eq_true c4
    clear c4
    by_cases c5 : a0 < (l1_1.length : Int)
    · rw [if_pos c5] at H
      have c5b0 : decide (a0 < (l1_1.length : Int)) = true := decide_eq_true c5
      clear c5
      replace H := Option.bind_eq_some_iff.mp H
      obtain ⟨t548, A60, H⟩ := H
      replace H : (impl_LongestChain_1.l0 k a0 y544 t548 (t548.length : Int) 0 a1_0 l1_1 a2_0) = some r := H
      have A6 := Aside0.mk A60
      clear A60
      have H' := Aside0.mk H
      clear H
      go_enter Tryd.func47, Tryd.ntmps47
      go_wp2_with (first | ((with_reducible refine gate_dst (N := 1) rfl ?_); refine box_event ?hg (N := 1) ?hd (cs := #[.int .i64 a1_0, .slice A1_1 l1_1.length c1_1]) (t := 26) ?hr ?_; (case hd => rfl); (case hg => rfl); (case hr => first | (go_simp; done) | (go_simp; rfl)); intro gb542 hg w hbox hb; have n0_ := Aside0.mk (below_step (by repeat (first | (with_reducible first | exact HB.out | apply below_alloc | apply pw_below_drewN | apply below_drew1) | exact HB.out)) hb); have n1_ := Aside0.mk (hbox); have n2_ := Aside0.mk ((by rw [hg]; exact (below_size (by repeat (first | (with_reducible first | exact HB.out | apply below_alloc | apply pw_below_drewN | apply below_drew1) | exact HB.out))) : w.heap.size ≤ gb542)); have n3_ := Aside0.mk ((by rw [hg]; exact (below_size (by repeat (first | (with_reducible first | exact HB.out | apply below_alloc | apply pw_below_drewN | apply below_drew1) | exact HB.out))) : w.heap.size ≤ gb542)); clear HB; have HB := n0_; have BK542 := n1_; have GW542 := n2_; have GE542 := n3_; clear n0_ n1_ n2_ n3_; clear hb hbox hg) | ((with_reducible refine gate_dst (N := 2) rfl ?_); refine box_event ?hg (N := 2) ?hd (cs := #[.int .i64 a2_0]) (t := 46) ?hr ?_; (case hd => rfl); (case hg => rfl); (case hr => first | (go_simp; done) | (go_simp; rfl)); intro gb543 hg w hbox hb; have n0_ := Aside0.mk (blk_below (g := gb542) (o := .cells #[.int .i64 a1_0, .slice A1_1 l1_1.length c1_1] 26 (0, 0)) (by (with_reducible repeat (first | refine blk_drewN ?_ _ | refine blk_drew ?_ | refine blk_alloc ?_ _)); exact BK542.out) hb); have n1_ := Aside0.mk (below_step (by repeat (first | (with_reducible first | exact HB.out | apply below_alloc | apply pw_below_drewN | apply below_drew1 | refine below_set ?_ GE542.out) | exact HB.out)) hb); have n2_ := Aside0.mk (hbox); have n3_ := Aside0.mk ((by rw [hg]; exact (below_size (by repeat (first | (with_reducible first | exact HB.out | apply below_alloc | apply pw_below_drewN | apply below_drew1 | refine below_set ?_ GE542.out) | exact HB.out))) : w.heap.size ≤ gb543)); have n4_ := Aside0.mk ((by rw [hg]; exact (below_size (by repeat (first | (with_reducible first | exact HB.out | apply below_alloc | apply pw_below_drewN | apply below_drew1 | refine below_set ?_ GE542.out) | exact HB.out))) : w.heap.size ≤ gb543)); have n5_ := Aside0.mk ((by rw [hg]; exact Nat.ne_of_lt (blk_lt (g := gb542) (o := .cells #[.int .i64 a1_0, .slice A1_1 l1_1.length c1_1] 26 (0, 0)) (by (with_reducible repeat (first | refine blk_drewN ?_ _ | refine blk_drew ?_ | refine blk_alloc ?_ _)); exact BK542.out)) : gb542 ≠ gb543)); have n6_ := Aside0.mk ((by rw [hg]; exact Nat.ne_of_gt (blk_lt (g := gb542) (o := .cells #[.int .i64 a1_0, .slice A1_1 l1_1.length c1_1] 26 (0, 0)) (by (with_reducible repeat (first | refine blk_drewN ?_ _ | refine blk_drew ?_ | refine blk_alloc ?_ _)); exact BK542.out)) : gb543 ≠ gb542)); clear BK542; clear HB; have BK542 := n0_; have HB := n1_; have BK543 := n2_; have GW543 := n3_; have GE543 := n4_; have NB542_543 := n5_; have NB543_542 := n6_; clear n0_ n1_ n2_ n3_ n4_ n5_ n6_; clear hb hbox hg) | ((with_reducible refine gate_dst (N := 9) rfl ?_); refine Kd.R_lit (Kd.int .i64) _ 3 ?hg (N := 9) ?hd (xs := ([] : List Int)) (inner := []) (ok := fun _ => True) (okp := fun _ => True) ?hr ?hp (fun _ hk => hk) trivial (Below.refl _ _) (Nat.le_refl _) (by simp) ?_; (case hd => rfl); (case hg => rfl); (case hr => first | (go_simp; done) | (go_simp; rfl)); (case hp => exact (Reps.none _ _)); intro v545 w9 ho10 hb hg_ hnew_; clear hg_ hnew_; (first | rw [← Ny544.out] at ho10 | (simp only [Int.reduceToNat] at ho10; rw [← Ny544.out] at ho10)); have n0_ := Aside0.mk (Kd.R_lower ho10 (below_size (by repeat (first | (with_reducible first | exact HB.out | apply below_alloc | apply pw_below_drewN | apply below_drew1 | refine below_set ?_ GE542.out | refine below_set ?_ GE543.out) | exact HB.out)))); have n1_ := Aside0.mk (blk_below (g := gb542) (o := .cells #[.int .i64 a1_0, .slice A1_1 l1_1.length c1_1] 26 (0, 0)) (by (with_reducible repeat (first | refine blk_drewN ?_ _ | refine blk_drew ?_ | refine blk_alloc ?_ _)); exact BK542.out) hb); have n2_ := Aside0.mk (blk_below (g := gb543) (o := .cells #[.func (.func 47) #[] #[.pointer (some ⟨gb542, 0, none⟩), .pointer (some ⟨gb543, 0, none⟩)]] 46 (0, 0)) (by (with_reducible repeat (first | refine blk_drewN ?_ _ | refine blk_drew ?_ | refine blk_alloc ?_ _)); exact BK543.out) hb); have n3_ := Aside0.mk (below_step (by repeat (first | (with_reducible first | exact HB.out | apply below_alloc | apply pw_below_drewN | apply below_drew1 | refine below_set ?_ GE542.out | refine below_set ?_ GE543.out) | exact HB.out)) hb); clear BK542; clear BK543; clear HB; have HO546 := n0_; have BK542 := n1_; have BK543 := n2_; have HB := n3_; clear n0_ n1_ n2_ n3_; clear hb ho10; have hnb11 := NB542_543.out; have hnc11 := NB543_542.out; have hcz12_0 : w9.cell? ⟨gb542, 0, none⟩ = some (.int .i64 a1_0) := (blk_cell BK542.out 0).trans rfl; have hcz12_1 : w9.cell? ⟨gb542, 1, none⟩ = some (.slice A1_1 l1_1.length c1_1) := (blk_cell BK542.out 1).trans rfl; have hfz12_0 := blk_frozen BK542.out 0; have hfz12_1 := blk_frozen BK542.out 1; have p547 : 0 ≤ (a0 : Int) := of_decide_eq_true (by first | (with_reducible assumption) | assumption); have q547 : a0 < (l1_1.length : Int) := of_decide_eq_true (by first | (with_reducible assumption) | assumption); obtain ⟨ad547, e547, hx547_0⟩ := Kd.at_int HR1_1.out a0 p547 q547; cases e547; replace hx547_0 := (HB.out.cell (World.block_lt_of_cell? w _ hx547_0)).trans hx547_0; replace p547 := eq_true p547; replace q547 := eq_true q547) | ((with_reducible refine gate_callee (f := 43) rfl ?_); refine goesL_ (some 15) rfl rfl Tryd.func43 (by kernel_rfl) rfl #[.int .i64 (rd l1_1 a0)] rfl (by (try simp only [List.map_toArray, List.map_cons, List.map_nil]); first | done | rfl | (simp only [List.length_drop, List.length_take]; rfl)) ?_; (with_reducible refine (impl_members.calls k (rd l1_1 a0) t548 _ ?side1 A6.out).mono ?_); (case side1 => exact TzW.below HT.out (by repeat (first | (with_reducible first | exact HB.out | apply below_alloc | apply pw_below_drewN | apply below_drew1 | refine below_set ?_ GE542.out | refine below_set ?_ GE543.out) | exact HB.out))); rintro e w13 ⟨v549, rfl, ho0, hb⟩; refine ⟨_, rfl, ?_⟩; have n0_ := Aside0.mk (Kd.R_elder' (by (with_reducible repeat (first | apply Kd.R_alloc | apply Kd.R_drewN | apply Kd.R_drew)); exact HO546.out) (Kd.R_base ho0) hb); have n1_ := Aside0.mk (Kd.R_lower (Kd.R_new' ho0 (Kd.R_lt (by (with_reducible repeat (first | apply Kd.R_alloc | apply Kd.R_drewN | apply Kd.R_drew)); exact HO546.out))) (below_size (by repeat (first | (with_reducible first | exact HB.out | apply below_alloc | apply pw_below_drewN | apply below_drew1 | refine below_set ?_ GE542.out | refine below_set ?_ GE543.out) | exact HB.out)))); have n2_ := Aside0.mk (blk_below (g := gb542) (o := .cells #[.int .i64 a1_0, .slice (some ad547) l1_1.length c1_1] 26 (0, 0)) (by (with_reducible repeat (first | refine blk_drewN ?_ _ | refine blk_drew ?_ | refine blk_alloc ?_ _)); exact BK542.out) hb); have n3_ := Aside0.mk (blk_below (g := gb543) (o := .cells #[.func (.func 47) #[] #[.pointer (some ⟨gb542, 0, none⟩), .pointer (some ⟨gb543, 0, none⟩)]] 46 (0, 0)) (by (with_reducible repeat (first | refine blk_drewN ?_ _ | refine blk_drew ?_ | refine blk_alloc ?_ _)); exact BK543.out) hb); have n4_ := Aside0.mk (below_step (by repeat (first | (with_reducible first | exact HB.out | apply below_alloc | apply pw_below_drewN | apply below_drew1 | refine below_set ?_ GE542.out | refine below_set ?_ GE543.out) | exact HB.out)) hb); clear HO546; clear BK542; clear BK543; clear HB; have HO546 := n0_; have HO550 := n1_; have BK542 := n2_; have BK543 := n3_; have HB := n4_; clear n0_ n1_ n2_ n3_ n4_; (try clear hb); (try clear hb2); (try clear hk); (try clear hi); (try clear ho0); obtain ⟨Ao14, co14, eo14⟩ := Kd.R_slice HO550.out; subst eo14))
      go_loopg [5, 17] k (fun kq v5 v17 w' => ∃ (x5_1 : List Int) (x17_1 : Int), v17 = .int .i64 x17_1 ∧ Aside0 (impl_LongestChain_1.l0 kq a0 x5_1 t548 (t548.length : Int) x17_1 a1_0 l1_1 a2_0 = some r) ∧ Aside0 (kq ≤ k) ∧ Aside0 (Kd.R (Kd.int .i64) 3 w' w.heap.size (fun k_ => some k_ ≠ ((.slice Ao14 t548.length co14) : Value).ownBlock) v5 x5_1) ∧ Aside0 (Kd.R (Kd.int .i64) 3 w' w.heap.size (fun k_ => some k_ ≠ (v5 : Value).ownBlock) (.slice Ao14 t548.length co14) t548) ∧ Aside0 (w'.heap[gb542]? = some (.cells #[.int .i64 a1_0, (.slice (some ad547) l1_1.length c1_1)] 26 (0, 0))) ∧ Aside0 (w'.heap[gb543]? = some (.cells #[.func (.func 47) #[] #[.pointer (some ⟨gb542, 0, none⟩), .pointer (some ⟨gb543, 0, none⟩)]] 46 (0, 0))) ∧ Aside0 (Below w.heap.size w w'))
      case atStart => exact ⟨(y544), (0), (by first | rfl | (simp; done) | (simp [*]; done)), H', ⟨Nat.le_refl _⟩, ⟨by (with_reducible repeat (first | apply Kd.R_alloc | apply Kd.R_drewN | apply Kd.R_drew)); exact Kd.R_mono HO546.out (fun _ hk => hk.2)⟩, ⟨by (with_reducible repeat (first | apply Kd.R_alloc | apply Kd.R_drewN | apply Kd.R_drew)); exact Kd.R_mono HO550.out (fun _ hk => hk.2)⟩, ⟨by (with_reducible repeat (first | refine blk_drewN ?_ _ | refine blk_drew ?_ | refine blk_alloc ?_ _)); exact BK542.out⟩, ⟨by (with_reducible repeat (first | refine blk_drewN ?_ _ | refine blk_drew ?_ | refine blk_alloc ?_ _)); exact BK543.out⟩, ⟨by repeat (first | (with_reducible first | exact HB.out | apply below_alloc | apply pw_below_drewN | apply below_drew1 | refine below_set ?_ GE542.out | refine below_set ?_ GE543.out) | exact HB.out)⟩⟩
      case round =>
        clear H'
        try clear c1
        try clear p2
        try clear c4
        try clear c4b0
        try clear c5
        try clear c5b0
        try clear p5
        try clear q5
        try clear hx5
        try clear c11
        try clear hcz12_0
        try clear hcz12_1
        try clear hfz12_0
        try clear hfz12_1
        try clear hx547_0
        try clear p547
        try clear q547
        obtain ⟨x5_1, x17_1, rfl, HA, HK1, HO_5, HO_15, BK542, BK543, HB⟩ := hrel
        cases gk with
        | zero => exact absurd HA.out (by simp [impl_LongestChain_1.l0])
        | succ k1 =>
          have H := HA.out
          clear HA
          simp only [impl_LongestChain_1.l0] at H
          by_cases c15 : x17_1 < (t548.length : Int)
          · rw [if_pos c15] at H
            have c15b0 : decide (x17_1 < (t548.length : Int)) = true := decide_eq_true c15
            clear c15
            by_cases c16 : 0 ≤ x17_1
            · rw [if_pos c16] at H
              have c16b0 : decide (0 ≤ x17_1) = true := decide_eq_true c16
              clear c16
              by_cases c17 : x17_1 < (t548.length : Int)
              · rw [if_pos c17] at H
                have c17b0 : decide (x17_1 < (t548.length : Int)) = true := decide_eq_true c17
                clear c17
                replace H := Option.bind_eq_some_iff.mp H
                obtain ⟨t552, A180, H⟩ := H
                replace H : (if (t552.length : Int) > (x5_1.length : Int) then (impl_LongestChain_1.l0 k1 a0 t552 t548 (t548.length : Int) (wrap64 (x17_1 + 1)) a1_0 l1_1 a2_0) else (impl_LongestChain_1.l0 k1 a0 x5_1 t548 (t548.length : Int) (wrap64 (x17_1 + 1)) a1_0 l1_1 a2_0)) = some r := H
                have A18 := Aside0.mk A180
                clear A180
                by_cases c19 : (t552.length : Int) > (x5_1.length : Int)
                · rw [if_pos c19] at H
                  have c19b0 : decide ((x5_1.length : Int) < (t552.length : Int)) = true := decide_eq_true c19
                  have c19b1 : decide (x5_1.length < t552.length) = true := decide_eq_true (Int.ofNat_lt.mp c19)
                  clear c19
                  have H' := Aside0.mk H
                  clear H
                  have p551 : 0 ≤ (x17_1 : Int) := of_decide_eq_true (by first | (with_reducible assumption) | assumption)
                  have q551 : x17_1 < (t548.length : Int) := of_decide_eq_true (by first | (with_reducible assumption) | assumption)
                  obtain ⟨ad551, e551, hx551_0⟩ := Kd.at_int (Kd.R_reads' HO_15.out).2.2 x17_1 p551 q551
                  cases e551
                  replace p551 := eq_true p551
                  replace q551 := eq_true q551
                  have hnb20 := NB543_542.out
                  have hnc20 := NB542_543.out
                  have hcz21_0 : wr.cell? ⟨gb543, 0, none⟩ = some (.func (.func 47) #[] #[.pointer (some ⟨gb542, 0, none⟩), .pointer (some ⟨gb543, 0, none⟩)]) := (blk_cell BK543.out 0).trans rfl
                  have hfz21_0 := blk_frozen BK543.out 0
                  have hcz22_0 : wr.cell? ⟨gb542, 0, none⟩ = some (.int .i64 a1_0) := (blk_cell BK542.out 0).trans rfl
                  have hcz22_1 : wr.cell? ⟨gb542, 1, none⟩ = some (.slice (some ad547) l1_1.length c1_1) := (blk_cell BK542.out 1).trans rfl
                  have hfz22_0 := blk_frozen BK542.out 0
                  have hfz22_1 := blk_frozen BK542.out 1
                  go_wp2_with (first | ((with_reducible refine gate_dst (N := 23) rfl ?_); refine L.goesV_ (f := 47) (caps := #[.pointer (some ⟨gb542, 0, none⟩), .pointer (some ⟨gb543, 0, none⟩)]) (some 23) rfl rfl #[.int .i64 (rd t548 x17_1)] rfl rfl (by (try simp only [List.map_toArray, List.map_cons, List.map_nil]); first | done | rfl | (simp only [List.length_drop, List.length_take]; rfl)) HEV.out ?_; (simp only [List.append_toArray, List.cons_append, List.nil_append]); (with_reducible refine (ih k1 (by have := HK1.out; omega) (rd t548 x17_1) a1_0 (some ad547) c1_1 l1_1 a2_0 t552 _ ?side1 ?side2 ?side3 gb542 ?sideG542 gb543 ?sideG543 A18.out).mono ?_); (case sideG542 => (with_reducible repeat (first | refine blk_drewN ?_ _ | refine blk_drew ?_ | refine blk_alloc ?_ _)); exact BK542.out); (case sideG543 => (with_reducible repeat (first | refine blk_drewN ?_ _ | refine blk_drew ?_ | refine blk_alloc ?_ _)); exact BK543.out); (case side1 => repeat (first | exact (Kd.C_below HR1_1.out HB.out) | (with_reducible refine Kd.C_alloc ?_ _) | (with_reducible refine Kd.C_drewN ?_ _) | (with_reducible refine Kd.C_drew ?_))); (case side2 => exact HC1_1.out); (case side3 => exact TzW.below HT.out (by repeat (first | (with_reducible first | exact HB.out | apply below_alloc | apply pw_below_drewN | apply below_drew1 | refine below_set ?_ GE542.out | refine below_set ?_ GE543.out) | exact HB.out))); rintro e w23 ⟨v553, rfl, ho0, hb⟩; refine ⟨_, rfl, ?_⟩; have n0_ := Aside0.mk (Kd.R_elder' (by (with_reducible repeat (first | apply Kd.R_alloc | apply Kd.R_drewN | apply Kd.R_drew)); exact HO_5.out) (Kd.R_base ho0) hb); have n1_ := Aside0.mk (Kd.R_elder' (by (with_reducible repeat (first | apply Kd.R_alloc | apply Kd.R_drewN | apply Kd.R_drew)); exact HO_15.out) (Kd.R_base ho0) hb); have n2_ := Aside0.mk (Kd.R_lower (Kd.R_new' (Kd.R_new' ho0 (Kd.R_lt (by (with_reducible repeat (first | apply Kd.R_alloc | apply Kd.R_drewN | apply Kd.R_drew)); exact HO_5.out))) (Kd.R_lt (by (with_reducible repeat (first | apply Kd.R_alloc | apply Kd.R_drewN | apply Kd.R_drew)); exact HO_15.out))) (below_size (by repeat (first | (with_reducible first | exact HB.out | apply below_alloc | apply pw_below_drewN | apply below_drew1 | refine below_set ?_ GE542.out | refine below_set ?_ GE543.out) | exact HB.out)))); have n3_ := Aside0.mk (blk_below (g := gb542) (o := .cells #[.int .i64 a1_0, .slice (some ad547) l1_1.length c1_1] 26 (0, 0)) (by (with_reducible repeat (first | refine blk_drewN ?_ _ | refine blk_drew ?_ | refine blk_alloc ?_ _)); exact BK542.out) hb); have n4_ := Aside0.mk (blk_below (g := gb543) (o := .cells #[.func (.func 47) #[] #[.pointer (some ⟨gb542, 0, none⟩), .pointer (some ⟨gb543, 0, none⟩)]] 46 (0, 0)) (by (with_reducible repeat (first | refine blk_drewN ?_ _ | refine blk_drew ?_ | refine blk_alloc ?_ _)); exact BK543.out) hb); have n5_ := Aside0.mk (below_step (by repeat (first | (with_reducible first | exact HB.out | apply below_alloc | apply pw_below_drewN | apply below_drew1 | refine below_set ?_ GE542.out | refine below_set ?_ GE543.out) | exact HB.out)) hb); clear HO_5; clear HO_15; clear BK542; clear BK543; clear HB; have HO_5 := n0_; have HO_15 := n1_; have HO554 := n2_; have BK542 := n3_; have BK543 := n4_; have HB := n5_; clear n0_ n1_ n2_ n3_ n4_ n5_; (try clear hb); (try clear hb2); (try clear hk); (try clear hi); (try clear ho0); obtain ⟨Ao24, co24, eo24⟩ := Kd.R_slice HO554.out; subst eo24; obtain ⟨Ao25, co25, eo25⟩ := Kd.R_slice HO_5.out; subst eo25))
                  go_roundg k1
                  case measure => have := HK1.out; omega
                  case rel => exact ⟨(t552), (wrap64 (x17_1 + 1)), (by first | rfl | (simp; done) | (simp [*]; done)), H', ⟨by have := HK1.out; omega⟩, ⟨by (with_reducible repeat (first | apply Kd.R_alloc | apply Kd.R_drewN | apply Kd.R_drew)); exact Kd.R_mono HO554.out (fun _ hk => hk.2)⟩, ⟨by (with_reducible repeat (first | apply Kd.R_alloc | apply Kd.R_drewN | apply Kd.R_drew)); exact Kd.R_mono HO_15.out (fun _ hk => hk.2)⟩, ⟨by (with_reducible repeat (first | refine blk_drewN ?_ _ | refine blk_drew ?_ | refine blk_alloc ?_ _)); exact BK542.out⟩, ⟨by (with_reducible repeat (first | refine blk_drewN ?_ _ | refine blk_drew ?_ | refine blk_alloc ?_ _)); exact BK543.out⟩, ⟨by repeat (first | (with_reducible first | exact HB.out | apply below_alloc | apply pw_below_drewN | apply below_drew1 | refine below_set ?_ GE542.out | refine below_set ?_ GE543.out) | exact HB.out)⟩⟩
                · rw [if_neg c19] at H
                  have c19b0 : decide ((x5_1.length : Int) < (t552.length : Int)) = false := decide_eq_false c19
                  have c19b1 : decide (x5_1.length < t552.length) = false := decide_eq_false (fun h => c19 (Int.ofNat_lt.mpr h))
                  clear c19
                  have H' := Aside0.mk H
                  clear H
                  have p551 : 0 ≤ (x17_1 : Int) := of_decide_eq_true (by first | (with_reducible assumption) | assumption)
                  have q551 : x17_1 < (t548.length : Int) := of_decide_eq_true (by first | (with_reducible assumption) | assumption)
                  obtain ⟨ad551, e551, hx551_0⟩ := Kd.at_int (Kd.R_reads' HO_15.out).2.2 x17_1 p551 q551
                  cases e551
                  replace p551 := eq_true p551
                  replace q551 := eq_true q551
                  have hnb26 := NB543_542.out
                  have hnc26 := NB542_543.out
                  have hcz27_0 : wr.cell? ⟨gb543, 0, none⟩ = some (.func (.func 47) #[] #[.pointer (some ⟨gb542, 0, none⟩), .pointer (some ⟨gb543, 0, none⟩)]) := (blk_cell BK543.out 0).trans rfl
                  have hfz27_0 := blk_frozen BK543.out 0
                  have hcz28_0 : wr.cell? ⟨gb542, 0, none⟩ = some (.int .i64 a1_0) := (blk_cell BK542.out 0).trans rfl
                  have hcz28_1 : wr.cell? ⟨gb542, 1, none⟩ = some (.slice (some ad547) l1_1.length c1_1) := (blk_cell BK542.out 1).trans rfl
                  have hfz28_0 := blk_frozen BK542.out 0
                  have hfz28_1 := blk_frozen BK542.out 1
                  go_wp2_with (first | ((with_reducible refine gate_dst (N := 23) rfl ?_); refine L.goesV_ (f := 47) (caps := #[.pointer (some ⟨gb542, 0, none⟩), .pointer (some ⟨gb543, 0, none⟩)]) (some 23) rfl rfl #[.int .i64 (rd t548 x17_1)] rfl rfl (by (try simp only [List.map_toArray, List.map_cons, List.map_nil]); first | done | rfl | (simp only [List.length_drop, List.length_take]; rfl)) HEV.out ?_; (simp only [List.append_toArray, List.cons_append, List.nil_append]); (with_reducible refine (ih k1 (by have := HK1.out; omega) (rd t548 x17_1) a1_0 (some ad547) c1_1 l1_1 a2_0 t552 _ ?side1 ?side2 ?side3 gb542 ?sideG542 gb543 ?sideG543 A18.out).mono ?_); (case sideG542 => (with_reducible repeat (first | refine blk_drewN ?_ _ | refine blk_drew ?_ | refine blk_alloc ?_ _)); exact BK542.out); (case sideG543 => (with_reducible repeat (first | refine blk_drewN ?_ _ | refine blk_drew ?_ | refine blk_alloc ?_ _)); exact BK543.out); (case side1 => repeat (first | exact (Kd.C_below HR1_1.out HB.out) | (with_reducible refine Kd.C_alloc ?_ _) | (with_reducible refine Kd.C_drewN ?_ _) | (with_reducible refine Kd.C_drew ?_))); (case side2 => exact HC1_1.out); (case side3 => exact TzW.below HT.out (by repeat (first | (with_reducible first | exact HB.out | apply below_alloc | apply pw_below_drewN | apply below_drew1 | refine below_set ?_ GE542.out | refine below_set ?_ GE543.out) | exact HB.out))); rintro e w29 ⟨v553, rfl, ho0, hb⟩; refine ⟨_, rfl, ?_⟩; have n0_ := Aside0.mk (Kd.R_elder' (by (with_reducible repeat (first | apply Kd.R_alloc | apply Kd.R_drewN | apply Kd.R_drew)); exact HO_5.out) (Kd.R_base ho0) hb); have n1_ := Aside0.mk (Kd.R_elder' (by (with_reducible repeat (first | apply Kd.R_alloc | apply Kd.R_drewN | apply Kd.R_drew)); exact HO_15.out) (Kd.R_base ho0) hb); have n2_ := Aside0.mk (Kd.R_lower (Kd.R_new' (Kd.R_new' ho0 (Kd.R_lt (by (with_reducible repeat (first | apply Kd.R_alloc | apply Kd.R_drewN | apply Kd.R_drew)); exact HO_5.out))) (Kd.R_lt (by (with_reducible repeat (first | apply Kd.R_alloc | apply Kd.R_drewN | apply Kd.R_drew)); exact HO_15.out))) (below_size (by repeat (first | (with_reducible first | exact HB.out | apply below_alloc | apply pw_below_drewN | apply below_drew1 | refine below_set ?_ GE542.out | refine below_set ?_ GE543.out) | exact HB.out)))); have n3_ := Aside0.mk (blk_below (g := gb542) (o := .cells #[.int .i64 a1_0, .slice (some ad547) l1_1.length c1_1] 26 (0, 0)) (by (with_reducible repeat (first | refine blk_drewN ?_ _ | refine blk_drew ?_ | refine blk_alloc ?_ _)); exact BK542.out) hb); have n4_ := Aside0.mk (blk_below (g := gb543) (o := .cells #[.func (.func 47) #[] #[.pointer (some ⟨gb542, 0, none⟩), .pointer (some ⟨gb543, 0, none⟩)]] 46 (0, 0)) (by (with_reducible repeat (first | refine blk_drewN ?_ _ | refine blk_drew ?_ | refine blk_alloc ?_ _)); exact BK543.out) hb); have n5_ := Aside0.mk (below_step (by repeat (first | (with_reducible first | exact HB.out | apply below_alloc | apply pw_below_drewN | apply below_drew1 | refine below_set ?_ GE542.out | refine below_set ?_ GE543.out) | exact HB.out)) hb); clear HO_5; clear HO_15; clear BK542; clear BK543; clear HB; have HO_5 := n0_; have HO_15 := n1_; have HO554 := n2_; have BK542 := n3_; have BK543 := n4_; have HB := n5_; clear n0_ n1_ n2_ n3_ n4_ n5_; (try clear hb); (try clear hb2); (try clear hk); (try clear hi); (try clear ho0); obtain ⟨Ao30, co30, eo30⟩ := Kd.R_slice HO554.out; subst eo30; obtain ⟨Ao31, co31, eo31⟩ := Kd.R_slice HO_5.out; subst eo31))
                  go_roundg k1
                  case measure => have := HK1.out; omega
                  case rel => exact ⟨(x5_1), (wrap64 (x17_1 + 1)), (by first | rfl | (simp; done) | (simp [*]; done)), H', ⟨by have := HK1.out; omega⟩, ⟨by (with_reducible repeat (first | apply Kd.R_alloc | apply Kd.R_drewN | apply Kd.R_drew)); exact Kd.R_mono HO_5.out (fun _ hk => hk.1)⟩, ⟨by (with_reducible repeat (first | apply Kd.R_alloc | apply Kd.R_drewN | apply Kd.R_drew)); exact Kd.R_mono HO_15.out (fun _ hk => hk.1)⟩, ⟨by (with_reducible repeat (first | refine blk_drewN ?_ _ | refine blk_drew ?_ | refine blk_alloc ?_ _)); exact BK542.out⟩, ⟨by (with_reducible repeat (first | refine blk_drewN ?_ _ | refine blk_drew ?_ | refine blk_alloc ?_ _)); exact BK543.out⟩, ⟨by repeat (first | (with_reducible first | exact HB.out | apply below_alloc | apply pw_below_drewN | apply below_drew1 | refine below_set ?_ GE542.out | refine below_set ?_ GE543.out) | exact HB.out)⟩⟩
              · rw [if_neg c17] at H
                exact absurd H (by simp)
            · rw [if_neg c16] at H
              exact absurd H (by simp)
          · rw [if_neg c15] at H
            have c15b0 : decide (x17_1 < (t548.length : Int)) = false := decide_eq_false c15
            clear c15
            obtain ⟨y555, hy555⟩ : ∃ y_ : List Int, y_ = (([a0] : List Int)) := ⟨_, rfl⟩
            replace H : (if y555.length + x5_1.length < 17592186044416 then (some (y555 ++ x5_1)) else (none)) = some r := by first | (rw [hy555]; with_reducible exact H) | (have H2_ := (Option.bind_some _ _).symm.trans H; rw [hy555]; with_reducible exact H2_) | (have H2_ := (Option.bind_some _ _).symm.trans H; with_reducible exact H2_) | with_reducible exact H | (rw [hy555]; exact H) | exact H
            have Ny555 := Aside0.mk hy555
            clear hy555
            by_cases c32 : y555.length + x5_1.length < 17592186044416
            · rw [if_pos c32] at H
              have LMc32 := Aside0.mk c32
              clear c32
              obtain ⟨y558, hy558⟩ : ∃ y_ : List Int, y_ = (y555 ++ x5_1) := ⟨_, rfl⟩
              replace H : (some y558) = some r := by first | (rw [hy558]; with_reducible exact H) | (have H2_ := (Option.bind_some _ _).symm.trans H; rw [hy558]; with_reducible exact H2_) | (have H2_ := (Option.bind_some _ _).symm.trans H; with_reducible exact H2_) | with_reducible exact H | (rw [hy558]; exact H) | exact H
              have Ny558 := Aside0.mk hy558
              clear hy558
              obtain rfl := Option.some.inj H
              go_wp2_with (first | ((with_reducible refine gate_dst (N := 32) rfl ?_); refine Kd.R_lit (Kd.int .i64) _ 3 ?hg (N := 32) ?hd (xs := ([a0] : List Int)) (inner := [.int .i64 a0]) (ok := fun _ => True) (okp := fun _ => True) ?hr ?hp (fun _ hk => hk) trivial (Below.refl _ _) (Nat.le_refl _) (by simp) ?_; (case hd => rfl); (case hg => rfl); (case hr => first | (go_simp; done) | (go_simp; rfl)); (case hp => exact (Reps.one (show Kd.M (Kd.int .i64) _ _ _ a0 [.int .i64 a0] from rfl) (Reps.none _ _))); intro v556 w33 ho34 hb hg_ hnew_; clear hg_ hnew_; (first | rw [← Ny555.out] at ho34 | (simp only [Int.reduceToNat] at ho34; rw [← Ny555.out] at ho34)); have n0_ := Aside0.mk (Kd.R_elder' (by (with_reducible repeat (first | apply Kd.R_alloc | apply Kd.R_drewN | apply Kd.R_drew)); exact HO_5.out) (Kd.R_base ho34) hb); have n1_ := Aside0.mk (Kd.R_elder' (by (with_reducible repeat (first | apply Kd.R_alloc | apply Kd.R_drewN | apply Kd.R_drew)); exact HO_15.out) (Kd.R_base ho34) hb); have n2_ := Aside0.mk (Kd.R_lower (Kd.R_new' (Kd.R_new' ho34 (Kd.R_lt (by (with_reducible repeat (first | apply Kd.R_alloc | apply Kd.R_drewN | apply Kd.R_drew)); exact HO_5.out))) (Kd.R_lt (by (with_reducible repeat (first | apply Kd.R_alloc | apply Kd.R_drewN | apply Kd.R_drew)); exact HO_15.out))) (below_size (by repeat (first | (with_reducible first | exact HB.out | apply below_alloc | apply pw_below_drewN | apply below_drew1 | refine below_set ?_ GE542.out | refine below_set ?_ GE543.out) | exact HB.out)))); have n3_ := Aside0.mk (blk_below (g := gb542) (o := .cells #[.int .i64 a1_0, .slice (some ad547) l1_1.length c1_1] 26 (0, 0)) (by (with_reducible repeat (first | refine blk_drewN ?_ _ | refine blk_drew ?_ | refine blk_alloc ?_ _)); exact BK542.out) hb); have n4_ := Aside0.mk (blk_below (g := gb543) (o := .cells #[.func (.func 47) #[] #[.pointer (some ⟨gb542, 0, none⟩), .pointer (some ⟨gb543, 0, none⟩)]] 46 (0, 0)) (by (with_reducible repeat (first | refine blk_drewN ?_ _ | refine blk_drew ?_ | refine blk_alloc ?_ _)); exact BK543.out) hb); have n5_ := Aside0.mk (below_step (by repeat (first | (with_reducible first | exact HB.out | apply below_alloc | apply pw_below_drewN | apply below_drew1 | refine below_set ?_ GE542.out | refine below_set ?_ GE543.out) | exact HB.out)) hb); clear HO_5; clear HO_15; clear BK542; clear BK543; clear HB; have HO_5 := n0_; have HO_15 := n1_; have HO557 := n2_; have BK542 := n3_; have BK543 := n4_; have HB := n5_; clear n0_ n1_ n2_ n3_ n4_ n5_; clear hb ho34; obtain ⟨Ao36, co36, eo36⟩ := Kd.R_slice HO_5.out; subst eo36) | ((with_reducible refine gate_builtin (b := .append) (xs := #[.tmp 32, .tmp 33]) rfl ?_); at_builtin; refine Kd.R_append_rows (Kd.int .i64) (w0 := w) w.heap.size rfl (.tmp 32) (.tmp 33) 22 3 (.int .i64 0) 8 rfl Tryd.underlying22 info3 rfl (by decide) (by omega) v556 y555 x5_1 _ _ _ (fun k_ => some k_ ≠ (.slice Ao36 x5_1.length co36 : Value).ownBlock ∧ some k_ ≠ (.slice Ao14 t548.length co14 : Value).ownBlock) (fun _ => False) rfl rfl ?aO ?aR (fun _ _ h => h) (fun _ h => h.elim) ?aF ?aB ?aS ?aL ?_; (case aR => repeat (first | exact (Kd.R_reads' HO_5.out).2.2 | (with_reducible refine Kd.C_alloc ?_ _) | (with_reducible refine Kd.C_drewN ?_ _) | (with_reducible refine Kd.C_drew ?_))); (case aB => exact (by repeat (first | (with_reducible first | exact HB.out | apply below_alloc | apply pw_below_drewN | apply below_drew1 | refine below_set ?_ GE542.out | refine below_set ?_ GE543.out) | exact HB.out))); (case aF => exact (fun k_ hk => ⟨Kd.fresh' (Kd.R_lt (by (with_reducible repeat (first | apply Kd.R_alloc | apply Kd.R_drewN | apply Kd.R_drew)); exact HO_5.out)) k_ hk, Kd.fresh' (Kd.R_lt (by (with_reducible repeat (first | apply Kd.R_alloc | apply Kd.R_drewN | apply Kd.R_drew)); exact HO_15.out)) k_ hk⟩)); (case aO => exact (by (with_reducible repeat (first | apply Kd.R_alloc | apply Kd.R_drewN | apply Kd.R_drew)); exact Kd.R_mono HO557.out (fun _ hk => ⟨hk.1.2, hk.2⟩))); (case aS => exact (below_size (by repeat (first | (with_reducible first | exact HB.out | apply below_alloc | apply pw_below_drewN | apply below_drew1 | refine below_set ?_ GE542.out | refine below_set ?_ GE543.out) | exact HB.out)))); (case aL => have := LMc32.out; omega); intro v559 w35 ho hb hg hat; rw [← Ny558.out] at ho; have n0_ := Aside0.mk (Kd.R_after (ok := (fun k_ => some k_ ≠ (.slice Ao14 t548.length co14 : Value).ownBlock)) (by (with_reducible repeat (first | apply Kd.R_alloc | apply Kd.R_drewN | apply Kd.R_drew)); exact HO_5.out) hg hat); have n1_ := Aside0.mk (Kd.R_after (ok := (fun k_ => some k_ ≠ (.slice Ao36 x5_1.length co36 : Value).ownBlock)) (by (with_reducible repeat (first | apply Kd.R_alloc | apply Kd.R_drewN | apply Kd.R_drew)); exact HO_15.out) hg hat); have n2_ := Aside0.mk (blk_grown (g := gb542) (o := .cells #[.int .i64 a1_0, .slice (some ad547) l1_1.length c1_1] 26 (0, 0)) (by (with_reducible repeat (first | refine blk_drewN ?_ _ | refine blk_drew ?_ | refine blk_alloc ?_ _)); exact BK542.out) hg (Kd.R_ne HO557.out BK542.out (by decide))); have n3_ := Aside0.mk (blk_grown (g := gb543) (o := .cells #[.func (.func 47) #[] #[.pointer (some ⟨gb542, 0, none⟩), .pointer (some ⟨gb543, 0, none⟩)]] 46 (0, 0)) (by (with_reducible repeat (first | refine blk_drewN ?_ _ | refine blk_drew ?_ | refine blk_alloc ?_ _)); exact BK543.out) hg (Kd.R_ne HO557.out BK543.out (by decide))); have n4_ := Aside0.mk (hb); have n5_ := Aside0.mk (ho); clear HO_5; clear HO_15; clear BK542; clear BK543; clear HB; clear HO557; have HO_5 := n0_; have HO_15 := n1_; have BK542 := n2_; have BK543 := n3_; have HB := n4_; have HO560 := n5_; clear n0_ n1_ n2_ n3_ n4_ n5_; clear ho hb hg hat))
              go_ret
              exact ⟨_, by first | rfl | (simp [errW_none, errW_some] <;> rfl) | (simp [*, errW_none, errW_some] <;> rfl), by (with_reducible repeat (first | apply Kd.R_alloc | apply Kd.R_drewN | apply Kd.R_drew)); exact Kd.R_mono HO560.out (fun _ hk => trivial), by repeat (first | (with_reducible first | exact HB.out | apply below_alloc | apply pw_below_drewN | apply below_drew1 | refine below_set ?_ GE542.out | refine below_set ?_ GE543.out) | exact HB.out)⟩
            · rw [if_neg c32] at H
              exact absurd H (by simp)
    · rw [if_neg c5] at H
      exact absurd H (by simp)
  · rw [if_neg c4] at H
    exact absurd H (by simp)

end Go.Proofs.YtjbloapoaphgjaaDoor.P
