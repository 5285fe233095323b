-- Written by wip/myprint.py of this session (a driver of the kit's print); Lean checks it.
import Derived.Test.YtjbloapoaphgjaaDoorPx0
import Derived.Test.YtjbloapoaphgjaaDoorPx8
namespace Go.Proofs.YtjbloapoaphgjaaDoor.P
open Go.RowKit Go.Proofs.YtjbloapoaphgjaaDoorW.PrintWords Go.Proofs.YtjbloapoaphgjaaDoorW.PrintLast Go.Proofs.YtjbloapoaphgjaaDoorW.PrintMore
attribute [local go_sem] max2_int min2_int max_two min_two max_three min_three max_four min_four   -- for this text's walks alone
set_option linter.unusedVariables false
set_option linter.unusedSimpArgs false

/-! ### impl_together_1: function 71 -/
def impl_together_1.j0 : Nat → Int → Int → Bool → Bool → Int → List Int → Int → List Int → Option (Bool)
  | 0, _, _, _, _, _, _, _, _ => none
  | k + 1, x0, x1, x4, x8, x210000, x210001, x211000, x211001 => if x8 = true then ((impl_Order_better.f x210000 x210001 x0 x1).bind fun t211 => (some t211)) else (if x0 ≥ x210000 then (if x1 ≥ x210000 then ((impl_Order_better.f x211000 x211001 (wrap64 (x0 - x210000)) (wrap64 (x1 - x210000))).bind fun t212 => (some t212)) else (if x4 = true then (some (decide (x0 < x210000))) else (some false))) else (if x4 = true then (some (decide (x0 < x210000))) else (some false)))
def impl_together_1.f (k : Nat) (a0 : Int) (a1 : Int) (a2_0 : Int) (l2_1 : List Int) (a3_0 : Int) (l3_1 : List Int) (a4 : Bool) : Option (Bool) := if a0 < a2_0 then (impl_together_1.j0 k a0 a1 a4 (decide (a1 < a2_0)) a2_0 l2_1 a3_0 l3_1) else (impl_together_1.j0 k a0 a1 a4 false a2_0 l2_1 a3_0 l3_1)
set_option maxHeartbeats 8000000 in
set_option maxRecDepth 100000 in
theorem impl_together_1.calls (k : Nat) (a0 : Int) (a1 : Int) (a2_0 : Int) (A2_1 : Option Addr) (c2_1 : Nat) (l2_1 : List Int) (a3_0 : Int) (A3_1 : Option Addr) (c3_1 : Nat) (l3_1 : List Int) (a4 : Bool) (r : Bool) (w : World) (hr2_1 : Kd.C (Kd.int .i64) w A2_1 l2_1.length l2_1) (hc2_1 : l2_1.length ≤ c2_1) (hr3_1 : Kd.C (Kd.int .i64) w A3_1 l3_1.length l3_1) (hc3_1 : l3_1.length ≤ c3_1) (gb209 : Nat) (hg209_ : w.heap[gb209]? = some (.cells #[.int .i64 a2_0, .slice A2_1 l2_1.length c2_1] 26 (0, 0))) (gb210 : Nat) (hg210_ : w.heap[gb210]? = some (.cells #[.int .i64 a3_0, .slice A3_1 l3_1.length c3_1] 26 (0, 0))) (hn209_210 : gb209 ≠ gb210) (gq4 : Nat) (hg_gq4 : w.heap[gq4]? = some (.cells #[.bool a4] 4 (0, 0))) (h : impl_together_1.f k a0 a1 a2_0 l2_1 a3_0 l3_1 a4 = some r) :
    Calls Tryd.prog 71 #[.int .i64 a0, .int .i64 a1, .pointer (some ⟨gb209, 0, none⟩), .pointer (some ⟨gb210, 0, none⟩), .pointer (some ⟨gq4, 0, none⟩)] w fun e w' => e = .returned (.bool r) ∧ Below w.heap.size w w' := by
  have hu26 := Tryd.underlying26
  have HR2_1 := Aside0.mk hr2_1
  have HC2_1 := Aside0.mk hc2_1
  clear hr2_1 hc2_1
  have HR3_1 := Aside0.mk hr3_1
  have HC3_1 := Aside0.mk hc3_1
  clear hr3_1 hc3_1
  have HB := Aside0.mk (Below.refl w.heap.size w)
  have hcq_gq4 : w.cell? ⟨gq4, 0, none⟩ = some (.bool a4) := (blk_cell hg_gq4 0).trans rfl
  clear hg_gq4
  have NB209_210 := Aside0.mk hn209_210
  have NB210_209 := Aside0.mk (fun e_ : gb210 = gb209 => hn209_210 e_.symm)
  have hcq209 : w.cell? ⟨gb209, 0, none⟩ = some (.int .i64 a2_0) := (blk_cell hg209_ 0).trans rfl
  have hcq209_1 : w.cell? ⟨gb209, 1, none⟩ = some (.slice A2_1 l2_1.length c2_1) := (blk_cell hg209_ 1).trans rfl
  have BK209 := Aside0.mk hg209_
  clear hg209_
  have hcq210 : w.cell? ⟨gb210, 0, none⟩ = some (.int .i64 a3_0) := (blk_cell hg210_ 0).trans rfl
  have hcq210_1 : w.cell? ⟨gb210, 1, none⟩ = some (.slice A3_1 l3_1.length c3_1) := (blk_cell hg210_ 1).trans rfl
  have BK210 := Aside0.mk hg210_
  clear hg210_
  have H : (if a0 < a2_0 then (impl_together_1.j0 k a0 a1 a4 (decide (a1 < a2_0)) a2_0 l2_1 a3_0 l3_1) else (impl_together_1.j0 k a0 a1 a4 false a2_0 l2_1 a3_0 l3_1)) = some r := h
  clear h
  have HC6 := Aside0.mk H
  clear H
  go_enter Tryd.func71, Tryd.ntmps71
  go_upto_region 1 with (first | ((with_reducible refine gate_dst (N := 2) rfl ?_); refine box_event ?hg (N := 2) ?hd (cs := #[.int .i64 a2_0, .slice A2_1 l2_1.length c2_1]) (t := 26) ?hr ?_; (case hd => rfl); (case hg => rfl); (case hr => first | (go_simp; done) | (go_simp; rfl)); intro gb209 hg w hbox hb; have n0_ := Aside0.mk (below_step (by repeat (first | (with_reducible first | exact HB.out | apply below_alloc | apply pw_below_drewN | apply below_drew1) | exact HB.out)) hb); have n1_ := Aside0.mk (hbox); have n2_ := Aside0.mk ((by rw [hg]; exact (below_size (by repeat (first | (with_reducible first | exact HB.out | apply below_alloc | apply pw_below_drewN | apply below_drew1) | exact HB.out))) : w.heap.size ≤ gb209)); have n3_ := Aside0.mk ((by rw [hg]; exact (below_size (by repeat (first | (with_reducible first | exact HB.out | apply below_alloc | apply pw_below_drewN | apply below_drew1) | exact HB.out))) : w.heap.size ≤ gb209)); clear HB; have HB := n0_; have BK209 := n1_; have GW209 := n2_; have GE209 := n3_; clear n0_ n1_ n2_ n3_; clear hb hbox hg) | ((with_reducible refine gate_dst (N := 3) rfl ?_); refine box_event ?hg (N := 3) ?hd (cs := #[.int .i64 a3_0, .slice A3_1 l3_1.length c3_1]) (t := 26) ?hr ?_; (case hd => rfl); (case hg => rfl); (case hr => first | (go_simp; done) | (go_simp; rfl)); intro gb210 hg w hbox hb; have n0_ := Aside0.mk (blk_below (g := gb209) (o := .cells #[.int .i64 a2_0, .slice A2_1 l2_1.length c2_1] 26 (0, 0)) (by (with_reducible repeat (first | refine blk_drewN ?_ _ | refine blk_drew ?_ | refine blk_alloc ?_ _)); exact BK209.out) hb); have n1_ := Aside0.mk (below_step (by repeat (first | (with_reducible first | exact HB.out | apply below_alloc | apply pw_below_drewN | apply below_drew1 | refine below_set ?_ GE209.out) | exact HB.out)) hb); have n2_ := Aside0.mk (hbox); have n3_ := Aside0.mk ((by rw [hg]; exact (below_size (by repeat (first | (with_reducible first | exact HB.out | apply below_alloc | apply pw_below_drewN | apply below_drew1 | refine below_set ?_ GE209.out) | exact HB.out))) : w.heap.size ≤ gb210)); have n4_ := Aside0.mk ((by rw [hg]; exact (below_size (by repeat (first | (with_reducible first | exact HB.out | apply below_alloc | apply pw_below_drewN | apply below_drew1 | refine below_set ?_ GE209.out) | exact HB.out))) : w.heap.size ≤ gb210)); have n5_ := Aside0.mk ((by rw [hg]; exact Nat.ne_of_lt (blk_lt (g := gb209) (o := .cells #[.int .i64 a2_0, .slice A2_1 l2_1.length c2_1] 26 (0, 0)) (by (with_reducible repeat (first | refine blk_drewN ?_ _ | refine blk_drew ?_ | refine blk_alloc ?_ _)); exact BK209.out)) : gb209 ≠ gb210)); have n6_ := Aside0.mk ((by rw [hg]; exact Nat.ne_of_gt (blk_lt (g := gb209) (o := .cells #[.int .i64 a2_0, .slice A2_1 l2_1.length c2_1] 26 (0, 0)) (by (with_reducible repeat (first | refine blk_drewN ?_ _ | refine blk_drew ?_ | refine blk_alloc ?_ _)); exact BK209.out)) : gb210 ≠ gb209)); clear BK209; clear HB; have BK209 := n0_; have HB := n1_; have BK210 := n2_; have GW210 := n3_; have GE210 := n4_; have NB209_210 := n5_; have NB210_209 := n6_; clear n0_ n1_ n2_ n3_ n4_ n5_ n6_; clear hb hbox hg))
  (try simp only [Act.put, List.setIfInBounds_toArray, List.set_cons_zero, List.set_cons_succ])
  go_cut [8] (fun v8 wc => ∃ (kq : Nat) (x8_5 : Bool), v8 = .bool x8_5 ∧ Aside0 (impl_together_1.j0 kq a0 a1 a4 x8_5 a2_0 l2_1 a3_0 l3_1 = some r) ∧ Aside0 (kq ≤ k) ∧ Aside0 (wc.heap[gb209]? = some (.cells #[.int .i64 a2_0, (.slice A2_1 l2_1.length c2_1)] 26 (0, 0))) ∧ Aside0 (wc.heap[gb210]? = some (.cells #[.int .i64 a3_0, (.slice A3_1 l3_1.length c3_1)] 26 (0, 0))) ∧ Aside0 (Below w.heap.size w wc))
  case first =>
    have H := HC6.out
    clear HC6
    by_cases c9 : a0 < a2_0
    · rw [if_pos c9] at H
      have c9b0 : decide (a0 < a2_0) = true := decide_eq_true c9
      clear c9
      (first | rw [c9b0] | (simp only [i64_w, i32_w]; rw [c9b0]) | skip)
      have H' := Aside0.mk H
      clear H
      have hnb10 := NB209_210.out
      have hnc10 := NB210_209.out
      have hcz11_0 : w.cell? ⟨gb209, 0, none⟩ = some (.int .i64 a2_0) := (blk_cell BK209.out 0).trans rfl
      have hcz11_1 : w.cell? ⟨gb209, 1, none⟩ = some (.slice A2_1 l2_1.length c2_1) := (blk_cell BK209.out 1).trans rfl
      have hfz11_0 := blk_frozen BK209.out 0
      have hfz11_1 := blk_frozen BK209.out 1
      (try have hcw_ := (HB.out.cell (World.block_lt_of_cell? w _ hcq_gq4)).trans hcq_gq4)
      go_wp2
      go_meet
      case rel => exact ⟨_, (decide (a1 < a2_0)), (by first | rfl | (simp; done) | (simp [*]; done)), H', ⟨by first | omega | exact Nat.le_refl _⟩, ⟨by (with_reducible repeat (first | refine blk_drewN ?_ _ | refine blk_drew ?_ | refine blk_alloc ?_ _)); exact BK209.out⟩, ⟨by (with_reducible repeat (first | refine blk_drewN ?_ _ | refine blk_drew ?_ | refine blk_alloc ?_ _)); exact BK210.out⟩, ⟨by repeat (first | (with_reducible first | exact HB.out | apply below_alloc | apply pw_below_drewN | apply below_drew1 | refine below_set ?_ GE209.out | refine below_set ?_ GE210.out) | exact HB.out)⟩⟩
    · rw [if_neg c9] at H
      have c9b0 : decide (a0 < a2_0) = false := decide_eq_false c9
      clear c9
      (first | rw [c9b0] | (simp only [i64_w, i32_w]; rw [c9b0]) | skip)
      have H' := Aside0.mk H
      clear H
      have hnb12 := NB209_210.out
      have hnc12 := NB210_209.out
      have hcz13_0 : w.cell? ⟨gb209, 0, none⟩ = some (.int .i64 a2_0) := (blk_cell BK209.out 0).trans rfl
      have hcz13_1 : w.cell? ⟨gb209, 1, none⟩ = some (.slice A2_1 l2_1.length c2_1) := (blk_cell BK209.out 1).trans rfl
      have hfz13_0 := blk_frozen BK209.out 0
      have hfz13_1 := blk_frozen BK209.out 1
      (try have hcw_ := (HB.out.cell (World.block_lt_of_cell? w _ hcq_gq4)).trans hcq_gq4)
      go_wp2
      go_meet
      case rel => exact ⟨_, (false), (by first | rfl | (simp; done) | (simp [*]; done)), H', ⟨by first | omega | exact Nat.le_refl _⟩, ⟨by (with_reducible repeat (first | refine blk_drewN ?_ _ | refine blk_drew ?_ | refine blk_alloc ?_ _)); exact BK209.out⟩, ⟨by (with_reducible repeat (first | refine blk_drewN ?_ _ | refine blk_drew ?_ | refine blk_alloc ?_ _)); exact BK210.out⟩, ⟨by repeat (first | (with_reducible first | exact HB.out | apply below_alloc | apply pw_below_drewN | apply below_drew1 | refine below_set ?_ GE209.out | refine below_set ?_ GE210.out) | exact HB.out)⟩⟩
  case rest =>
    clear HC6
    try clear c1
    try clear c2
    try clear p2
    try clear c3
    try clear c7
    try clear c9
    try clear c9b0
    try clear c10
    try clear c12
    try clear hcz11_0
    try clear hcz11_1
    try clear hcz13_0
    try clear hcz13_1
    try clear hfz11_0
    try clear hfz11_1
    try clear hfz13_0
    try clear hfz13_1
    obtain ⟨kq, x8_5, rfl, HA, HJ5, BK209, BK210, HB⟩ := hcut
    cases kq with
    | zero => exact absurd HA.out (by simp [impl_together_1.j0])
    | succ kj5 =>
      have H := HA.out
      clear HA
      simp only [impl_together_1.j0] at H
      by_cases c14 : x8_5 = true
      · subst c14
        have H1 : ((impl_Order_better.f a2_0 l2_1 a0 a1).bind fun t211 => (some t211)) = some r := by rw [if_pos rfl] at H; exact H
        clear H
        have H := H1
        clear H1
        replace H := Option.bind_eq_some_iff.mp H
        obtain ⟨t211, A150, H⟩ := H
        replace H : (some t211) = some r := H
        have A15 := Aside0.mk A150
        clear A150
        obtain rfl := Option.some.inj H
        have hnb16 := NB209_210.out
        have hnc16 := NB210_209.out
        have hcz17_0 : wc.cell? ⟨gb209, 0, none⟩ = some (.int .i64 a2_0) := (blk_cell BK209.out 0).trans rfl
        have hcz17_1 : wc.cell? ⟨gb209, 1, none⟩ = some (.slice A2_1 l2_1.length c2_1) := (blk_cell BK209.out 1).trans rfl
        have hfz17_0 := blk_frozen BK209.out 0
        have hfz17_1 := blk_frozen BK209.out 1
        (try have hcw_ := (HB.out.cell (World.block_lt_of_cell? w _ hcq_gq4)).trans hcq_gq4)
        go_wp2_with (first | ((with_reducible refine gate_callee (f := 52) rfl ?_); refine goesL_ (some 22) rfl rfl Tryd.func52 (by kernel_rfl) rfl #[.agg #[.int .i64 a2_0, .slice A2_1 l2_1.length c2_1], .int .i64 a0, .int .i64 a1] rfl (by (try simp only [List.map_toArray, List.map_cons, List.map_nil]); first | done | rfl | (simp only [List.length_drop, List.length_take]; rfl)) ?_; (with_reducible refine (impl_Order_better.calls a2_0 _ _ l2_1 a0 a1 t211 _ ?side1 ?side2 A15.out).mono ?_); (case side1 => repeat (first | exact (Kd.C_below HR2_1.out HB.out) | (with_reducible refine Kd.C_alloc ?_ _) | (with_reducible refine Kd.C_drewN ?_ _) | (with_reducible refine Kd.C_drew ?_))); (case side2 => exact HC2_1.out); rintro e w18 ⟨rfl, hb⟩; refine ⟨_, rfl, ?_⟩; have n0_ := Aside0.mk (blk_below (g := gb209) (o := .cells #[.int .i64 a2_0, .slice A2_1 l2_1.length c2_1] 26 (0, 0)) (by (with_reducible repeat (first | refine blk_drewN ?_ _ | refine blk_drew ?_ | refine blk_alloc ?_ _)); exact BK209.out) hb); have n1_ := Aside0.mk (blk_below (g := gb210) (o := .cells #[.int .i64 a3_0, .slice A3_1 l3_1.length c3_1] 26 (0, 0)) (by (with_reducible repeat (first | refine blk_drewN ?_ _ | refine blk_drew ?_ | refine blk_alloc ?_ _)); exact BK210.out) hb); have n2_ := Aside0.mk (below_step (by repeat (first | (with_reducible first | exact HB.out | apply below_alloc | apply pw_below_drewN | apply below_drew1 | refine below_set ?_ GE209.out | refine below_set ?_ GE210.out) | exact HB.out)) hb); clear BK209; clear BK210; clear HB; have BK209 := n0_; have BK210 := n1_; have HB := n2_; clear n0_ n1_ n2_; (try clear hb); (try clear hb2); (try clear hk); (try clear hi)))
        go_ret
        exact ⟨by first | rfl | (simp [errW_none, errW_some] <;> rfl) | (simp [*, errW_none, errW_some] <;> rfl), by repeat (first | (with_reducible first | exact HB.out | apply below_alloc | apply pw_below_drewN | apply below_drew1 | refine below_set ?_ GE209.out | refine below_set ?_ GE210.out) | exact HB.out)⟩
      · replace c14 := Bool.eq_false_iff.mpr c14
        subst c14
        have H1 : (if a0 ≥ a2_0 then (if a1 ≥ a2_0 then ((impl_Order_better.f a3_0 l3_1 (wrap64 (a0 - a2_0)) (wrap64 (a1 - a2_0))).bind fun t212 => (some t212)) else (if a4 = true then (some (decide (a0 < a2_0))) else (some false))) else (if a4 = true then (some (decide (a0 < a2_0))) else (some false))) = some r := by rw [if_neg (show ¬ (false = true) by decide)] at H; exact H
        clear H
        have H := H1
        clear H1
        by_cases c19 : a0 ≥ a2_0
        · rw [if_pos c19] at H
          have c19b0 : decide (a2_0 ≤ a0) = true := decide_eq_true c19
          clear c19
          by_cases c20 : a1 ≥ a2_0
          · rw [if_pos c20] at H
            have c20b0 : decide (a2_0 ≤ a1) = true := decide_eq_true c20
            clear c20
            replace H := Option.bind_eq_some_iff.mp H
            obtain ⟨t212, A210, H⟩ := H
            replace H : (some t212) = some r := H
            have A21 := Aside0.mk A210
            clear A210
            obtain rfl := Option.some.inj H
            have hnb22 := NB209_210.out
            have hnc22 := NB210_209.out
            have hcz23_0 : wc.cell? ⟨gb209, 0, none⟩ = some (.int .i64 a2_0) := (blk_cell BK209.out 0).trans rfl
            have hcz23_1 : wc.cell? ⟨gb209, 1, none⟩ = some (.slice A2_1 l2_1.length c2_1) := (blk_cell BK209.out 1).trans rfl
            have hfz23_0 := blk_frozen BK209.out 0
            have hfz23_1 := blk_frozen BK209.out 1
            have hcz24_0 : wc.cell? ⟨gb210, 0, none⟩ = some (.int .i64 a3_0) := (blk_cell BK210.out 0).trans rfl
            have hcz24_1 : wc.cell? ⟨gb210, 1, none⟩ = some (.slice A3_1 l3_1.length c3_1) := (blk_cell BK210.out 1).trans rfl
            have hfz24_0 := blk_frozen BK210.out 0
            have hfz24_1 := blk_frozen BK210.out 1
            (try have hcw_ := (HB.out.cell (World.block_lt_of_cell? w _ hcq_gq4)).trans hcq_gq4)
            go_wp2_with (first | ((with_reducible refine gate_callee (f := 52) rfl ?_); refine goesL_ (some 43) rfl rfl Tryd.func52 (by kernel_rfl) rfl #[.agg #[.int .i64 a3_0, .slice A3_1 l3_1.length c3_1], .int .i64 (wrap64 (a0 - a2_0)), .int .i64 (wrap64 (a1 - a2_0))] rfl (by (try simp only [List.map_toArray, List.map_cons, List.map_nil]); first | done | rfl | (simp only [List.length_drop, List.length_take]; rfl)) ?_; (with_reducible refine (impl_Order_better.calls a3_0 _ _ l3_1 (wrap64 (a0 - a2_0)) (wrap64 (a1 - a2_0)) t212 _ ?side1 ?side2 A21.out).mono ?_); (case side1 => repeat (first | exact (Kd.C_below HR3_1.out HB.out) | (with_reducible refine Kd.C_alloc ?_ _) | (with_reducible refine Kd.C_drewN ?_ _) | (with_reducible refine Kd.C_drew ?_))); (case side2 => exact HC3_1.out); rintro e w25 ⟨rfl, hb⟩; refine ⟨_, rfl, ?_⟩; have n0_ := Aside0.mk (blk_below (g := gb209) (o := .cells #[.int .i64 a2_0, .slice A2_1 l2_1.length c2_1] 26 (0, 0)) (by (with_reducible repeat (first | refine blk_drewN ?_ _ | refine blk_drew ?_ | refine blk_alloc ?_ _)); exact BK209.out) hb); have n1_ := Aside0.mk (blk_below (g := gb210) (o := .cells #[.int .i64 a3_0, .slice A3_1 l3_1.length c3_1] 26 (0, 0)) (by (with_reducible repeat (first | refine blk_drewN ?_ _ | refine blk_drew ?_ | refine blk_alloc ?_ _)); exact BK210.out) hb); have n2_ := Aside0.mk (below_step (by repeat (first | (with_reducible first | exact HB.out | apply below_alloc | apply pw_below_drewN | apply below_drew1 | refine below_set ?_ GE209.out | refine below_set ?_ GE210.out) | exact HB.out)) hb); clear BK209; clear BK210; clear HB; have BK209 := n0_; have BK210 := n1_; have HB := n2_; clear n0_ n1_ n2_; (try clear hb); (try clear hb2); (try clear hk); (try clear hi)))
            go_ret
            exact ⟨by first | rfl | (simp [errW_none, errW_some] <;> rfl) | (simp [*, errW_none, errW_some] <;> rfl), by repeat (first | (with_reducible first | exact HB.out | apply below_alloc | apply pw_below_drewN | apply below_drew1 | refine below_set ?_ GE209.out | refine below_set ?_ GE210.out) | exact HB.out)⟩
          · rw [if_neg c20] at H
            have c20b0 : decide (a2_0 ≤ a1) = false := decide_eq_false c20
            clear c20
            by_cases c26 : a4 = true
            · subst c26
              have H1 : (some (decide (a0 < a2_0))) = some r := by rw [if_pos rfl] at H; exact H
              clear H
              have H := H1
              clear H1
              obtain rfl := Option.some.inj H
              have hnb27 := NB209_210.out
              have hnc27 := NB210_209.out
              have hcz28_0 : wc.cell? ⟨gb209, 0, none⟩ = some (.int .i64 a2_0) := (blk_cell BK209.out 0).trans rfl
              have hcz28_1 : wc.cell? ⟨gb209, 1, none⟩ = some (.slice A2_1 l2_1.length c2_1) := (blk_cell BK209.out 1).trans rfl
              have hfz28_0 := blk_frozen BK209.out 0
              have hfz28_1 := blk_frozen BK209.out 1
              (try have hcw_ := (HB.out.cell (World.block_lt_of_cell? w _ hcq_gq4)).trans hcq_gq4)
              go_wp2
              go_ret
              exact ⟨by first | rfl | (simp [errW_none, errW_some] <;> rfl) | (simp [*, errW_none, errW_some] <;> rfl), by repeat (first | (with_reducible first | exact HB.out | apply below_alloc | apply pw_below_drewN | apply below_drew1 | refine below_set ?_ GE209.out | refine below_set ?_ GE210.out) | exact HB.out)⟩
            · replace c26 := Bool.eq_false_iff.mpr c26
              subst c26
              have H1 : (some false) = some r := by rw [if_neg (show ¬ (false = true) by decide)] at H; exact H
              clear H
              have H := H1
              clear H1
              obtain rfl := Option.some.inj H
              have hnb29 := NB209_210.out
              have hnc29 := NB210_209.out
              have hcz30_0 : wc.cell? ⟨gb209, 0, none⟩ = some (.int .i64 a2_0) := (blk_cell BK209.out 0).trans rfl
              have hcz30_1 : wc.cell? ⟨gb209, 1, none⟩ = some (.slice A2_1 l2_1.length c2_1) := (blk_cell BK209.out 1).trans rfl
              have hfz30_0 := blk_frozen BK209.out 0
              have hfz30_1 := blk_frozen BK209.out 1
              (try have hcw_ := (HB.out.cell (World.block_lt_of_cell? w _ hcq_gq4)).trans hcq_gq4)
              go_wp2
              go_ret
              exact ⟨by first | rfl | (simp [errW_none, errW_some] <;> rfl) | (simp [*, errW_none, errW_some] <;> rfl), by repeat (first | (with_reducible first | exact HB.out | apply below_alloc | apply pw_below_drewN | apply below_drew1 | refine below_set ?_ GE209.out | refine below_set ?_ GE210.out) | exact HB.out)⟩
        · rw [if_neg c19] at H
          have c19b0 : decide (a2_0 ≤ a0) = false := decide_eq_false c19
          clear c19
          by_cases c31 : a4 = true
          · subst c31
            have H1 : (some (decide (a0 < a2_0))) = some r := by rw [if_pos rfl] at H; exact H
            clear H
            have H := H1
            clear H1
            obtain rfl := Option.some.inj H
            have hnb32 := NB209_210.out
            have hnc32 := NB210_209.out
            have hcz33_0 : wc.cell? ⟨gb209, 0, none⟩ = some (.int .i64 a2_0) := (blk_cell BK209.out 0).trans rfl
            have hcz33_1 : wc.cell? ⟨gb209, 1, none⟩ = some (.slice A2_1 l2_1.length c2_1) := (blk_cell BK209.out 1).trans rfl
            have hfz33_0 := blk_frozen BK209.out 0
            have hfz33_1 := blk_frozen BK209.out 1
            (try have hcw_ := (HB.out.cell (World.block_lt_of_cell? w _ hcq_gq4)).trans hcq_gq4)
            go_wp2
            go_ret
            exact ⟨by first | rfl | (simp [errW_none, errW_some] <;> rfl) | (simp [*, errW_none, errW_some] <;> rfl), by repeat (first | (with_reducible first | exact HB.out | apply below_alloc | apply pw_below_drewN | apply below_drew1 | refine below_set ?_ GE209.out | refine below_set ?_ GE210.out) | exact HB.out)⟩
          · replace c31 := Bool.eq_false_iff.mpr c31
            subst c31
            have H1 : (some false) = some r := by rw [if_neg (show ¬ (false = true) by decide)] at H; exact H
            clear H
            have H := H1
            clear H1
            obtain rfl := Option.some.inj H
            have hnb34 := NB209_210.out
            have hnc34 := NB210_209.out
            have hcz35_0 : wc.cell? ⟨gb209, 0, none⟩ = some (.int .i64 a2_0) := (blk_cell BK209.out 0).trans rfl
            have hcz35_1 : wc.cell? ⟨gb209, 1, none⟩ = some (.slice A2_1 l2_1.length c2_1) := (blk_cell BK209.out 1).trans rfl
            have hfz35_0 := blk_frozen BK209.out 0
            have hfz35_1 := blk_frozen BK209.out 1
            (try have hcw_ := (HB.out.cell (World.block_lt_of_cell? w _ hcq_gq4)).trans hcq_gq4)
            go_wp2
            go_ret
            exact ⟨by first | rfl | (simp [errW_none, errW_some] <;> rfl) | (simp [*, errW_none, errW_some] <;> rfl), by repeat (first | (with_reducible first | exact HB.out | apply below_alloc | apply pw_below_drewN | apply below_drew1 | refine below_set ?_ GE209.out | refine below_set ?_ GE210.out) | exact HB.out)⟩

end Go.Proofs.YtjbloapoaphgjaaDoor.P
