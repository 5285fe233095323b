-- Written by wip/myprint.py of this session (a driver of the kit's print); Lean checks it.
import Derived.Test.YtjeghlmkipcihaaPx0
import Derived.Test.YtjeghlmkipcihaaPx1
import Derived.Test.YtjeghlmkipcihaaPx2
import Derived.Test.YtjeghlmkipcihaaPx8
import Derived.Test.YtjeghlmkipcihaaPx9
import Derived.Test.YtjeghlmkipcihaaPx35
import Derived.Test.YtjeghlmkipcihaaPx36
namespace Go.Proofs.Ytjeghlmkipcihaa.P
open Go.RowKit Go.Proofs.YtjeghlmkipcihaaW.PrintWords Go.Proofs.YtjeghlmkipcihaaW.PrintLast Go.Proofs.YtjeghlmkipcihaaW.PrintMore
attribute [local go_sem] max2_int min2_int max_two min_two max_three min_three max_four min_four   -- for this text's walks alone
set_option linter.unusedVariables false
set_option linter.unusedSimpArgs false

/-! ### laws_FnExactPartOf: function 9 -/
mutual
def laws_FnExactPartOf.j0 : Nat → List Int → Bool → List Int → Bool → Bool → Int → List Int → Int → List Int → Int → List Int → Int → List Int → Option (Bool)
  | 0, _, _, _, _, _, _, _, _, _, _, _, _, _ => none
  | k + 1, x1, x7, x9, x11, x51, x584000, x584001, x598000, x598001, x603000, x603001, x612000, x612001 => if x51 = true then (some false) else ((laws_toOrder.f k x584000 x584001).bind fun bt613 => ((laws_eqOrder.f k x603000 x603001 bt613.1 bt613.2).bind fun t617 => (if t617 = true then ((laws_toIntS.f k x1).bind fun t618 => ((laws_eqIntS.f k x9 t618).bind fun t621 => (if t621 = true then ((laws_markOrder.f k x603000 x603001 1).bind fun bt622 => ((laws_markIntS.f k x9 bt622.1).bind fun bt624 => (if bt624.1 < 0 then (laws_FnExactPartOf.j1 k x1 x7 true x584000 x584001 x598000 x598001 x612000 x612001) else ((laws_eqOrder.f k x612000 x612001 x598000 x598001).bind fun t626 => (if t626 = true then (laws_FnExactPartOf.j1 k x1 x7 (x11 != x7) x584000 x584001 x598000 x598001 x612000 x612001) else (laws_FnExactPartOf.j1 k x1 x7 true x584000 x584001 x598000 x598001 x612000 x612001)))))) else (some false)))) else (some false))))
def laws_FnExactPartOf.j1 : Nat → List Int → Bool → Bool → Int → List Int → Int → List Int → Int → List Int → Option (Bool)
  | 0, _, _, _, _, _, _, _, _, _ => none
  | k + 1, x1, x7, x80, x584000, x584001, x598000, x598001, x612000, x612001 => if x80 = true then (some false) else ((laws_markOrder.f k x612000 x612001 1).bind fun bt627 => ((laws_heldOrder.f k x612000 bt627.2 1).bind fun t629 => (if t629 < 0 then (some false) else (if t629 = bt627.1 then ((laws_toOrder.f k x584000 x584001).bind fun bt630 => ((laws_toIntS.f k x1).bind fun t634 => ((impl_PartOf.f k bt630.1 bt630.2 t634).bind fun bt637 => ((laws_eqOrder.f k bt637.1 bt637.2.1 x598000 x598001).bind fun t643 => (if t643 = true then (laws_FnExactPartOf.j2 k bt627.1 (bt637.2.2 != x7) x612000 bt627.2) else (laws_FnExactPartOf.j2 k bt627.1 true x612000 bt627.2)))))) else (some false)))))
def laws_FnExactPartOf.j2 : Nat → Int → Bool → Int → List Int → Option (Bool)
  | 0, _, _, _, _ => none
  | k + 1, x13, x108, x612000, x612001 => if x108 = true then (some false) else ((laws_heldOrder.f k x612000 x612001 1).bind fun t644 => (if t644 < 0 then (some false) else (if t644 = x13 then (some true) else (some false))))
end
def laws_FnExactPartOf.f (k : Nat) (a0_0 : Int) (l0_1 : List Int) (l1 : List Int) : Option (Bool) := if (l1.length : Int) > 1048576 then (some true) else ((laws_szOrder.f a0_0 l0_1 1048576).bind fun t584 => (if t584 < 0 then (some true) else ((laws_toOrder.f k a0_0 l0_1).bind fun bt585 => ((laws_toIntS.f k l1).bind fun t589 => ((spec_PartOf.f k bt585.1 bt585.2 t589).bind fun bt592 => ((laws_toOrder.f k a0_0 l0_1).bind fun bt598 => ((laws_toIntS.f k l1).bind fun t603 => ((impl_PartOf.f k bt598.1 bt598.2 t603).bind fun bt606 => ((laws_eqOrder.f k bt606.1 bt606.2.1 bt592.1 bt592.2.1).bind fun t612 => (if t612 = true then (laws_FnExactPartOf.j0 k l1 bt592.2.2 t603 bt606.2.2 (bt606.2.2 != bt592.2.2) a0_0 l0_1 bt592.1 bt592.2.1 bt598.1 bt598.2 bt606.1 bt606.2.1) else (laws_FnExactPartOf.j0 k l1 bt592.2.2 t603 bt606.2.2 true a0_0 l0_1 bt592.1 bt592.2.1 bt598.1 bt598.2 bt606.1 bt606.2.1)))))))))))
theorem laws_FnExactPartOf.mono_l : ∀ k, (∀ y0 y1 y2 y3 y4 y5 y6 y7 y8 y9 y10 y11 y12, LeO (laws_FnExactPartOf.j0 k y0 y1 y2 y3 y4 y5 y6 y7 y8 y9 y10 y11 y12) (laws_FnExactPartOf.j0 (k + 1) y0 y1 y2 y3 y4 y5 y6 y7 y8 y9 y10 y11 y12)) ∧ (∀ y0 y1 y2 y3 y4 y5 y6 y7 y8, LeO (laws_FnExactPartOf.j1 k y0 y1 y2 y3 y4 y5 y6 y7 y8) (laws_FnExactPartOf.j1 (k + 1) y0 y1 y2 y3 y4 y5 y6 y7 y8)) ∧ (∀ y0 y1 y2 y3, LeO (laws_FnExactPartOf.j2 k y0 y1 y2 y3) (laws_FnExactPartOf.j2 (k + 1) y0 y1 y2 y3))
  | 0 => ⟨fun _ _ _ _ _ _ _ _ _ _ _ _ _ r h => by simp [laws_FnExactPartOf.j0] at h, fun _ _ _ _ _ _ _ _ _ r h => by simp [laws_FnExactPartOf.j1] at h, fun _ _ _ _ r h => by simp [laws_FnExactPartOf.j2] at h⟩
  | k + 1 => by
    obtain ⟨ih0, ih1, ih2⟩ := laws_FnExactPartOf.mono_l k
    refine ⟨?_, ?_, ?_⟩
    · intro y0 y1 y2 y3 y4 y5 y6 y7 y8 y9 y10 y11 y12
      unfold laws_FnExactPartOf.j0
      repeat' first
      | (with_reducible exact ih0 _ _ _ _ _ _ _ _ _ _ _ _ _)
      | (with_reducible exact ih1 _ _ _ _ _ _ _ _ _)
      | (with_reducible exact ih2 _ _ _ _)
      | (with_reducible exact impl_PartOf.mono _ _ _ _)
      | (with_reducible exact laws_eqIntS.mono _ _ _)
      | (with_reducible exact laws_eqOrder.mono _ _ _ _ _)
      | (with_reducible exact laws_heldOrder.mono _ _ _ _)
      | (with_reducible exact laws_markIntS.mono _ _ _)
      | (with_reducible exact laws_markOrder.mono _ _ _ _)
      | (with_reducible exact laws_toIntS.mono _ _)
      | (with_reducible exact laws_toOrder.mono _ _ _)
      | (with_reducible exact spec_PartOf.mono _ _ _ _)
      | (with_reducible exact LeO.refl _)
      | (with_reducible exact LeO.none _)
      | (with_reducible refine LeO.ite ?_ ?_)
      | (with_reducible refine LeO.bind ?_ (fun _ => ?_))
      | exact ih0 _ _ _ _ _ _ _ _ _ _ _ _ _
      | exact ih1 _ _ _ _ _ _ _ _ _
      | exact ih2 _ _ _ _
      | exact impl_PartOf.mono _ _ _ _
      | exact laws_eqIntS.mono _ _ _
      | exact laws_eqOrder.mono _ _ _ _ _
      | exact laws_heldOrder.mono _ _ _ _
      | exact laws_markIntS.mono _ _ _
      | exact laws_markOrder.mono _ _ _ _
      | exact laws_toIntS.mono _ _
      | exact laws_toOrder.mono _ _ _
      | exact spec_PartOf.mono _ _ _ _
      | exact LeO.none _
      | refine LeO.ite ?_ ?_
      | refine LeO.bind ?_ (fun _ => ?_)
    · intro y0 y1 y2 y3 y4 y5 y6 y7 y8
      unfold laws_FnExactPartOf.j1
      repeat' first
      | (with_reducible exact ih0 _ _ _ _ _ _ _ _ _ _ _ _ _)
      | (with_reducible exact ih1 _ _ _ _ _ _ _ _ _)
      | (with_reducible exact ih2 _ _ _ _)
      | (with_reducible exact impl_PartOf.mono _ _ _ _)
      | (with_reducible exact laws_eqIntS.mono _ _ _)
      | (with_reducible exact laws_eqOrder.mono _ _ _ _ _)
      | (with_reducible exact laws_heldOrder.mono _ _ _ _)
      | (with_reducible exact laws_markIntS.mono _ _ _)
      | (with_reducible exact laws_markOrder.mono _ _ _ _)
      | (with_reducible exact laws_toIntS.mono _ _)
      | (with_reducible exact laws_toOrder.mono _ _ _)
      | (with_reducible exact spec_PartOf.mono _ _ _ _)
      | (with_reducible exact LeO.refl _)
      | (with_reducible exact LeO.none _)
      | (with_reducible refine LeO.ite ?_ ?_)
      | (with_reducible refine LeO.bind ?_ (fun _ => ?_))
      | exact ih0 _ _ _ _ _ _ _ _ _ _ _ _ _
      | exact ih1 _ _ _ _ _ _ _ _ _
      | exact ih2 _ _ _ _
      | exact impl_PartOf.mono _ _ _ _
      | exact laws_eqIntS.mono _ _ _
      | exact laws_eqOrder.mono _ _ _ _ _
      | exact laws_heldOrder.mono _ _ _ _
      | exact laws_markIntS.mono _ _ _
      | exact laws_markOrder.mono _ _ _ _
      | exact laws_toIntS.mono _ _
      | exact laws_toOrder.mono _ _ _
      | exact spec_PartOf.mono _ _ _ _
      | exact LeO.none _
      | refine LeO.ite ?_ ?_
      | refine LeO.bind ?_ (fun _ => ?_)
    · intro y0 y1 y2 y3
      unfold laws_FnExactPartOf.j2
      repeat' first
      | (with_reducible exact ih0 _ _ _ _ _ _ _ _ _ _ _ _ _)
      | (with_reducible exact ih1 _ _ _ _ _ _ _ _ _)
      | (with_reducible exact ih2 _ _ _ _)
      | (with_reducible exact impl_PartOf.mono _ _ _ _)
      | (with_reducible exact laws_eqIntS.mono _ _ _)
      | (with_reducible exact laws_eqOrder.mono _ _ _ _ _)
      | (with_reducible exact laws_heldOrder.mono _ _ _ _)
      | (with_reducible exact laws_markIntS.mono _ _ _)
      | (with_reducible exact laws_markOrder.mono _ _ _ _)
      | (with_reducible exact laws_toIntS.mono _ _)
      | (with_reducible exact laws_toOrder.mono _ _ _)
      | (with_reducible exact spec_PartOf.mono _ _ _ _)
      | (with_reducible exact LeO.refl _)
      | (with_reducible exact LeO.none _)
      | (with_reducible refine LeO.ite ?_ ?_)
      | (with_reducible refine LeO.bind ?_ (fun _ => ?_))
      | exact ih0 _ _ _ _ _ _ _ _ _ _ _ _ _
      | exact ih1 _ _ _ _ _ _ _ _ _
      | exact ih2 _ _ _ _
      | exact impl_PartOf.mono _ _ _ _
      | exact laws_eqIntS.mono _ _ _
      | exact laws_eqOrder.mono _ _ _ _ _
      | exact laws_heldOrder.mono _ _ _ _
      | exact laws_markIntS.mono _ _ _
      | exact laws_markOrder.mono _ _ _ _
      | exact laws_toIntS.mono _ _
      | exact laws_toOrder.mono _ _ _
      | exact spec_PartOf.mono _ _ _ _
      | exact LeO.none _
      | refine LeO.ite ?_ ?_
      | refine LeO.bind ?_ (fun _ => ?_)
theorem laws_FnExactPartOf.mono : ∀ a0 a1 a2 k, LeO (laws_FnExactPartOf.f k a0 a1 a2) (laws_FnExactPartOf.f (k + 1) a0 a1 a2) := by
  intro a0 a1 a2 k
  obtain ⟨ih0, ih1, ih2⟩ := laws_FnExactPartOf.mono_l k
  unfold laws_FnExactPartOf.f
  repeat' first
      | (with_reducible exact ih0 _ _ _ _ _ _ _ _ _ _ _ _ _)
      | (with_reducible exact ih1 _ _ _ _ _ _ _ _ _)
      | (with_reducible exact ih2 _ _ _ _)
      | (with_reducible exact impl_PartOf.mono _ _ _ _)
      | (with_reducible exact laws_eqIntS.mono _ _ _)
      | (with_reducible exact laws_eqOrder.mono _ _ _ _ _)
      | (with_reducible exact laws_heldOrder.mono _ _ _ _)
      | (with_reducible exact laws_markIntS.mono _ _ _)
      | (with_reducible exact laws_markOrder.mono _ _ _ _)
      | (with_reducible exact laws_toIntS.mono _ _)
      | (with_reducible exact laws_toOrder.mono _ _ _)
      | (with_reducible exact spec_PartOf.mono _ _ _ _)
      | (with_reducible exact LeO.refl _)
      | (with_reducible exact LeO.none _)
      | (with_reducible refine LeO.ite ?_ ?_)
      | (with_reducible refine LeO.bind ?_ (fun _ => ?_))
      | exact ih0 _ _ _ _ _ _ _ _ _ _ _ _ _
      | exact ih1 _ _ _ _ _ _ _ _ _
      | exact ih2 _ _ _ _
      | exact impl_PartOf.mono _ _ _ _
      | exact laws_eqIntS.mono _ _ _
      | exact laws_eqOrder.mono _ _ _ _ _
      | exact laws_heldOrder.mono _ _ _ _
      | exact laws_markIntS.mono _ _ _
      | exact laws_markOrder.mono _ _ _ _
      | exact laws_toIntS.mono _ _
      | exact laws_toOrder.mono _ _ _
      | exact spec_PartOf.mono _ _ _ _
      | exact LeO.none _
      | refine LeO.ite ?_ ?_
      | refine LeO.bind ?_ (fun _ => ?_)
set_option maxHeartbeats 8000000 in
set_option maxRecDepth 100000 in
theorem laws_FnExactPartOf.calls (k : Nat) (a0_0 : Int) (A0_1 : Option Addr) (c0_1 : Nat) (l0_1 : List Int) (A1 : Option Addr) (c1 : Nat) (l1 : List Int) (r : Bool) (w : World) (hr0_1 : Kd.C (Kd.int .i64) w A0_1 l0_1.length l0_1) (hc0_1 : l0_1.length ≤ c0_1) (hr1 : Kd.C (Kd.int .i64) w A1 l1.length l1) (hc1 : l1.length ≤ c1) (h : laws_FnExactPartOf.f k a0_0 l0_1 l1 = some r) :
    Calls Try.prog 9 #[.agg #[.int .i64 a0_0, .slice A0_1 l0_1.length c0_1], .slice A1 l1.length c1] w fun e w' => e = .returned (.bool r) ∧ Below w.heap.size w w' := by
  have hu33 := Try.underlying33
  have hu37 := Try.underlying37
  have HR0_1 := Aside0.mk hr0_1
  have HC0_1 := Aside0.mk hc0_1
  clear hr0_1 hc0_1
  have HR1 := Aside0.mk hr1
  have HC1 := Aside0.mk hc1
  clear hr1 hc1
  have HB := Aside0.mk (Below.refl w.heap.size w)
  have H : (if (l1.length : Int) > 1048576 then (some true) else ((laws_szOrder.f a0_0 l0_1 1048576).bind fun t584 => (if t584 < 0 then (some true) else ((laws_toOrder.f k a0_0 l0_1).bind fun bt585 => ((laws_toIntS.f k l1).bind fun t589 => ((spec_PartOf.f k bt585.1 bt585.2 t589).bind fun bt592 => ((laws_toOrder.f k a0_0 l0_1).bind fun bt598 => ((laws_toIntS.f k l1).bind fun t603 => ((impl_PartOf.f k bt598.1 bt598.2 t603).bind fun bt606 => ((laws_eqOrder.f k bt606.1 bt606.2.1 bt592.1 bt592.2.1).bind fun t612 => (if t612 = true then (laws_FnExactPartOf.j0 k l1 bt592.2.2 t603 bt606.2.2 (bt606.2.2 != bt592.2.2) a0_0 l0_1 bt592.1 bt592.2.1 bt598.1 bt598.2 bt606.1 bt606.2.1) else (laws_FnExactPartOf.j0 k l1 bt592.2.2 t603 bt606.2.2 true a0_0 l0_1 bt592.1 bt592.2.1 bt598.1 bt598.2 bt606.1 bt606.2.1)))))))))))) = some r := h
  clear h
  by_cases c3 : (l1.length : Int) > 1048576
  · rw [if_pos c3] at H
    have c3b0 : decide (1048576 < (l1.length : Int)) = true := decide_eq_true c3
    have c3b1 : decide (1048576 < l1.length) = true := decide_eq_true (by omega)
    clear c3
    obtain rfl := Option.some.inj H
    go_enter Try.func9, Try.ntmps9
    go_wp2_with (first | ((with_reducible refine gate_dst (N := 2) rfl ?_); refine box_event ?hg (N := 2) ?hd (cs := #[.int .i64 a0_0, .slice A0_1 l0_1.length c0_1]) (t := 33) ?hr ?_; (case hd => rfl); (case hg => rfl); (case hr => first | (go_simp; done) | (go_simp; rfl)); intro gb583 hg w4 hbox hb; have n0_ := Aside0.mk (below_step (by repeat (first | (with_reducible first | exact HB.out | apply below_alloc | apply pw_below_drewN | apply below_drew1) | exact HB.out)) hb); have n1_ := Aside0.mk (hbox); have n2_ := Aside0.mk ((by rw [hg]; exact (below_size (by repeat (first | (with_reducible first | exact HB.out | apply below_alloc | apply pw_below_drewN | apply below_drew1) | exact HB.out))) : w.heap.size ≤ gb583)); have n3_ := Aside0.mk ((by rw [hg]; exact (below_size (by repeat (first | (with_reducible first | exact HB.out | apply below_alloc | apply pw_below_drewN | apply below_drew1) | exact HB.out))) : w.heap.size ≤ gb583)); clear HB; have HB := n0_; have BK583 := n1_; have GW583 := n2_; have GE583 := n3_; clear n0_ n1_ n2_ n3_; clear hb hbox hg))
    go_ret
    exact ⟨by first | rfl | (simp [errW_none, errW_some] <;> rfl) | (simp [*, errW_none, errW_some] <;> rfl), by repeat (first | (with_reducible first | exact HB.out | apply below_alloc | apply pw_below_drewN | apply below_drew1 | refine below_set ?_ GE583.out) | exact HB.out)⟩
  · rw [if_neg c3] at H
    have c3b0 : decide (1048576 < (l1.length : Int)) = false := decide_eq_false c3
    have c3b1 : decide (1048576 < l1.length) = false := decide_eq_false (by omega)
    clear c3
    replace H := Option.bind_eq_some_iff.mp H
    obtain ⟨t584, A50, H⟩ := H
    replace H : (if t584 < 0 then (some true) else ((laws_toOrder.f k a0_0 l0_1).bind fun bt585 => ((laws_toIntS.f k l1).bind fun t589 => ((spec_PartOf.f k bt585.1 bt585.2 t589).bind fun bt592 => ((laws_toOrder.f k a0_0 l0_1).bind fun bt598 => ((laws_toIntS.f k l1).bind fun t603 => ((impl_PartOf.f k bt598.1 bt598.2 t603).bind fun bt606 => ((laws_eqOrder.f k bt606.1 bt606.2.1 bt592.1 bt592.2.1).bind fun t612 => (if t612 = true then (laws_FnExactPartOf.j0 k l1 bt592.2.2 t603 bt606.2.2 (bt606.2.2 != bt592.2.2) a0_0 l0_1 bt592.1 bt592.2.1 bt598.1 bt598.2 bt606.1 bt606.2.1) else (laws_FnExactPartOf.j0 k l1 bt592.2.2 t603 bt606.2.2 true a0_0 l0_1 bt592.1 bt592.2.1 bt598.1 bt598.2 bt606.1 bt606.2.1)))))))))) = some r := H
    have A5 := Aside0.mk A50
    clear A50
    by_cases c6 : t584 < 0
    · rw [if_pos c6] at H
      have c6b0 : decide (t584 < 0) = true := decide_eq_true c6
      clear c6
      obtain rfl := Option.some.inj H
      go_enter Try.func9, Try.ntmps9
      go_wp2_with (first | ((with_reducible refine gate_dst (N := 2) rfl ?_); refine box_event ?hg (N := 2) ?hd (cs := #[.int .i64 a0_0, .slice A0_1 l0_1.length c0_1]) (t := 33) ?hr ?_; (case hd => rfl); (case hg => rfl); (case hr => first | (go_simp; done) | (go_simp; rfl)); intro gb583 hg w7 hbox hb; have n0_ := Aside0.mk (below_step (by repeat (first | (with_reducible first | exact HB.out | apply below_alloc | apply pw_below_drewN | apply below_drew1) | exact HB.out)) hb); have n1_ := Aside0.mk (hbox); have n2_ := Aside0.mk ((by rw [hg]; exact (below_size (by repeat (first | (with_reducible first | exact HB.out | apply below_alloc | apply pw_below_drewN | apply below_drew1) | exact HB.out))) : w.heap.size ≤ gb583)); have n3_ := Aside0.mk ((by rw [hg]; exact (below_size (by repeat (first | (with_reducible first | exact HB.out | apply below_alloc | apply pw_below_drewN | apply below_drew1) | exact HB.out))) : w.heap.size ≤ gb583)); clear HB; have HB := n0_; have BK583 := n1_; have GW583 := n2_; have GE583 := n3_; clear n0_ n1_ n2_ n3_; clear hb hbox hg; have hcz8_0 : w7.cell? ⟨gb583, 0, none⟩ = some (.int .i64 a0_0) := (blk_cell BK583.out 0).trans rfl; have hcz8_1 : w7.cell? ⟨gb583, 1, none⟩ = some (.slice A0_1 l0_1.length c0_1) := (blk_cell BK583.out 1).trans rfl; have hfz8_0 := blk_frozen BK583.out 0; have hfz8_1 := blk_frozen BK583.out 1) | ((with_reducible refine gate_callee (f := 18) rfl ?_); refine goesL_ (some 22) rfl rfl Try.func18 (by kernel_rfl) rfl #[.agg #[.int .i64 a0_0, .slice A0_1 l0_1.length c0_1], .int .i64 1048576] rfl (by (try simp only [List.map_toArray, List.map_cons, List.map_nil]); first | done | rfl | (simp only [List.length_drop, List.length_take]; rfl)) ?_; (with_reducible refine (laws_szOrder.calls a0_0 _ _ l0_1 1048576 t584 _ ?side1 ?side2 A5.out).mono ?_); (case side1 => repeat (first | exact (Kd.C_below HR0_1.out HB.out) | (with_reducible refine Kd.C_alloc ?_ _) | (with_reducible refine Kd.C_drewN ?_ _) | (with_reducible refine Kd.C_drew ?_))); (case side2 => exact HC0_1.out); rintro e w9 ⟨rfl, hb⟩; refine ⟨_, rfl, ?_⟩; have n0_ := Aside0.mk (blk_below (g := gb583) (o := .cells #[.int .i64 a0_0, .slice A0_1 l0_1.length c0_1] 33 (0, 0)) (by (with_reducible repeat (first | refine blk_drewN ?_ _ | refine blk_drew ?_ | refine blk_alloc ?_ _)); exact BK583.out) hb); have n1_ := Aside0.mk (below_step (by repeat (first | (with_reducible first | exact HB.out | apply below_alloc | apply pw_below_drewN | apply below_drew1 | refine below_set ?_ GE583.out) | exact HB.out)) hb); clear BK583; clear HB; have BK583 := n0_; have HB := n1_; clear n0_ n1_; (try clear hb); (try clear hb2); (try clear hk); (try clear hi)))
      go_ret
      exact ⟨by first | rfl | (simp [errW_none, errW_some] <;> rfl) | (simp [*, errW_none, errW_some] <;> rfl), by repeat (first | (with_reducible first | exact HB.out | apply below_alloc | apply pw_below_drewN | apply below_drew1 | refine below_set ?_ GE583.out) | exact HB.out)⟩
    · rw [if_neg c6] at H
      have c6b0 : decide (t584 < 0) = false := decide_eq_false c6
      clear c6
      replace H := Option.bind_eq_some_iff.mp H
      obtain ⟨⟨t585, t586⟩, A100, H⟩ := H
      replace H : ((laws_toIntS.f k l1).bind fun t589 => ((spec_PartOf.f k t585 t586 t589).bind fun bt592 => ((laws_toOrder.f k a0_0 l0_1).bind fun bt598 => ((laws_toIntS.f k l1).bind fun t603 => ((impl_PartOf.f k bt598.1 bt598.2 t603).bind fun bt606 => ((laws_eqOrder.f k bt606.1 bt606.2.1 bt592.1 bt592.2.1).bind fun t612 => (if t612 = true then (laws_FnExactPartOf.j0 k l1 bt592.2.2 t603 bt606.2.2 (bt606.2.2 != bt592.2.2) a0_0 l0_1 bt592.1 bt592.2.1 bt598.1 bt598.2 bt606.1 bt606.2.1) else (laws_FnExactPartOf.j0 k l1 bt592.2.2 t603 bt606.2.2 true a0_0 l0_1 bt592.1 bt592.2.1 bt598.1 bt598.2 bt606.1 bt606.2.1)))))))) = some r := H
      have A10 := Aside0.mk A100
      clear A100
      replace H := Option.bind_eq_some_iff.mp H
      obtain ⟨t589, A110, H⟩ := H
      replace H : ((spec_PartOf.f k t585 t586 t589).bind fun bt592 => ((laws_toOrder.f k a0_0 l0_1).bind fun bt598 => ((laws_toIntS.f k l1).bind fun t603 => ((impl_PartOf.f k bt598.1 bt598.2 t603).bind fun bt606 => ((laws_eqOrder.f k bt606.1 bt606.2.1 bt592.1 bt592.2.1).bind fun t612 => (if t612 = true then (laws_FnExactPartOf.j0 k l1 bt592.2.2 t603 bt606.2.2 (bt606.2.2 != bt592.2.2) a0_0 l0_1 bt592.1 bt592.2.1 bt598.1 bt598.2 bt606.1 bt606.2.1) else (laws_FnExactPartOf.j0 k l1 bt592.2.2 t603 bt606.2.2 true a0_0 l0_1 bt592.1 bt592.2.1 bt598.1 bt598.2 bt606.1 bt606.2.1))))))) = some r := H
      have A11 := Aside0.mk A110
      clear A110
      replace H := Option.bind_eq_some_iff.mp H
      obtain ⟨⟨t592, t593, t596⟩, A120, H⟩ := H
      replace H : ((laws_toOrder.f k a0_0 l0_1).bind fun bt598 => ((laws_toIntS.f k l1).bind fun t603 => ((impl_PartOf.f k bt598.1 bt598.2 t603).bind fun bt606 => ((laws_eqOrder.f k bt606.1 bt606.2.1 t592 t593).bind fun t612 => (if t612 = true then (laws_FnExactPartOf.j0 k l1 t596 t603 bt606.2.2 (bt606.2.2 != t596) a0_0 l0_1 t592 t593 bt598.1 bt598.2 bt606.1 bt606.2.1) else (laws_FnExactPartOf.j0 k l1 t596 t603 bt606.2.2 true a0_0 l0_1 t592 t593 bt598.1 bt598.2 bt606.1 bt606.2.1)))))) = some r := H
      have A12 := Aside0.mk A120
      clear A120
      replace H := Option.bind_eq_some_iff.mp H
      obtain ⟨⟨t598, t599⟩, A130, H⟩ := H
      replace H : ((laws_toIntS.f k l1).bind fun t603 => ((impl_PartOf.f k t598 t599 t603).bind fun bt606 => ((laws_eqOrder.f k bt606.1 bt606.2.1 t592 t593).bind fun t612 => (if t612 = true then (laws_FnExactPartOf.j0 k l1 t596 t603 bt606.2.2 (bt606.2.2 != t596) a0_0 l0_1 t592 t593 t598 t599 bt606.1 bt606.2.1) else (laws_FnExactPartOf.j0 k l1 t596 t603 bt606.2.2 true a0_0 l0_1 t592 t593 t598 t599 bt606.1 bt606.2.1))))) = some r := H
      have A13 := Aside0.mk A130
      clear A130
      replace H := Option.bind_eq_some_iff.mp H
      obtain ⟨t603, A140, H⟩ := H
      replace H : ((impl_PartOf.f k t598 t599 t603).bind fun bt606 => ((laws_eqOrder.f k bt606.1 bt606.2.1 t592 t593).bind fun t612 => (if t612 = true then (laws_FnExactPartOf.j0 k l1 t596 t603 bt606.2.2 (bt606.2.2 != t596) a0_0 l0_1 t592 t593 t598 t599 bt606.1 bt606.2.1) else (laws_FnExactPartOf.j0 k l1 t596 t603 bt606.2.2 true a0_0 l0_1 t592 t593 t598 t599 bt606.1 bt606.2.1)))) = some r := H
      have A14 := Aside0.mk A140
      clear A140
      replace H := Option.bind_eq_some_iff.mp H
      obtain ⟨⟨t606, t607, t610⟩, A150, H⟩ := H
      replace H : ((laws_eqOrder.f k t606 t607 t592 t593).bind fun t612 => (if t612 = true then (laws_FnExactPartOf.j0 k l1 t596 t603 t610 (t610 != t596) a0_0 l0_1 t592 t593 t598 t599 t606 t607) else (laws_FnExactPartOf.j0 k l1 t596 t603 t610 true a0_0 l0_1 t592 t593 t598 t599 t606 t607))) = some r := H
      have A15 := Aside0.mk A150
      clear A150
      have HC16 := Aside0.mk H
      clear H
      go_enter Try.func9, Try.ntmps9
      go_upto_region 11 with (first | ((with_reducible refine gate_dst (N := 2) rfl ?_); refine box_event ?hg (N := 2) ?hd (cs := #[.int .i64 a0_0, .slice A0_1 l0_1.length c0_1]) (t := 33) ?hr ?_; (case hd => rfl); (case hg => rfl); (case hr => first | (go_simp; done) | (go_simp; rfl)); intro gb583 hg w17 hbox hb; have n0_ := Aside0.mk (below_step (by repeat (first | (with_reducible first | exact HB.out | apply below_alloc | apply pw_below_drewN | apply below_drew1) | exact HB.out)) hb); have n1_ := Aside0.mk (hbox); have n2_ := Aside0.mk ((by rw [hg]; exact (below_size (by repeat (first | (with_reducible first | exact HB.out | apply below_alloc | apply pw_below_drewN | apply below_drew1) | exact HB.out))) : w.heap.size ≤ gb583)); have n3_ := Aside0.mk ((by rw [hg]; exact (below_size (by repeat (first | (with_reducible first | exact HB.out | apply below_alloc | apply pw_below_drewN | apply below_drew1) | exact HB.out))) : w.heap.size ≤ gb583)); clear HB; have HB := n0_; have BK583 := n1_; have GW583 := n2_; have GE583 := n3_; clear n0_ n1_ n2_ n3_; clear hb hbox hg; have hcz18_0 : w17.cell? ⟨gb583, 0, none⟩ = some (.int .i64 a0_0) := (blk_cell BK583.out 0).trans rfl; have hcz18_1 : w17.cell? ⟨gb583, 1, none⟩ = some (.slice A0_1 l0_1.length c0_1) := (blk_cell BK583.out 1).trans rfl; have hfz18_0 := blk_frozen BK583.out 0; have hfz18_1 := blk_frozen BK583.out 1) | ((with_reducible refine gate_callee (f := 18) rfl ?_); refine goesL_ (some 22) rfl rfl Try.func18 (by kernel_rfl) rfl #[.agg #[.int .i64 a0_0, .slice A0_1 l0_1.length c0_1], .int .i64 1048576] rfl (by (try simp only [List.map_toArray, List.map_cons, List.map_nil]); first | done | rfl | (simp only [List.length_drop, List.length_take]; rfl)) ?_; (with_reducible refine (laws_szOrder.calls a0_0 _ _ l0_1 1048576 t584 _ ?side1 ?side2 A5.out).mono ?_); (case side1 => repeat (first | exact (Kd.C_below HR0_1.out HB.out) | (with_reducible refine Kd.C_alloc ?_ _) | (with_reducible refine Kd.C_drewN ?_ _) | (with_reducible refine Kd.C_drew ?_))); (case side2 => exact HC0_1.out); rintro e w19 ⟨rfl, hb⟩; refine ⟨_, rfl, ?_⟩; have n0_ := Aside0.mk (blk_below (g := gb583) (o := .cells #[.int .i64 a0_0, .slice A0_1 l0_1.length c0_1] 33 (0, 0)) (by (with_reducible repeat (first | refine blk_drewN ?_ _ | refine blk_drew ?_ | refine blk_alloc ?_ _)); exact BK583.out) hb); have n1_ := Aside0.mk (below_step (by repeat (first | (with_reducible first | exact HB.out | apply below_alloc | apply pw_below_drewN | apply below_drew1 | refine below_set ?_ GE583.out) | exact HB.out)) hb); clear BK583; clear HB; have BK583 := n0_; have HB := n1_; clear n0_ n1_; (try clear hb); (try clear hb2); (try clear hk); (try clear hi); have hcz20_0 : w19.cell? ⟨gb583, 0, none⟩ = some (.int .i64 a0_0) := (blk_cell BK583.out 0).trans rfl; have hcz20_1 : w19.cell? ⟨gb583, 1, none⟩ = some (.slice A0_1 l0_1.length c0_1) := (blk_cell BK583.out 1).trans rfl; have hfz20_0 := blk_frozen BK583.out 0; have hfz20_1 := blk_frozen BK583.out 1) | ((with_reducible refine gate_callee (f := 20) rfl ?_); refine goesL_ (some 27) rfl rfl Try.func20 (by kernel_rfl) rfl #[.agg #[.int .i64 a0_0, .slice A0_1 l0_1.length c0_1]] rfl (by (try simp only [List.map_toArray, List.map_cons, List.map_nil]); first | done | rfl | (simp only [List.length_drop, List.length_take]; rfl)) ?_; (with_reducible refine (laws_toOrder.calls k a0_0 _ _ l0_1 t585 t586 _ ?side1 ?side2 A10.out).mono ?_); (case side1 => repeat (first | exact (Kd.C_below HR0_1.out HB.out) | (with_reducible refine Kd.C_alloc ?_ _) | (with_reducible refine Kd.C_drewN ?_ _) | (with_reducible refine Kd.C_drew ?_))); (case side2 => exact HC0_1.out); rintro e w21 ⟨v587, rfl, ho0, hb⟩; refine ⟨_, rfl, ?_⟩; have n0_ := Aside0.mk (Kd.R_lower ho0 (below_size (by repeat (first | (with_reducible first | exact HB.out | apply below_alloc | apply pw_below_drewN | apply below_drew1 | refine below_set ?_ GE583.out) | exact HB.out)))); have n1_ := Aside0.mk (blk_below (g := gb583) (o := .cells #[.int .i64 a0_0, .slice A0_1 l0_1.length c0_1] 33 (0, 0)) (by (with_reducible repeat (first | refine blk_drewN ?_ _ | refine blk_drew ?_ | refine blk_alloc ?_ _)); exact BK583.out) hb); have n2_ := Aside0.mk (below_step (by repeat (first | (with_reducible first | exact HB.out | apply below_alloc | apply pw_below_drewN | apply below_drew1 | refine below_set ?_ GE583.out) | exact HB.out)) hb); clear BK583; clear HB; have HO588 := n0_; have BK583 := n1_; have HB := n2_; clear n0_ n1_ n2_; (try clear hb); (try clear hb2); (try clear hk); (try clear hi); (try clear ho0)) | ((with_reducible refine gate_callee (f := 34) rfl ?_); refine goesL_ (some 29) rfl rfl Try.func34 (by kernel_rfl) rfl #[.slice A1 l1.length c1] rfl (by (try simp only [List.map_toArray, List.map_cons, List.map_nil]); first | done | rfl | (simp only [List.length_drop, List.length_take]; rfl)) ?_; (with_reducible refine (laws_toIntS.calls k _ _ l1 t589 _ ?side1 ?side2 A11.out).mono ?_); (case side1 => repeat (first | exact (Kd.C_below HR1.out HB.out) | (with_reducible refine Kd.C_alloc ?_ _) | (with_reducible refine Kd.C_drewN ?_ _) | (with_reducible refine Kd.C_drew ?_))); (case side2 => exact HC1.out); rintro e w22 ⟨v590, rfl, ho0, hb⟩; refine ⟨_, rfl, ?_⟩; have n0_ := Aside0.mk (Kd.R_elder' (by (with_reducible repeat (first | apply Kd.R_alloc | apply Kd.R_drewN | apply Kd.R_drew)); exact HO588.out) (Kd.R_base ho0) hb); have n1_ := Aside0.mk (Kd.R_lower (Kd.R_new' ho0 (Kd.R_lt (by (with_reducible repeat (first | apply Kd.R_alloc | apply Kd.R_drewN | apply Kd.R_drew)); exact HO588.out))) (below_size (by repeat (first | (with_reducible first | exact HB.out | apply below_alloc | apply pw_below_drewN | apply below_drew1 | refine below_set ?_ GE583.out) | exact HB.out)))); have n2_ := Aside0.mk (blk_below (g := gb583) (o := .cells #[.int .i64 a0_0, .slice A0_1 l0_1.length c0_1] 33 (0, 0)) (by (with_reducible repeat (first | refine blk_drewN ?_ _ | refine blk_drew ?_ | refine blk_alloc ?_ _)); exact BK583.out) hb); have n3_ := Aside0.mk (below_step (by repeat (first | (with_reducible first | exact HB.out | apply below_alloc | apply pw_below_drewN | apply below_drew1 | refine below_set ?_ GE583.out) | exact HB.out)) hb); clear HO588; clear BK583; clear HB; have HO588 := n0_; have HO591 := n1_; have BK583 := n2_; have HB := n3_; clear n0_ n1_ n2_ n3_; (try clear hb); (try clear hb2); (try clear hk); (try clear hi); (try clear ho0); obtain ⟨Ao23, co23, eo23⟩ := Kd.R_slice HO588.out; subst eo23; obtain ⟨Ao24, co24, eo24⟩ := Kd.R_slice HO591.out; subst eo24) | ((with_reducible refine gate_callee (f := 33) rfl ?_); refine goesL_ (some 30) rfl rfl Try.func33 (by kernel_rfl) rfl #[.agg #[.int .i64 t585, .slice Ao23 t586.length co23], .slice Ao24 t589.length co24] rfl (by (try simp only [List.map_toArray, List.map_cons, List.map_nil]); first | done | rfl | (simp only [List.length_drop, List.length_take]; rfl)) ?_; (with_reducible refine (spec_PartOf.calls k t585 _ _ t586 _ _ t589 t592 t593 t596 _ ?side1 ?side2 ?side3 ?side4 A12.out).mono ?_); (case side1 => repeat (first | exact (Kd.R_reads' HO588.out).2.2 | (with_reducible refine Kd.C_alloc ?_ _) | (with_reducible refine Kd.C_drewN ?_ _) | (with_reducible refine Kd.C_drew ?_))); (case side2 => exact (Kd.R_reads' HO588.out).2.1); (case side3 => repeat (first | exact (Kd.R_reads' HO591.out).2.2 | (with_reducible refine Kd.C_alloc ?_ _) | (with_reducible refine Kd.C_drewN ?_ _) | (with_reducible refine Kd.C_drew ?_))); (case side4 => exact (Kd.R_reads' HO591.out).2.1); rintro e w25 ⟨v594, rfl, ho0, hb⟩; refine ⟨_, rfl, ?_⟩; have n0_ := Aside0.mk (Kd.R_elder' (by (with_reducible repeat (first | apply Kd.R_alloc | apply Kd.R_drewN | apply Kd.R_drew)); exact HO588.out) (Kd.R_base ho0) hb); have n1_ := Aside0.mk (Kd.R_elder' (by (with_reducible repeat (first | apply Kd.R_alloc | apply Kd.R_drewN | apply Kd.R_drew)); exact HO591.out) (Kd.R_base ho0) hb); have n2_ := Aside0.mk (Kd.R_lower (Kd.R_new' (Kd.R_new' ho0 (Kd.R_lt (by (with_reducible repeat (first | apply Kd.R_alloc | apply Kd.R_drewN | apply Kd.R_drew)); exact HO588.out))) (Kd.R_lt (by (with_reducible repeat (first | apply Kd.R_alloc | apply Kd.R_drewN | apply Kd.R_drew)); exact HO591.out))) (below_size (by repeat (first | (with_reducible first | exact HB.out | apply below_alloc | apply pw_below_drewN | apply below_drew1 | refine below_set ?_ GE583.out) | exact HB.out)))); have n3_ := Aside0.mk (blk_below (g := gb583) (o := .cells #[.int .i64 a0_0, .slice A0_1 l0_1.length c0_1] 33 (0, 0)) (by (with_reducible repeat (first | refine blk_drewN ?_ _ | refine blk_drew ?_ | refine blk_alloc ?_ _)); exact BK583.out) hb); have n4_ := Aside0.mk (below_step (by repeat (first | (with_reducible first | exact HB.out | apply below_alloc | apply pw_below_drewN | apply below_drew1 | refine below_set ?_ GE583.out) | exact HB.out)) hb); clear HO588; clear HO591; clear BK583; clear HB; have HO588 := n0_; have HO591 := n1_; have HO595 := n2_; have BK583 := n3_; have HB := n4_; clear n0_ n1_ n2_ n3_ n4_; (try clear hb); (try clear hb2); (try clear hk); (try clear hi); (try clear ho0)) | ((with_reducible refine gate_dst (N := 6) rfl ?_); refine box_event ?hg (N := 6) ?hd (cs := #[.int .i64 0, .slice none 0 0]) (t := 37) ?hr ?_; (case hd => rfl); (case hg => rfl); (case hr => first | (go_simp; done) | (go_simp; rfl)); intro gb597 hg w26 hbox hb; have n0_ := Aside0.mk (Kd.R_below (by (with_reducible repeat (first | apply Kd.R_alloc | apply Kd.R_drewN | apply Kd.R_drew)); exact HO588.out) hb); have n1_ := Aside0.mk (Kd.R_below (by (with_reducible repeat (first | apply Kd.R_alloc | apply Kd.R_drewN | apply Kd.R_drew)); exact HO591.out) hb); have n2_ := Aside0.mk (Kd.R_below (by (with_reducible repeat (first | apply Kd.R_alloc | apply Kd.R_drewN | apply Kd.R_drew)); exact HO595.out) hb); have n3_ := Aside0.mk (blk_below (g := gb583) (o := .cells #[.int .i64 a0_0, .slice A0_1 l0_1.length c0_1] 33 (0, 0)) (by (with_reducible repeat (first | refine blk_drewN ?_ _ | refine blk_drew ?_ | refine blk_alloc ?_ _)); exact BK583.out) hb); have n4_ := Aside0.mk (below_step (by repeat (first | (with_reducible first | exact HB.out | apply below_alloc | apply pw_below_drewN | apply below_drew1 | refine below_set ?_ GE583.out) | exact HB.out)) hb); have n5_ := Aside0.mk (hbox); have n6_ := Aside0.mk ((by rw [hg]; exact (below_size (by repeat (first | (with_reducible first | exact HB.out | apply below_alloc | apply pw_below_drewN | apply below_drew1 | refine below_set ?_ GE583.out) | exact HB.out))) : w.heap.size ≤ gb597)); have n7_ := Aside0.mk ((by rw [hg]; exact (below_size (by repeat (first | (with_reducible first | exact HB.out | apply below_alloc | apply pw_below_drewN | apply below_drew1 | refine below_set ?_ GE583.out) | exact HB.out))) : w.heap.size ≤ gb597)); have n8_ := Aside0.mk ((by rw [hg]; exact Nat.ne_of_lt (blk_lt (g := gb583) (o := .cells #[.int .i64 a0_0, .slice A0_1 l0_1.length c0_1] 33 (0, 0)) (by (with_reducible repeat (first | refine blk_drewN ?_ _ | refine blk_drew ?_ | refine blk_alloc ?_ _)); exact BK583.out)) : gb583 ≠ gb597)); have n9_ := Aside0.mk ((by rw [hg]; exact Nat.ne_of_gt (blk_lt (g := gb583) (o := .cells #[.int .i64 a0_0, .slice A0_1 l0_1.length c0_1] 33 (0, 0)) (by (with_reducible repeat (first | refine blk_drewN ?_ _ | refine blk_drew ?_ | refine blk_alloc ?_ _)); exact BK583.out)) : gb597 ≠ gb583)); clear HO588; clear HO591; clear HO595; clear BK583; clear HB; have HO588 := n0_; have HO591 := n1_; have HO595 := n2_; have BK583 := n3_; have HB := n4_; have BK597 := n5_; have GW597 := n6_; have GE597 := n7_; have NB583_597 := n8_; have NB597_583 := n9_; clear n0_ n1_ n2_ n3_ n4_ n5_ n6_ n7_ n8_ n9_; clear hb hbox hg; have hnb27 := NB597_583.out; have hnc27 := NB583_597.out; have hcz28_0 : w26.cell? ⟨gb597, 0, none⟩ = some (.int .i64 0) := (blk_cell BK597.out 0).trans rfl; have hcz28_1 : w26.cell? ⟨gb597, 1, none⟩ = some (.slice none 0 0) := (blk_cell BK597.out 1).trans rfl; have hfz28_0 := blk_frozen BK597.out 0; have hfz28_1 := blk_frozen BK597.out 1; obtain ⟨Ao29, co29, eo29⟩ := Kd.R_slice HO595.out; subst eo29; have hcz30_0 : w26.cell? ⟨gb583, 0, none⟩ = some (.int .i64 a0_0) := (blk_cell BK583.out 0).trans rfl; have hcz30_1 : w26.cell? ⟨gb583, 1, none⟩ = some (.slice A0_1 l0_1.length c0_1) := (blk_cell BK583.out 1).trans rfl; have hfz30_0 := blk_frozen BK583.out 0; have hfz30_1 := blk_frozen BK583.out 1) | ((with_reducible refine gate_callee (f := 20) rfl ?_); refine goesL_ (some 34) rfl rfl Try.func20 (by kernel_rfl) rfl #[.agg #[.int .i64 a0_0, .slice A0_1 l0_1.length c0_1]] rfl (by (try simp only [List.map_toArray, List.map_cons, List.map_nil]); first | done | rfl | (simp only [List.length_drop, List.length_take]; rfl)) ?_; (with_reducible refine (laws_toOrder.calls k a0_0 _ _ l0_1 t598 t599 _ ?side1 ?side2 A13.out).mono ?_); (case side1 => exact Kd.C_below HR0_1.out (by repeat (first | (with_reducible first | exact HB.out | apply below_alloc | apply pw_below_drewN | apply below_drew1 | refine below_set ?_ GE583.out | refine below_set ?_ GE597.out) | exact HB.out))); (case side2 => exact HC0_1.out); rintro e w31 ⟨v600, rfl, ho0, hb⟩; refine ⟨_, rfl, ?_⟩; have n0_ := Aside0.mk (Kd.R_elder' (by (with_reducible repeat (first | apply Kd.R_alloc | apply Kd.R_drewN | apply Kd.R_drew)); exact (Kd.R_mono (Kd.R_far (p := ⟨gb597, 1, none⟩) (Kd.R_far (p := ⟨gb597, 0, none⟩) (Kd.R_types HO588.out BK597.out (by decide)) (fun _ hk => hk.2) (.int .i64 t592)) (fun _ hk => hk.2) (.slice Ao29 t593.length co29)) (fun _ h_ => h_.1))) (Kd.R_base ho0) hb); have n1_ := Aside0.mk (Kd.R_elder' (by (with_reducible repeat (first | apply Kd.R_alloc | apply Kd.R_drewN | apply Kd.R_drew)); exact (Kd.R_mono (Kd.R_far (p := ⟨gb597, 1, none⟩) (Kd.R_far (p := ⟨gb597, 0, none⟩) (Kd.R_types HO591.out BK597.out (by decide)) (fun _ hk => hk.2) (.int .i64 t592)) (fun _ hk => hk.2) (.slice Ao29 t593.length co29)) (fun _ h_ => h_.1))) (Kd.R_base ho0) hb); have n2_ := Aside0.mk (Kd.R_elder' (by (with_reducible repeat (first | apply Kd.R_alloc | apply Kd.R_drewN | apply Kd.R_drew)); exact (Kd.R_mono (Kd.R_far (p := ⟨gb597, 1, none⟩) (Kd.R_far (p := ⟨gb597, 0, none⟩) (Kd.R_types HO595.out BK597.out (by decide)) (fun _ hk => hk.2) (.int .i64 t592)) (fun _ hk => hk.2) (.slice Ao29 t593.length co29)) (fun _ h_ => h_.1))) (Kd.R_base ho0) hb); have n3_ := Aside0.mk (Kd.R_lower (Kd.R_new' (Kd.R_new' (Kd.R_new' ho0 (Kd.R_lt (by (with_reducible repeat (first | apply Kd.R_alloc | apply Kd.R_drewN | apply Kd.R_drew)); exact (Kd.R_mono (Kd.R_far (p := ⟨gb597, 1, none⟩) (Kd.R_far (p := ⟨gb597, 0, none⟩) (Kd.R_types HO588.out BK597.out (by decide)) (fun _ hk => hk.2) (.int .i64 t592)) (fun _ hk => hk.2) (.slice Ao29 t593.length co29)) (fun _ h_ => h_.1))))) (Kd.R_lt (by (with_reducible repeat (first | apply Kd.R_alloc | apply Kd.R_drewN | apply Kd.R_drew)); exact (Kd.R_mono (Kd.R_far (p := ⟨gb597, 1, none⟩) (Kd.R_far (p := ⟨gb597, 0, none⟩) (Kd.R_types HO591.out BK597.out (by decide)) (fun _ hk => hk.2) (.int .i64 t592)) (fun _ hk => hk.2) (.slice Ao29 t593.length co29)) (fun _ h_ => h_.1))))) (Kd.R_lt (by (with_reducible repeat (first | apply Kd.R_alloc | apply Kd.R_drewN | apply Kd.R_drew)); exact (Kd.R_mono (Kd.R_far (p := ⟨gb597, 1, none⟩) (Kd.R_far (p := ⟨gb597, 0, none⟩) (Kd.R_types HO595.out BK597.out (by decide)) (fun _ hk => hk.2) (.int .i64 t592)) (fun _ hk => hk.2) (.slice Ao29 t593.length co29)) (fun _ h_ => h_.1))))) (below_size (by repeat (first | (with_reducible first | exact HB.out | apply below_alloc | apply pw_below_drewN | apply below_drew1 | refine below_set ?_ GE583.out | refine below_set ?_ GE597.out) | exact HB.out)))); have n4_ := Aside0.mk (blk_below (g := gb583) (o := .cells #[.int .i64 a0_0, .slice A0_1 l0_1.length c0_1] 33 (0, 0)) (by (with_reducible repeat (first | refine blk_drewN ?_ _ | refine blk_drew ?_ | refine blk_alloc ?_ _)); refine blk_far ?_ NB583_597.out _; (with_reducible repeat (first | refine blk_drewN ?_ _ | refine blk_drew ?_ | refine blk_alloc ?_ _)); refine blk_far ?_ NB583_597.out _; (with_reducible repeat (first | refine blk_drewN ?_ _ | refine blk_drew ?_ | refine blk_alloc ?_ _)); exact BK583.out) hb); have n5_ := Aside0.mk (blk_below (g := gb597) (o := .cells #[.int .i64 t592, .slice Ao29 t593.length co29] 37 (0, 0)) (by (with_reducible repeat (first | refine blk_drewN ?_ _ | refine blk_drew ?_ | refine blk_alloc ?_ _)); refine blk_put (cs := #[.int .i64 t592, .slice none 0 0]) ?_ 1 _ rfl; (with_reducible repeat (first | refine blk_drewN ?_ _ | refine blk_drew ?_ | refine blk_alloc ?_ _)); refine blk_put (cs := #[.int .i64 0, .slice none 0 0]) ?_ 0 _ rfl; (with_reducible repeat (first | refine blk_drewN ?_ _ | refine blk_drew ?_ | refine blk_alloc ?_ _)); exact BK597.out) hb); have n6_ := Aside0.mk (below_step (by repeat (first | (with_reducible first | exact HB.out | apply below_alloc | apply pw_below_drewN | apply below_drew1 | refine below_set ?_ GE583.out | refine below_set ?_ GE597.out) | exact HB.out)) hb); clear HO588; clear HO591; clear HO595; clear BK583; clear BK597; clear HB; have HO588 := n0_; have HO591 := n1_; have HO595 := n2_; have HO601 := n3_; have BK583 := n4_; have BK597 := n5_; have HB := n6_; clear n0_ n1_ n2_ n3_ n4_ n5_ n6_; (try clear hb); (try clear hb2); (try clear hk); (try clear hi); (try clear ho0)) | ((with_reducible refine gate_dst (N := 8) rfl ?_); refine box_event ?hg (N := 8) ?hd (cs := #[.int .i64 0, .slice none 0 0]) (t := 37) ?hr ?_; (case hd => rfl); (case hg => rfl); (case hr => first | (go_simp; done) | (go_simp; rfl)); intro gb602 hg w32 hbox hb; have n0_ := Aside0.mk (Kd.R_below (by (with_reducible repeat (first | apply Kd.R_alloc | apply Kd.R_drewN | apply Kd.R_drew)); exact HO588.out) hb); have n1_ := Aside0.mk (Kd.R_below (by (with_reducible repeat (first | apply Kd.R_alloc | apply Kd.R_drewN | apply Kd.R_drew)); exact HO591.out) hb); have n2_ := Aside0.mk (Kd.R_below (by (with_reducible repeat (first | apply Kd.R_alloc | apply Kd.R_drewN | apply Kd.R_drew)); exact HO595.out) hb); have n3_ := Aside0.mk (Kd.R_below (by (with_reducible repeat (first | apply Kd.R_alloc | apply Kd.R_drewN | apply Kd.R_drew)); exact HO601.out) hb); have n4_ := Aside0.mk (blk_below (g := gb583) (o := .cells #[.int .i64 a0_0, .slice A0_1 l0_1.length c0_1] 33 (0, 0)) (by (with_reducible repeat (first | refine blk_drewN ?_ _ | refine blk_drew ?_ | refine blk_alloc ?_ _)); exact BK583.out) hb); have n5_ := Aside0.mk (blk_below (g := gb597) (o := .cells #[.int .i64 t592, .slice Ao29 t593.length co29] 37 (0, 0)) (by (with_reducible repeat (first | refine blk_drewN ?_ _ | refine blk_drew ?_ | refine blk_alloc ?_ _)); exact BK597.out) hb); have n6_ := Aside0.mk (below_step (by repeat (first | (with_reducible first | exact HB.out | apply below_alloc | apply pw_below_drewN | apply below_drew1 | refine below_set ?_ GE583.out | refine below_set ?_ GE597.out) | exact HB.out)) hb); have n7_ := Aside0.mk (hbox); have n8_ := Aside0.mk ((by rw [hg]; exact (below_size (by repeat (first | (with_reducible first | exact HB.out | apply below_alloc | apply pw_below_drewN | apply below_drew1 | refine below_set ?_ GE583.out | refine below_set ?_ GE597.out) | exact HB.out))) : w.heap.size ≤ gb602)); have n9_ := Aside0.mk ((by rw [hg]; exact (below_size (by repeat (first | (with_reducible first | exact HB.out | apply below_alloc | apply pw_below_drewN | apply below_drew1 | refine below_set ?_ GE583.out | refine below_set ?_ GE597.out) | exact HB.out))) : w.heap.size ≤ gb602)); have n10_ := Aside0.mk ((by rw [hg]; exact Nat.ne_of_lt (blk_lt (g := gb583) (o := .cells #[.int .i64 a0_0, .slice A0_1 l0_1.length c0_1] 33 (0, 0)) (by (with_reducible repeat (first | refine blk_drewN ?_ _ | refine blk_drew ?_ | refine blk_alloc ?_ _)); exact BK583.out)) : gb583 ≠ gb602)); have n11_ := Aside0.mk ((by rw [hg]; exact Nat.ne_of_gt (blk_lt (g := gb583) (o := .cells #[.int .i64 a0_0, .slice A0_1 l0_1.length c0_1] 33 (0, 0)) (by (with_reducible repeat (first | refine blk_drewN ?_ _ | refine blk_drew ?_ | refine blk_alloc ?_ _)); exact BK583.out)) : gb602 ≠ gb583)); have n12_ := Aside0.mk ((by rw [hg]; exact Nat.ne_of_lt (blk_lt (g := gb597) (o := .cells #[.int .i64 t592, .slice Ao29 t593.length co29] 37 (0, 0)) (by (with_reducible repeat (first | refine blk_drewN ?_ _ | refine blk_drew ?_ | refine blk_alloc ?_ _)); exact BK597.out)) : gb597 ≠ gb602)); have n13_ := Aside0.mk ((by rw [hg]; exact Nat.ne_of_gt (blk_lt (g := gb597) (o := .cells #[.int .i64 t592, .slice Ao29 t593.length co29] 37 (0, 0)) (by (with_reducible repeat (first | refine blk_drewN ?_ _ | refine blk_drew ?_ | refine blk_alloc ?_ _)); exact BK597.out)) : gb602 ≠ gb597)); clear HO588; clear HO591; clear HO595; clear HO601; clear BK583; clear BK597; clear HB; have HO588 := n0_; have HO591 := n1_; have HO595 := n2_; have HO601 := n3_; have BK583 := n4_; have BK597 := n5_; have HB := n6_; have BK602 := n7_; have GW602 := n8_; have GE602 := n9_; have NB583_602 := n10_; have NB602_583 := n11_; have NB597_602 := n12_; have NB602_597 := n13_; clear n0_ n1_ n2_ n3_ n4_ n5_ n6_ n7_ n8_ n9_ n10_ n11_ n12_ n13_; clear hb hbox hg; have hnb33 := NB602_583.out; have hnc33 := NB583_602.out; have hnb34 := NB602_597.out; have hnc34 := NB597_602.out; have hcz35_0 : w32.cell? ⟨gb602, 0, none⟩ = some (.int .i64 0) := (blk_cell BK602.out 0).trans rfl; have hcz35_1 : w32.cell? ⟨gb602, 1, none⟩ = some (.slice none 0 0) := (blk_cell BK602.out 1).trans rfl; have hfz35_0 := blk_frozen BK602.out 0; have hfz35_1 := blk_frozen BK602.out 1; obtain ⟨Ao36, co36, eo36⟩ := Kd.R_slice HO601.out; subst eo36) | ((with_reducible refine gate_callee (f := 34) rfl ?_); refine goesL_ (some 36) rfl rfl Try.func34 (by kernel_rfl) rfl #[.slice A1 l1.length c1] rfl (by (try simp only [List.map_toArray, List.map_cons, List.map_nil]); first | done | rfl | (simp only [List.length_drop, List.length_take]; rfl)) ?_; (with_reducible refine (laws_toIntS.calls k _ _ l1 t603 _ ?side1 ?side2 A14.out).mono ?_); (case side1 => exact Kd.C_below HR1.out (by repeat (first | (with_reducible first | exact HB.out | apply below_alloc | apply pw_below_drewN | apply below_drew1 | refine below_set ?_ GE583.out | refine below_set ?_ GE597.out | refine below_set ?_ GE602.out) | exact HB.out))); (case side2 => exact HC1.out); rintro e w37 ⟨v604, rfl, ho0, hb⟩; refine ⟨_, rfl, ?_⟩; have n0_ := Aside0.mk (Kd.R_elder' (by (with_reducible repeat (first | apply Kd.R_alloc | apply Kd.R_drewN | apply Kd.R_drew)); exact (Kd.R_mono (Kd.R_far (p := ⟨gb602, 1, none⟩) (Kd.R_far (p := ⟨gb602, 0, none⟩) (Kd.R_types HO588.out BK602.out (by decide)) (fun _ hk => hk.2) (.int .i64 t598)) (fun _ hk => hk.2) (.slice Ao36 t599.length co36)) (fun _ h_ => h_.1))) (Kd.R_base ho0) hb); have n1_ := Aside0.mk (Kd.R_elder' (by (with_reducible repeat (first | apply Kd.R_alloc | apply Kd.R_drewN | apply Kd.R_drew)); exact (Kd.R_mono (Kd.R_far (p := ⟨gb602, 1, none⟩) (Kd.R_far (p := ⟨gb602, 0, none⟩) (Kd.R_types HO591.out BK602.out (by decide)) (fun _ hk => hk.2) (.int .i64 t598)) (fun _ hk => hk.2) (.slice Ao36 t599.length co36)) (fun _ h_ => h_.1))) (Kd.R_base ho0) hb); have n2_ := Aside0.mk (Kd.R_elder' (by (with_reducible repeat (first | apply Kd.R_alloc | apply Kd.R_drewN | apply Kd.R_drew)); exact (Kd.R_mono (Kd.R_far (p := ⟨gb602, 1, none⟩) (Kd.R_far (p := ⟨gb602, 0, none⟩) (Kd.R_types HO595.out BK602.out (by decide)) (fun _ hk => hk.2) (.int .i64 t598)) (fun _ hk => hk.2) (.slice Ao36 t599.length co36)) (fun _ h_ => h_.1))) (Kd.R_base ho0) hb); have n3_ := Aside0.mk (Kd.R_elder' (by (with_reducible repeat (first | apply Kd.R_alloc | apply Kd.R_drewN | apply Kd.R_drew)); exact (Kd.R_mono (Kd.R_far (p := ⟨gb602, 1, none⟩) (Kd.R_far (p := ⟨gb602, 0, none⟩) (Kd.R_types HO601.out BK602.out (by decide)) (fun _ hk => hk.2) (.int .i64 t598)) (fun _ hk => hk.2) (.slice Ao36 t599.length co36)) (fun _ h_ => h_.1))) (Kd.R_base ho0) hb); have n4_ := Aside0.mk (Kd.R_lower (Kd.R_new' (Kd.R_new' (Kd.R_new' (Kd.R_new' ho0 (Kd.R_lt (by (with_reducible repeat (first | apply Kd.R_alloc | apply Kd.R_drewN | apply Kd.R_drew)); exact (Kd.R_mono (Kd.R_far (p := ⟨gb602, 1, none⟩) (Kd.R_far (p := ⟨gb602, 0, none⟩) (Kd.R_types HO588.out BK602.out (by decide)) (fun _ hk => hk.2) (.int .i64 t598)) (fun _ hk => hk.2) (.slice Ao36 t599.length co36)) (fun _ h_ => h_.1))))) (Kd.R_lt (by (with_reducible repeat (first | apply Kd.R_alloc | apply Kd.R_drewN | apply Kd.R_drew)); exact (Kd.R_mono (Kd.R_far (p := ⟨gb602, 1, none⟩) (Kd.R_far (p := ⟨gb602, 0, none⟩) (Kd.R_types HO591.out BK602.out (by decide)) (fun _ hk => hk.2) (.int .i64 t598)) (fun _ hk => hk.2) (.slice Ao36 t599.length co36)) (fun _ h_ => h_.1))))) (Kd.R_lt (by (with_reducible repeat (first | apply Kd.R_alloc | apply Kd.R_drewN | apply Kd.R_drew)); exact (Kd.R_mono (Kd.R_far (p := ⟨gb602, 1, none⟩) (Kd.R_far (p := ⟨gb602, 0, none⟩) (Kd.R_types HO595.out BK602.out (by decide)) (fun _ hk => hk.2) (.int .i64 t598)) (fun _ hk => hk.2) (.slice Ao36 t599.length co36)) (fun _ h_ => h_.1))))) (Kd.R_lt (by (with_reducible repeat (first | apply Kd.R_alloc | apply Kd.R_drewN | apply Kd.R_drew)); exact (Kd.R_mono (Kd.R_far (p := ⟨gb602, 1, none⟩) (Kd.R_far (p := ⟨gb602, 0, none⟩) (Kd.R_types HO601.out BK602.out (by decide)) (fun _ hk => hk.2) (.int .i64 t598)) (fun _ hk => hk.2) (.slice Ao36 t599.length co36)) (fun _ h_ => h_.1))))) (below_size (by repeat (first | (with_reducible first | exact HB.out | apply below_alloc | apply pw_below_drewN | apply below_drew1 | refine below_set ?_ GE583.out | refine below_set ?_ GE597.out | refine below_set ?_ GE602.out) | exact HB.out)))); have n5_ := Aside0.mk (blk_below (g := gb583) (o := .cells #[.int .i64 a0_0, .slice A0_1 l0_1.length c0_1] 33 (0, 0)) (by (with_reducible repeat (first | refine blk_drewN ?_ _ | refine blk_drew ?_ | refine blk_alloc ?_ _)); refine blk_far ?_ NB583_602.out _; (with_reducible repeat (first | refine blk_drewN ?_ _ | refine blk_drew ?_ | refine blk_alloc ?_ _)); refine blk_far ?_ NB583_602.out _; (with_reducible repeat (first | refine blk_drewN ?_ _ | refine blk_drew ?_ | refine blk_alloc ?_ _)); exact BK583.out) hb); have n6_ := Aside0.mk (blk_below (g := gb597) (o := .cells #[.int .i64 t592, .slice Ao29 t593.length co29] 37 (0, 0)) (by (with_reducible repeat (first | refine blk_drewN ?_ _ | refine blk_drew ?_ | refine blk_alloc ?_ _)); refine blk_far ?_ NB597_602.out _; (with_reducible repeat (first | refine blk_drewN ?_ _ | refine blk_drew ?_ | refine blk_alloc ?_ _)); refine blk_far ?_ NB597_602.out _; (with_reducible repeat (first | refine blk_drewN ?_ _ | refine blk_drew ?_ | refine blk_alloc ?_ _)); exact BK597.out) hb); have n7_ := Aside0.mk (blk_below (g := gb602) (o := .cells #[.int .i64 t598, .slice Ao36 t599.length co36] 37 (0, 0)) (by (with_reducible repeat (first | refine blk_drewN ?_ _ | refine blk_drew ?_ | refine blk_alloc ?_ _)); refine blk_put (cs := #[.int .i64 t598, .slice none 0 0]) ?_ 1 _ rfl; (with_reducible repeat (first | refine blk_drewN ?_ _ | refine blk_drew ?_ | refine blk_alloc ?_ _)); refine blk_put (cs := #[.int .i64 0, .slice none 0 0]) ?_ 0 _ rfl; (with_reducible repeat (first | refine blk_drewN ?_ _ | refine blk_drew ?_ | refine blk_alloc ?_ _)); exact BK602.out) hb); have n8_ := Aside0.mk (below_step (by repeat (first | (with_reducible first | exact HB.out | apply below_alloc | apply pw_below_drewN | apply below_drew1 | refine below_set ?_ GE583.out | refine below_set ?_ GE597.out | refine below_set ?_ GE602.out) | exact HB.out)) hb); clear HO588; clear HO591; clear HO595; clear HO601; clear BK583; clear BK597; clear BK602; clear HB; have HO588 := n0_; have HO591 := n1_; have HO595 := n2_; have HO601 := n3_; have HO605 := n4_; have BK583 := n5_; have BK597 := n6_; have BK602 := n7_; have HB := n8_; clear n0_ n1_ n2_ n3_ n4_ n5_ n6_ n7_ n8_; (try clear hb); (try clear hb2); (try clear hk); (try clear hi); (try clear ho0); have hcz38_0 : w37.cell? ⟨gb602, 0, none⟩ = some (.int .i64 t598) := (blk_cell BK602.out 0).trans rfl; have hcz38_1 : w37.cell? ⟨gb602, 1, none⟩ = some (.slice Ao36 t599.length co36) := (blk_cell BK602.out 1).trans rfl; have hfz38_0 := blk_frozen BK602.out 0; have hfz38_1 := blk_frozen BK602.out 1; obtain ⟨Ao39, co39, eo39⟩ := Kd.R_slice HO605.out; subst eo39) | ((with_reducible refine gate_callee (f := 35) rfl ?_); refine goesL_ (some 40) rfl rfl Try.func35 (by kernel_rfl) rfl #[.agg #[.int .i64 t598, .slice Ao36 t599.length co36], .slice Ao39 t603.length co39] rfl (by (try simp only [List.map_toArray, List.map_cons, List.map_nil]); first | done | rfl | (simp only [List.length_drop, List.length_take]; rfl)) ?_; (with_reducible refine (impl_PartOf.calls k t598 _ _ t599 _ _ t603 t606 t607 t610 _ ?side1 ?side2 ?side3 ?side4 A15.out).mono ?_); (case side1 => repeat (first | exact (Kd.R_reads' HO601.out).2.2 | (with_reducible refine Kd.C_alloc ?_ _) | (with_reducible refine Kd.C_drewN ?_ _) | (with_reducible refine Kd.C_drew ?_))); (case side2 => exact (Kd.R_reads' HO601.out).2.1); (case side3 => repeat (first | exact (Kd.R_reads' HO605.out).2.2 | (with_reducible refine Kd.C_alloc ?_ _) | (with_reducible refine Kd.C_drewN ?_ _) | (with_reducible refine Kd.C_drew ?_))); (case side4 => exact (Kd.R_reads' HO605.out).2.1); rintro e w40 ⟨v608, rfl, ho0, hb⟩; refine ⟨_, rfl, ?_⟩; have n0_ := Aside0.mk (Kd.R_elder' (by (with_reducible repeat (first | apply Kd.R_alloc | apply Kd.R_drewN | apply Kd.R_drew)); exact HO588.out) (Kd.R_base ho0) hb); have n1_ := Aside0.mk (Kd.R_elder' (by (with_reducible repeat (first | apply Kd.R_alloc | apply Kd.R_drewN | apply Kd.R_drew)); exact HO591.out) (Kd.R_base ho0) hb); have n2_ := Aside0.mk (Kd.R_elder' (by (with_reducible repeat (first | apply Kd.R_alloc | apply Kd.R_drewN | apply Kd.R_drew)); exact HO595.out) (Kd.R_base ho0) hb); have n3_ := Aside0.mk (Kd.R_elder' (by (with_reducible repeat (first | apply Kd.R_alloc | apply Kd.R_drewN | apply Kd.R_drew)); exact HO601.out) (Kd.R_base ho0) hb); have n4_ := Aside0.mk (Kd.R_elder' (by (with_reducible repeat (first | apply Kd.R_alloc | apply Kd.R_drewN | apply Kd.R_drew)); exact HO605.out) (Kd.R_base ho0) hb); have n5_ := Aside0.mk (Kd.R_lower (Kd.R_new' (Kd.R_new' (Kd.R_new' (Kd.R_new' (Kd.R_new' ho0 (Kd.R_lt (by (with_reducible repeat (first | apply Kd.R_alloc | apply Kd.R_drewN | apply Kd.R_drew)); exact HO588.out))) (Kd.R_lt (by (with_reducible repeat (first | apply Kd.R_alloc | apply Kd.R_drewN | apply Kd.R_drew)); exact HO591.out))) (Kd.R_lt (by (with_reducible repeat (first | apply Kd.R_alloc | apply Kd.R_drewN | apply Kd.R_drew)); exact HO595.out))) (Kd.R_lt (by (with_reducible repeat (first | apply Kd.R_alloc | apply Kd.R_drewN | apply Kd.R_drew)); exact HO601.out))) (Kd.R_lt (by (with_reducible repeat (first | apply Kd.R_alloc | apply Kd.R_drewN | apply Kd.R_drew)); exact HO605.out))) (below_size (by repeat (first | (with_reducible first | exact HB.out | apply below_alloc | apply pw_below_drewN | apply below_drew1 | refine below_set ?_ GE583.out | refine below_set ?_ GE597.out | refine below_set ?_ GE602.out) | exact HB.out)))); have n6_ := Aside0.mk (blk_below (g := gb583) (o := .cells #[.int .i64 a0_0, .slice A0_1 l0_1.length c0_1] 33 (0, 0)) (by (with_reducible repeat (first | refine blk_drewN ?_ _ | refine blk_drew ?_ | refine blk_alloc ?_ _)); exact BK583.out) hb); have n7_ := Aside0.mk (blk_below (g := gb597) (o := .cells #[.int .i64 t592, .slice Ao29 t593.length co29] 37 (0, 0)) (by (with_reducible repeat (first | refine blk_drewN ?_ _ | refine blk_drew ?_ | refine blk_alloc ?_ _)); exact BK597.out) hb); have n8_ := Aside0.mk (blk_below (g := gb602) (o := .cells #[.int .i64 t598, .slice Ao36 t599.length co36] 37 (0, 0)) (by (with_reducible repeat (first | refine blk_drewN ?_ _ | refine blk_drew ?_ | refine blk_alloc ?_ _)); exact BK602.out) hb); have n9_ := Aside0.mk (below_step (by repeat (first | (with_reducible first | exact HB.out | apply below_alloc | apply pw_below_drewN | apply below_drew1 | refine below_set ?_ GE583.out | refine below_set ?_ GE597.out | refine below_set ?_ GE602.out) | exact HB.out)) hb); clear HO588; clear HO591; clear HO595; clear HO601; clear HO605; clear BK583; clear BK597; clear BK602; clear HB; have HO588 := n0_; have HO591 := n1_; have HO595 := n2_; have HO601 := n3_; have HO605 := n4_; have HO609 := n5_; have BK583 := n6_; have BK597 := n7_; have BK602 := n8_; have HB := n9_; clear n0_ n1_ n2_ n3_ n4_ n5_ n6_ n7_ n8_ n9_; (try clear hb); (try clear hb2); (try clear hk); (try clear hi); (try clear ho0)) | ((with_reducible refine gate_dst (N := 10) rfl ?_); refine box_event ?hg (N := 10) ?hd (cs := #[.int .i64 0, .slice none 0 0]) (t := 37) ?hr ?_; (case hd => rfl); (case hg => rfl); (case hr => first | (go_simp; done) | (go_simp; rfl)); intro gb611 hg w41 hbox hb; have n0_ := Aside0.mk (Kd.R_below (by (with_reducible repeat (first | apply Kd.R_alloc | apply Kd.R_drewN | apply Kd.R_drew)); exact HO588.out) hb); have n1_ := Aside0.mk (Kd.R_below (by (with_reducible repeat (first | apply Kd.R_alloc | apply Kd.R_drewN | apply Kd.R_drew)); exact HO591.out) hb); have n2_ := Aside0.mk (Kd.R_below (by (with_reducible repeat (first | apply Kd.R_alloc | apply Kd.R_drewN | apply Kd.R_drew)); exact HO595.out) hb); have n3_ := Aside0.mk (Kd.R_below (by (with_reducible repeat (first | apply Kd.R_alloc | apply Kd.R_drewN | apply Kd.R_drew)); exact HO601.out) hb); have n4_ := Aside0.mk (Kd.R_below (by (with_reducible repeat (first | apply Kd.R_alloc | apply Kd.R_drewN | apply Kd.R_drew)); exact HO605.out) hb); have n5_ := Aside0.mk (Kd.R_below (by (with_reducible repeat (first | apply Kd.R_alloc | apply Kd.R_drewN | apply Kd.R_drew)); exact HO609.out) hb); have n6_ := Aside0.mk (blk_below (g := gb583) (o := .cells #[.int .i64 a0_0, .slice A0_1 l0_1.length c0_1] 33 (0, 0)) (by (with_reducible repeat (first | refine blk_drewN ?_ _ | refine blk_drew ?_ | refine blk_alloc ?_ _)); exact BK583.out) hb); have n7_ := Aside0.mk (blk_below (g := gb597) (o := .cells #[.int .i64 t592, .slice Ao29 t593.length co29] 37 (0, 0)) (by (with_reducible repeat (first | refine blk_drewN ?_ _ | refine blk_drew ?_ | refine blk_alloc ?_ _)); exact BK597.out) hb); have n8_ := Aside0.mk (blk_below (g := gb602) (o := .cells #[.int .i64 t598, .slice Ao36 t599.length co36] 37 (0, 0)) (by (with_reducible repeat (first | refine blk_drewN ?_ _ | refine blk_drew ?_ | refine blk_alloc ?_ _)); exact BK602.out) hb); have n9_ := Aside0.mk (below_step (by repeat (first | (with_reducible first | exact HB.out | apply below_alloc | apply pw_below_drewN | apply below_drew1 | refine below_set ?_ GE583.out | refine below_set ?_ GE597.out | refine below_set ?_ GE602.out) | exact HB.out)) hb); have n10_ := Aside0.mk (hbox); have n11_ := Aside0.mk ((by rw [hg]; exact (below_size (by repeat (first | (with_reducible first | exact HB.out | apply below_alloc | apply pw_below_drewN | apply below_drew1 | refine below_set ?_ GE583.out | refine below_set ?_ GE597.out | refine below_set ?_ GE602.out) | exact HB.out))) : w.heap.size ≤ gb611)); have n12_ := Aside0.mk ((by rw [hg]; exact (below_size (by repeat (first | (with_reducible first | exact HB.out | apply below_alloc | apply pw_below_drewN | apply below_drew1 | refine below_set ?_ GE583.out | refine below_set ?_ GE597.out | refine below_set ?_ GE602.out) | exact HB.out))) : w.heap.size ≤ gb611)); have n13_ := Aside0.mk ((by rw [hg]; exact Nat.ne_of_lt (blk_lt (g := gb583) (o := .cells #[.int .i64 a0_0, .slice A0_1 l0_1.length c0_1] 33 (0, 0)) (by (with_reducible repeat (first | refine blk_drewN ?_ _ | refine blk_drew ?_ | refine blk_alloc ?_ _)); exact BK583.out)) : gb583 ≠ gb611)); have n14_ := Aside0.mk ((by rw [hg]; exact Nat.ne_of_gt (blk_lt (g := gb583) (o := .cells #[.int .i64 a0_0, .slice A0_1 l0_1.length c0_1] 33 (0, 0)) (by (with_reducible repeat (first | refine blk_drewN ?_ _ | refine blk_drew ?_ | refine blk_alloc ?_ _)); exact BK583.out)) : gb611 ≠ gb583)); have n15_ := Aside0.mk ((by rw [hg]; exact Nat.ne_of_lt (blk_lt (g := gb597) (o := .cells #[.int .i64 t592, .slice Ao29 t593.length co29] 37 (0, 0)) (by (with_reducible repeat (first | refine blk_drewN ?_ _ | refine blk_drew ?_ | refine blk_alloc ?_ _)); exact BK597.out)) : gb597 ≠ gb611)); have n16_ := Aside0.mk ((by rw [hg]; exact Nat.ne_of_gt (blk_lt (g := gb597) (o := .cells #[.int .i64 t592, .slice Ao29 t593.length co29] 37 (0, 0)) (by (with_reducible repeat (first | refine blk_drewN ?_ _ | refine blk_drew ?_ | refine blk_alloc ?_ _)); exact BK597.out)) : gb611 ≠ gb597)); have n17_ := Aside0.mk ((by rw [hg]; exact Nat.ne_of_lt (blk_lt (g := gb602) (o := .cells #[.int .i64 t598, .slice Ao36 t599.length co36] 37 (0, 0)) (by (with_reducible repeat (first | refine blk_drewN ?_ _ | refine blk_drew ?_ | refine blk_alloc ?_ _)); exact BK602.out)) : gb602 ≠ gb611)); have n18_ := Aside0.mk ((by rw [hg]; exact Nat.ne_of_gt (blk_lt (g := gb602) (o := .cells #[.int .i64 t598, .slice Ao36 t599.length co36] 37 (0, 0)) (by (with_reducible repeat (first | refine blk_drewN ?_ _ | refine blk_drew ?_ | refine blk_alloc ?_ _)); exact BK602.out)) : gb611 ≠ gb602)); clear HO588; clear HO591; clear HO595; clear HO601; clear HO605; clear HO609; clear BK583; clear BK597; clear BK602; clear HB; have HO588 := n0_; have HO591 := n1_; have HO595 := n2_; have HO601 := n3_; have HO605 := n4_; have HO609 := n5_; have BK583 := n6_; have BK597 := n7_; have BK602 := n8_; have HB := n9_; have BK611 := n10_; have GW611 := n11_; have GE611 := n12_; have NB583_611 := n13_; have NB611_583 := n14_; have NB597_611 := n15_; have NB611_597 := n16_; have NB602_611 := n17_; have NB611_602 := n18_; clear n0_ n1_ n2_ n3_ n4_ n5_ n6_ n7_ n8_ n9_ n10_ n11_ n12_ n13_ n14_ n15_ n16_ n17_ n18_; clear hb hbox hg; have hnb42 := NB611_583.out; have hnc42 := NB583_611.out; have hnb43 := NB611_597.out; have hnc43 := NB597_611.out; have hnb44 := NB611_602.out; have hnc44 := NB602_611.out; have hcz45_0 : w41.cell? ⟨gb611, 0, none⟩ = some (.int .i64 0) := (blk_cell BK611.out 0).trans rfl; have hcz45_1 : w41.cell? ⟨gb611, 1, none⟩ = some (.slice none 0 0) := (blk_cell BK611.out 1).trans rfl; have hfz45_0 := blk_frozen BK611.out 0; have hfz45_1 := blk_frozen BK611.out 1; obtain ⟨Ao46, co46, eo46⟩ := Kd.R_slice HO609.out; subst eo46))
      (try simp only [Act.put, List.setIfInBounds_toArray, List.set_cons_zero, List.set_cons_succ])
      go_cut [51] (fun v51 wc => ∃ (kq : Nat) (x51_15 : Bool), v51 = .bool x51_15 ∧ Aside0 (laws_FnExactPartOf.j0 kq l1 t596 t603 t610 x51_15 a0_0 l0_1 t592 t593 t598 t599 t606 t607 = some r) ∧ Aside0 (kq ≤ k) ∧ Aside0 (Kd.R (Kd.int .i64) 3 wc w.heap.size (fun k_ => some k_ ≠ ((.slice Ao29 t593.length co29) : Value).ownBlock ∧ some k_ ≠ ((.slice Ao36 t599.length co36) : Value).ownBlock ∧ some k_ ≠ ((.slice Ao46 t607.length co46) : Value).ownBlock) (.slice Ao39 t603.length co39) t603) ∧ Aside0 (Kd.R (Kd.int .i64) 3 wc w.heap.size (fun k_ => some k_ ≠ ((.slice Ao39 t603.length co39) : Value).ownBlock ∧ some k_ ≠ ((.slice Ao36 t599.length co36) : Value).ownBlock ∧ some k_ ≠ ((.slice Ao46 t607.length co46) : Value).ownBlock) (.slice Ao29 t593.length co29) t593) ∧ Aside0 (Kd.R (Kd.int .i64) 3 wc w.heap.size (fun k_ => some k_ ≠ ((.slice Ao39 t603.length co39) : Value).ownBlock ∧ some k_ ≠ ((.slice Ao29 t593.length co29) : Value).ownBlock ∧ some k_ ≠ ((.slice Ao46 t607.length co46) : Value).ownBlock) (.slice Ao36 t599.length co36) t599) ∧ Aside0 (Kd.R (Kd.int .i64) 3 wc w.heap.size (fun k_ => some k_ ≠ ((.slice Ao39 t603.length co39) : Value).ownBlock ∧ some k_ ≠ ((.slice Ao29 t593.length co29) : Value).ownBlock ∧ some k_ ≠ ((.slice Ao36 t599.length co36) : Value).ownBlock) (.slice Ao46 t607.length co46) t607) ∧ Aside0 (wc.heap[gb583]? = some (.cells #[.int .i64 a0_0, (.slice A0_1 l0_1.length c0_1)] 33 (0, 0))) ∧ Aside0 (wc.heap[gb597]? = some (.cells #[.int .i64 t592, (.slice Ao29 t593.length co29)] 37 (0, 0))) ∧ Aside0 (wc.heap[gb602]? = some (.cells #[.int .i64 t598, (.slice Ao36 t599.length co36)] 37 (0, 0))) ∧ Aside0 (wc.heap[gb611]? = some (.cells #[.int .i64 t606, (.slice Ao46 t607.length co46)] 37 (0, 0))) ∧ Aside0 (Below w.heap.size w wc))
      case first =>
        have H := HC16.out
        clear HC16
        replace H := Option.bind_eq_some_iff.mp H
        obtain ⟨t612, A470, H⟩ := H
        replace H : (if t612 = true then (laws_FnExactPartOf.j0 k l1 t596 t603 t610 (t610 != t596) a0_0 l0_1 t592 t593 t598 t599 t606 t607) else (laws_FnExactPartOf.j0 k l1 t596 t603 t610 true a0_0 l0_1 t592 t593 t598 t599 t606 t607)) = some r := H
        have A47 := Aside0.mk A470
        clear A470
        by_cases c48 : t612 = true
        · subst c48
          have H1 : (laws_FnExactPartOf.j0 k l1 t596 t603 t610 (t610 != t596) a0_0 l0_1 t592 t593 t598 t599 t606 t607) = some r := by rw [if_pos rfl] at H; exact H
          clear H
          have H := H1
          clear H1
          have H' := Aside0.mk H
          clear H
          have hnb49 := NB611_583.out
          have hnc49 := NB583_611.out
          have hnb50 := NB611_597.out
          have hnc50 := NB597_611.out
          have hnb51 := NB611_602.out
          have hnc51 := NB602_611.out
          have hcz52_0 : w41.cell? ⟨gb611, 0, none⟩ = some (.int .i64 0) := (blk_cell BK611.out 0).trans rfl
          have hcz52_1 : w41.cell? ⟨gb611, 1, none⟩ = some (.slice none 0 0) := (blk_cell BK611.out 1).trans rfl
          have hfz52_0 := blk_frozen BK611.out 0
          have hfz52_1 := blk_frozen BK611.out 1
          have hnb53 := NB597_583.out
          have hnc53 := NB583_597.out
          have hnb54 := NB597_602.out
          have hnc54 := NB602_597.out
          have hcz55_0 : w41.cell? ⟨gb597, 0, none⟩ = some (.int .i64 t592) := (blk_cell BK597.out 0).trans rfl
          have hcz55_1 : w41.cell? ⟨gb597, 1, none⟩ = some (.slice Ao29 t593.length co29) := (blk_cell BK597.out 1).trans rfl
          have hfz55_0 := blk_frozen BK597.out 0
          have hfz55_1 := blk_frozen BK597.out 1
          go_wp2_with (first | ((with_reducible refine gate_callee (f := 22) rfl ?_); refine goesL_ (some 45) rfl rfl Try.func22 (by kernel_rfl) rfl #[.agg #[.int .i64 t606, .slice Ao46 t607.length co46], .agg #[.int .i64 t592, .slice Ao29 t593.length co29]] rfl (by (try simp only [List.map_toArray, List.map_cons, List.map_nil]); first | done | rfl | (simp only [List.length_drop, List.length_take]; rfl)) ?_; (with_reducible refine (laws_eqOrder.calls k t606 _ _ t607 t592 _ _ t593 true _ ?side1 ?side2 ?side3 ?side4 A47.out).mono ?_); (case side1 => refine (Kd.R_reads' (e := 3) (base := w.heap.size) (ok := fun k_ => (((((True ∧ some k_ ≠ (.slice Ao23 t586.length co23 : Value).ownBlock) ∧ some k_ ≠ (.slice Ao24 t589.length co24 : Value).ownBlock) ∧ some k_ ≠ (.slice Ao29 t593.length co29 : Value).ownBlock) ∧ some k_ ≠ (.slice Ao36 t599.length co36 : Value).ownBlock) ∧ some k_ ≠ (.slice Ao39 t603.length co39 : Value).ownBlock)) (n := t607.length) (c := co46) ?_).2.2; exact (by (with_reducible repeat (first | apply Kd.R_alloc | apply Kd.R_drewN | apply Kd.R_drew)); exact (Kd.R_mono (Kd.R_far (p := ⟨gb611, 1, none⟩) (Kd.R_far (p := ⟨gb611, 0, none⟩) (Kd.R_types HO609.out BK611.out (by decide)) (fun _ hk => hk.2) (.int .i64 t606)) (fun _ hk => hk.2) (.slice Ao46 t607.length co46)) (fun _ h_ => h_.1)))); (case side2 => exact (Kd.R_reads' HO609.out).2.1); (case side3 => refine (Kd.R_reads' (e := 3) (base := w.heap.size) (ok := fun k_ => (((((True ∧ some k_ ≠ (.slice Ao23 t586.length co23 : Value).ownBlock) ∧ some k_ ≠ (.slice Ao24 t589.length co24 : Value).ownBlock) ∧ some k_ ≠ (.slice Ao36 t599.length co36 : Value).ownBlock) ∧ some k_ ≠ (.slice Ao39 t603.length co39 : Value).ownBlock) ∧ some k_ ≠ (.slice Ao46 t607.length co46 : Value).ownBlock)) (n := t593.length) (c := co29) ?_).2.2; exact (by (with_reducible repeat (first | apply Kd.R_alloc | apply Kd.R_drewN | apply Kd.R_drew)); exact (Kd.R_mono (Kd.R_far (p := ⟨gb611, 1, none⟩) (Kd.R_far (p := ⟨gb611, 0, none⟩) (Kd.R_types HO595.out BK611.out (by decide)) (fun _ hk => hk.2) (.int .i64 t606)) (fun _ hk => hk.2) (.slice Ao46 t607.length co46)) (fun _ h_ => h_.1)))); (case side4 => exact (Kd.R_reads' HO595.out).2.1); rintro e w56 ⟨rfl, hb⟩; refine ⟨_, rfl, ?_⟩; have n0_ := Aside0.mk (Kd.R_below (by (with_reducible repeat (first | apply Kd.R_alloc | apply Kd.R_drewN | apply Kd.R_drew)); exact (Kd.R_mono (Kd.R_far (p := ⟨gb611, 1, none⟩) (Kd.R_far (p := ⟨gb611, 0, none⟩) (Kd.R_types HO588.out BK611.out (by decide)) (fun _ hk => hk.2) (.int .i64 t606)) (fun _ hk => hk.2) (.slice Ao46 t607.length co46)) (fun _ h_ => h_.1))) hb); have n1_ := Aside0.mk (Kd.R_below (by (with_reducible repeat (first | apply Kd.R_alloc | apply Kd.R_drewN | apply Kd.R_drew)); exact (Kd.R_mono (Kd.R_far (p := ⟨gb611, 1, none⟩) (Kd.R_far (p := ⟨gb611, 0, none⟩) (Kd.R_types HO591.out BK611.out (by decide)) (fun _ hk => hk.2) (.int .i64 t606)) (fun _ hk => hk.2) (.slice Ao46 t607.length co46)) (fun _ h_ => h_.1))) hb); have n2_ := Aside0.mk (Kd.R_below (by (with_reducible repeat (first | apply Kd.R_alloc | apply Kd.R_drewN | apply Kd.R_drew)); exact (Kd.R_mono (Kd.R_far (p := ⟨gb611, 1, none⟩) (Kd.R_far (p := ⟨gb611, 0, none⟩) (Kd.R_types HO595.out BK611.out (by decide)) (fun _ hk => hk.2) (.int .i64 t606)) (fun _ hk => hk.2) (.slice Ao46 t607.length co46)) (fun _ h_ => h_.1))) hb); have n3_ := Aside0.mk (Kd.R_below (by (with_reducible repeat (first | apply Kd.R_alloc | apply Kd.R_drewN | apply Kd.R_drew)); exact (Kd.R_mono (Kd.R_far (p := ⟨gb611, 1, none⟩) (Kd.R_far (p := ⟨gb611, 0, none⟩) (Kd.R_types HO601.out BK611.out (by decide)) (fun _ hk => hk.2) (.int .i64 t606)) (fun _ hk => hk.2) (.slice Ao46 t607.length co46)) (fun _ h_ => h_.1))) hb); have n4_ := Aside0.mk (Kd.R_below (by (with_reducible repeat (first | apply Kd.R_alloc | apply Kd.R_drewN | apply Kd.R_drew)); exact (Kd.R_mono (Kd.R_far (p := ⟨gb611, 1, none⟩) (Kd.R_far (p := ⟨gb611, 0, none⟩) (Kd.R_types HO605.out BK611.out (by decide)) (fun _ hk => hk.2) (.int .i64 t606)) (fun _ hk => hk.2) (.slice Ao46 t607.length co46)) (fun _ h_ => h_.1))) hb); have n5_ := Aside0.mk (Kd.R_below (by (with_reducible repeat (first | apply Kd.R_alloc | apply Kd.R_drewN | apply Kd.R_drew)); exact (Kd.R_mono (Kd.R_far (p := ⟨gb611, 1, none⟩) (Kd.R_far (p := ⟨gb611, 0, none⟩) (Kd.R_types HO609.out BK611.out (by decide)) (fun _ hk => hk.2) (.int .i64 t606)) (fun _ hk => hk.2) (.slice Ao46 t607.length co46)) (fun _ h_ => h_.1))) hb); have n6_ := Aside0.mk (blk_below (g := gb583) (o := .cells #[.int .i64 a0_0, .slice A0_1 l0_1.length c0_1] 33 (0, 0)) (by (with_reducible repeat (first | refine blk_drewN ?_ _ | refine blk_drew ?_ | refine blk_alloc ?_ _)); refine blk_far ?_ NB583_611.out _; (with_reducible repeat (first | refine blk_drewN ?_ _ | refine blk_drew ?_ | refine blk_alloc ?_ _)); refine blk_far ?_ NB583_611.out _; (with_reducible repeat (first | refine blk_drewN ?_ _ | refine blk_drew ?_ | refine blk_alloc ?_ _)); exact BK583.out) hb); have n7_ := Aside0.mk (blk_below (g := gb597) (o := .cells #[.int .i64 t592, .slice Ao29 t593.length co29] 37 (0, 0)) (by (with_reducible repeat (first | refine blk_drewN ?_ _ | refine blk_drew ?_ | refine blk_alloc ?_ _)); refine blk_far ?_ NB597_611.out _; (with_reducible repeat (first | refine blk_drewN ?_ _ | refine blk_drew ?_ | refine blk_alloc ?_ _)); refine blk_far ?_ NB597_611.out _; (with_reducible repeat (first | refine blk_drewN ?_ _ | refine blk_drew ?_ | refine blk_alloc ?_ _)); exact BK597.out) hb); have n8_ := Aside0.mk (blk_below (g := gb602) (o := .cells #[.int .i64 t598, .slice Ao36 t599.length co36] 37 (0, 0)) (by (with_reducible repeat (first | refine blk_drewN ?_ _ | refine blk_drew ?_ | refine blk_alloc ?_ _)); refine blk_far ?_ NB602_611.out _; (with_reducible repeat (first | refine blk_drewN ?_ _ | refine blk_drew ?_ | refine blk_alloc ?_ _)); refine blk_far ?_ NB602_611.out _; (with_reducible repeat (first | refine blk_drewN ?_ _ | refine blk_drew ?_ | refine blk_alloc ?_ _)); exact BK602.out) hb); have n9_ := Aside0.mk (blk_below (g := gb611) (o := .cells #[.int .i64 t606, .slice Ao46 t607.length co46] 37 (0, 0)) (by (with_reducible repeat (first | refine blk_drewN ?_ _ | refine blk_drew ?_ | refine blk_alloc ?_ _)); refine blk_put (cs := #[.int .i64 t606, .slice none 0 0]) ?_ 1 _ rfl; (with_reducible repeat (first | refine blk_drewN ?_ _ | refine blk_drew ?_ | refine blk_alloc ?_ _)); refine blk_put (cs := #[.int .i64 0, .slice none 0 0]) ?_ 0 _ rfl; (with_reducible repeat (first | refine blk_drewN ?_ _ | refine blk_drew ?_ | refine blk_alloc ?_ _)); exact BK611.out) hb); have n10_ := Aside0.mk (below_step (by repeat (first | (with_reducible first | exact HB.out | apply below_alloc | apply pw_below_drewN | apply below_drew1 | refine below_set ?_ GE583.out | refine below_set ?_ GE597.out | refine below_set ?_ GE602.out | refine below_set ?_ GE611.out) | exact HB.out)) hb); clear HO588; clear HO591; clear HO595; clear HO601; clear HO605; clear HO609; clear BK583; clear BK597; clear BK602; clear BK611; clear HB; have HO588 := n0_; have HO591 := n1_; have HO595 := n2_; have HO601 := n3_; have HO605 := n4_; have HO609 := n5_; have BK583 := n6_; have BK597 := n7_; have BK602 := n8_; have BK611 := n9_; have HB := n10_; clear n0_ n1_ n2_ n3_ n4_ n5_ n6_ n7_ n8_ n9_ n10_; (try clear hb); (try clear hb2); (try clear hk); (try clear hi)))
          go_meet
          case rel => exact ⟨_, ((t610 != t596)), (by first | rfl | (simp; done) | (simp [*]; done)), H', ⟨by first | omega | exact Nat.le_refl _⟩, ⟨by (with_reducible repeat (first | apply Kd.R_alloc | apply Kd.R_drewN | apply Kd.R_drew)); exact Kd.R_mono HO605.out (fun _ hk => ⟨hk.1.1.2, ⟨hk.1.2, hk.2⟩⟩)⟩, ⟨by (with_reducible repeat (first | apply Kd.R_alloc | apply Kd.R_drewN | apply Kd.R_drew)); exact Kd.R_mono HO595.out (fun _ hk => ⟨hk.1.2, ⟨hk.1.1.2, hk.2⟩⟩)⟩, ⟨by (with_reducible repeat (first | apply Kd.R_alloc | apply Kd.R_drewN | apply Kd.R_drew)); exact Kd.R_mono HO601.out (fun _ hk => ⟨hk.1.2, ⟨hk.1.1.2, hk.2⟩⟩)⟩, ⟨by (with_reducible repeat (first | apply Kd.R_alloc | apply Kd.R_drewN | apply Kd.R_drew)); exact Kd.R_mono HO609.out (fun _ hk => ⟨hk.2, ⟨hk.1.1.2, hk.1.2⟩⟩)⟩, ⟨by (with_reducible repeat (first | refine blk_drewN ?_ _ | refine blk_drew ?_ | refine blk_alloc ?_ _)); exact BK583.out⟩, ⟨by (with_reducible repeat (first | refine blk_drewN ?_ _ | refine blk_drew ?_ | refine blk_alloc ?_ _)); exact BK597.out⟩, ⟨by (with_reducible repeat (first | refine blk_drewN ?_ _ | refine blk_drew ?_ | refine blk_alloc ?_ _)); exact BK602.out⟩, ⟨by (with_reducible repeat (first | refine blk_drewN ?_ _ | refine blk_drew ?_ | refine blk_alloc ?_ _)); exact BK611.out⟩, ⟨by repeat (first | (with_reducible first | exact HB.out | apply below_alloc | apply pw_below_drewN | apply below_drew1 | refine below_set ?_ GE583.out | refine below_set ?_ GE597.out | refine below_set ?_ GE602.out | refine below_set ?_ GE611.out) | exact HB.out)⟩⟩
        · replace c48 := Bool.eq_false_iff.mpr c48
          subst c48
          have H1 : (laws_FnExactPartOf.j0 k l1 t596 t603 t610 true a0_0 l0_1 t592 t593 t598 t599 t606 t607) = some r := by rw [if_neg (show ¬ (false = true) by decide)] at H; exact H
          clear H
          have H := H1
          clear H1
          have H' := Aside0.mk H
          clear H
          have hnb57 := NB611_583.out
          have hnc57 := NB583_611.out
          have hnb58 := NB611_597.out
          have hnc58 := NB597_611.out
          have hnb59 := NB611_602.out
          have hnc59 := NB602_611.out
          have hcz60_0 : w41.cell? ⟨gb611, 0, none⟩ = some (.int .i64 0) := (blk_cell BK611.out 0).trans rfl
          have hcz60_1 : w41.cell? ⟨gb611, 1, none⟩ = some (.slice none 0 0) := (blk_cell BK611.out 1).trans rfl
          have hfz60_0 := blk_frozen BK611.out 0
          have hfz60_1 := blk_frozen BK611.out 1
          have hnb61 := NB597_583.out
          have hnc61 := NB583_597.out
          have hnb62 := NB597_602.out
          have hnc62 := NB602_597.out
          have hcz63_0 : w41.cell? ⟨gb597, 0, none⟩ = some (.int .i64 t592) := (blk_cell BK597.out 0).trans rfl
          have hcz63_1 : w41.cell? ⟨gb597, 1, none⟩ = some (.slice Ao29 t593.length co29) := (blk_cell BK597.out 1).trans rfl
          have hfz63_0 := blk_frozen BK597.out 0
          have hfz63_1 := blk_frozen BK597.out 1
          go_wp2_with (first | ((with_reducible refine gate_callee (f := 22) rfl ?_); refine goesL_ (some 45) rfl rfl Try.func22 (by kernel_rfl) rfl #[.agg #[.int .i64 t606, .slice Ao46 t607.length co46], .agg #[.int .i64 t592, .slice Ao29 t593.length co29]] rfl (by (try simp only [List.map_toArray, List.map_cons, List.map_nil]); first | done | rfl | (simp only [List.length_drop, List.length_take]; rfl)) ?_; (with_reducible refine (laws_eqOrder.calls k t606 _ _ t607 t592 _ _ t593 false _ ?side1 ?side2 ?side3 ?side4 A47.out).mono ?_); (case side1 => refine (Kd.R_reads' (e := 3) (base := w.heap.size) (ok := fun k_ => (((((True ∧ some k_ ≠ (.slice Ao23 t586.length co23 : Value).ownBlock) ∧ some k_ ≠ (.slice Ao24 t589.length co24 : Value).ownBlock) ∧ some k_ ≠ (.slice Ao29 t593.length co29 : Value).ownBlock) ∧ some k_ ≠ (.slice Ao36 t599.length co36 : Value).ownBlock) ∧ some k_ ≠ (.slice Ao39 t603.length co39 : Value).ownBlock)) (n := t607.length) (c := co46) ?_).2.2; exact (by (with_reducible repeat (first | apply Kd.R_alloc | apply Kd.R_drewN | apply Kd.R_drew)); exact (Kd.R_mono (Kd.R_far (p := ⟨gb611, 1, none⟩) (Kd.R_far (p := ⟨gb611, 0, none⟩) (Kd.R_types HO609.out BK611.out (by decide)) (fun _ hk => hk.2) (.int .i64 t606)) (fun _ hk => hk.2) (.slice Ao46 t607.length co46)) (fun _ h_ => h_.1)))); (case side2 => exact (Kd.R_reads' HO609.out).2.1); (case side3 => refine (Kd.R_reads' (e := 3) (base := w.heap.size) (ok := fun k_ => (((((True ∧ some k_ ≠ (.slice Ao23 t586.length co23 : Value).ownBlock) ∧ some k_ ≠ (.slice Ao24 t589.length co24 : Value).ownBlock) ∧ some k_ ≠ (.slice Ao36 t599.length co36 : Value).ownBlock) ∧ some k_ ≠ (.slice Ao39 t603.length co39 : Value).ownBlock) ∧ some k_ ≠ (.slice Ao46 t607.length co46 : Value).ownBlock)) (n := t593.length) (c := co29) ?_).2.2; exact (by (with_reducible repeat (first | apply Kd.R_alloc | apply Kd.R_drewN | apply Kd.R_drew)); exact (Kd.R_mono (Kd.R_far (p := ⟨gb611, 1, none⟩) (Kd.R_far (p := ⟨gb611, 0, none⟩) (Kd.R_types HO595.out BK611.out (by decide)) (fun _ hk => hk.2) (.int .i64 t606)) (fun _ hk => hk.2) (.slice Ao46 t607.length co46)) (fun _ h_ => h_.1)))); (case side4 => exact (Kd.R_reads' HO595.out).2.1); rintro e w64 ⟨rfl, hb⟩; refine ⟨_, rfl, ?_⟩; have n0_ := Aside0.mk (Kd.R_below (by (with_reducible repeat (first | apply Kd.R_alloc | apply Kd.R_drewN | apply Kd.R_drew)); exact (Kd.R_mono (Kd.R_far (p := ⟨gb611, 1, none⟩) (Kd.R_far (p := ⟨gb611, 0, none⟩) (Kd.R_types HO588.out BK611.out (by decide)) (fun _ hk => hk.2) (.int .i64 t606)) (fun _ hk => hk.2) (.slice Ao46 t607.length co46)) (fun _ h_ => h_.1))) hb); have n1_ := Aside0.mk (Kd.R_below (by (with_reducible repeat (first | apply Kd.R_alloc | apply Kd.R_drewN | apply Kd.R_drew)); exact (Kd.R_mono (Kd.R_far (p := ⟨gb611, 1, none⟩) (Kd.R_far (p := ⟨gb611, 0, none⟩) (Kd.R_types HO591.out BK611.out (by decide)) (fun _ hk => hk.2) (.int .i64 t606)) (fun _ hk => hk.2) (.slice Ao46 t607.length co46)) (fun _ h_ => h_.1))) hb); have n2_ := Aside0.mk (Kd.R_below (by (with_reducible repeat (first | apply Kd.R_alloc | apply Kd.R_drewN | apply Kd.R_drew)); exact (Kd.R_mono (Kd.R_far (p := ⟨gb611, 1, none⟩) (Kd.R_far (p := ⟨gb611, 0, none⟩) (Kd.R_types HO595.out BK611.out (by decide)) (fun _ hk => hk.2) (.int .i64 t606)) (fun _ hk => hk.2) (.slice Ao46 t607.length co46)) (fun _ h_ => h_.1))) hb); have n3_ := Aside0.mk (Kd.R_below (by (with_reducible repeat (first | apply Kd.R_alloc | apply Kd.R_drewN | apply Kd.R_drew)); exact (Kd.R_mono (Kd.R_far (p := ⟨gb611, 1, none⟩) (Kd.R_far (p := ⟨gb611, 0, none⟩) (Kd.R_types HO601.out BK611.out (by decide)) (fun _ hk => hk.2) (.int .i64 t606)) (fun _ hk => hk.2) (.slice Ao46 t607.length co46)) (fun _ h_ => h_.1))) hb); have n4_ := Aside0.mk (Kd.R_below (by (with_reducible repeat (first | apply Kd.R_alloc | apply Kd.R_drewN | apply Kd.R_drew)); exact (Kd.R_mono (Kd.R_far (p := ⟨gb611, 1, none⟩) (Kd.R_far (p := ⟨gb611, 0, none⟩) (Kd.R_types HO605.out BK611.out (by decide)) (fun _ hk => hk.2) (.int .i64 t606)) (fun _ hk => hk.2) (.slice Ao46 t607.length co46)) (fun _ h_ => h_.1))) hb); have n5_ := Aside0.mk (Kd.R_below (by (with_reducible repeat (first | apply Kd.R_alloc | apply Kd.R_drewN | apply Kd.R_drew)); exact (Kd.R_mono (Kd.R_far (p := ⟨gb611, 1, none⟩) (Kd.R_far (p := ⟨gb611, 0, none⟩) (Kd.R_types HO609.out BK611.out (by decide)) (fun _ hk => hk.2) (.int .i64 t606)) (fun _ hk => hk.2) (.slice Ao46 t607.length co46)) (fun _ h_ => h_.1))) hb); have n6_ := Aside0.mk (blk_below (g := gb583) (o := .cells #[.int .i64 a0_0, .slice A0_1 l0_1.length c0_1] 33 (0, 0)) (by (with_reducible repeat (first | refine blk_drewN ?_ _ | refine blk_drew ?_ | refine blk_alloc ?_ _)); refine blk_far ?_ NB583_611.out _; (with_reducible repeat (first | refine blk_drewN ?_ _ | refine blk_drew ?_ | refine blk_alloc ?_ _)); refine blk_far ?_ NB583_611.out _; (with_reducible repeat (first | refine blk_drewN ?_ _ | refine blk_drew ?_ | refine blk_alloc ?_ _)); exact BK583.out) hb); have n7_ := Aside0.mk (blk_below (g := gb597) (o := .cells #[.int .i64 t592, .slice Ao29 t593.length co29] 37 (0, 0)) (by (with_reducible repeat (first | refine blk_drewN ?_ _ | refine blk_drew ?_ | refine blk_alloc ?_ _)); refine blk_far ?_ NB597_611.out _; (with_reducible repeat (first | refine blk_drewN ?_ _ | refine blk_drew ?_ | refine blk_alloc ?_ _)); refine blk_far ?_ NB597_611.out _; (with_reducible repeat (first | refine blk_drewN ?_ _ | refine blk_drew ?_ | refine blk_alloc ?_ _)); exact BK597.out) hb); have n8_ := Aside0.mk (blk_below (g := gb602) (o := .cells #[.int .i64 t598, .slice Ao36 t599.length co36] 37 (0, 0)) (by (with_reducible repeat (first | refine blk_drewN ?_ _ | refine blk_drew ?_ | refine blk_alloc ?_ _)); refine blk_far ?_ NB602_611.out _; (with_reducible repeat (first | refine blk_drewN ?_ _ | refine blk_drew ?_ | refine blk_alloc ?_ _)); refine blk_far ?_ NB602_611.out _; (with_reducible repeat (first | refine blk_drewN ?_ _ | refine blk_drew ?_ | refine blk_alloc ?_ _)); exact BK602.out) hb); have n9_ := Aside0.mk (blk_below (g := gb611) (o := .cells #[.int .i64 t606, .slice Ao46 t607.length co46] 37 (0, 0)) (by (with_reducible repeat (first | refine blk_drewN ?_ _ | refine blk_drew ?_ | refine blk_alloc ?_ _)); refine blk_put (cs := #[.int .i64 t606, .slice none 0 0]) ?_ 1 _ rfl; (with_reducible repeat (first | refine blk_drewN ?_ _ | refine blk_drew ?_ | refine blk_alloc ?_ _)); refine blk_put (cs := #[.int .i64 0, .slice none 0 0]) ?_ 0 _ rfl; (with_reducible repeat (first | refine blk_drewN ?_ _ | refine blk_drew ?_ | refine blk_alloc ?_ _)); exact BK611.out) hb); have n10_ := Aside0.mk (below_step (by repeat (first | (with_reducible first | exact HB.out | apply below_alloc | apply pw_below_drewN | apply below_drew1 | refine below_set ?_ GE583.out | refine below_set ?_ GE597.out | refine below_set ?_ GE602.out | refine below_set ?_ GE611.out) | exact HB.out)) hb); clear HO588; clear HO591; clear HO595; clear HO601; clear HO605; clear HO609; clear BK583; clear BK597; clear BK602; clear BK611; clear HB; have HO588 := n0_; have HO591 := n1_; have HO595 := n2_; have HO601 := n3_; have HO605 := n4_; have HO609 := n5_; have BK583 := n6_; have BK597 := n7_; have BK602 := n8_; have BK611 := n9_; have HB := n10_; clear n0_ n1_ n2_ n3_ n4_ n5_ n6_ n7_ n8_ n9_ n10_; (try clear hb); (try clear hb2); (try clear hk); (try clear hi)))
          go_meet
          case rel => exact ⟨_, (true), (by first | rfl | (simp; done) | (simp [*]; done)), H', ⟨by first | omega | exact Nat.le_refl _⟩, ⟨by (with_reducible repeat (first | apply Kd.R_alloc | apply Kd.R_drewN | apply Kd.R_drew)); exact Kd.R_mono HO605.out (fun _ hk => ⟨hk.1.1.2, ⟨hk.1.2, hk.2⟩⟩)⟩, ⟨by (with_reducible repeat (first | apply Kd.R_alloc | apply Kd.R_drewN | apply Kd.R_drew)); exact Kd.R_mono HO595.out (fun _ hk => ⟨hk.1.2, ⟨hk.1.1.2, hk.2⟩⟩)⟩, ⟨by (with_reducible repeat (first | apply Kd.R_alloc | apply Kd.R_drewN | apply Kd.R_drew)); exact Kd.R_mono HO601.out (fun _ hk => ⟨hk.1.2, ⟨hk.1.1.2, hk.2⟩⟩)⟩, ⟨by (with_reducible repeat (first | apply Kd.R_alloc | apply Kd.R_drewN | apply Kd.R_drew)); exact Kd.R_mono HO609.out (fun _ hk => ⟨hk.2, ⟨hk.1.1.2, hk.1.2⟩⟩)⟩, ⟨by (with_reducible repeat (first | refine blk_drewN ?_ _ | refine blk_drew ?_ | refine blk_alloc ?_ _)); exact BK583.out⟩, ⟨by (with_reducible repeat (first | refine blk_drewN ?_ _ | refine blk_drew ?_ | refine blk_alloc ?_ _)); exact BK597.out⟩, ⟨by (with_reducible repeat (first | refine blk_drewN ?_ _ | refine blk_drew ?_ | refine blk_alloc ?_ _)); exact BK602.out⟩, ⟨by (with_reducible repeat (first | refine blk_drewN ?_ _ | refine blk_drew ?_ | refine blk_alloc ?_ _)); exact BK611.out⟩, ⟨by repeat (first | (with_reducible first | exact HB.out | apply below_alloc | apply pw_below_drewN | apply below_drew1 | refine below_set ?_ GE583.out | refine below_set ?_ GE597.out | refine below_set ?_ GE602.out | refine below_set ?_ GE611.out) | exact HB.out)⟩⟩
      case rest =>
        clear HC16
        try clear c1
        try clear c2
        try clear p2
        try clear c3
        try clear c3b0
        try clear c3b1
        try clear c4
        try clear c5
        try clear c6
        try clear c6b0
        try clear c9
        try clear c18
        try clear c20
        try clear c22
        try clear c27
        try clear c33
        try clear c34
        try clear c35
        try clear c42
        try clear c43
        try clear c44
        try clear c48
        try clear c49
        try clear c50
        try clear c51
        try clear c53
        try clear c54
        try clear c57
        try clear c58
        try clear c59
        try clear c61
        try clear c62
        try clear hcz18_0
        try clear hcz18_1
        try clear hcz20_0
        try clear hcz20_1
        try clear hcz28_0
        try clear hcz28_1
        try clear hcz30_0
        try clear hcz30_1
        try clear hcz35_0
        try clear hcz35_1
        try clear hcz38_0
        try clear hcz38_1
        try clear hcz45_0
        try clear hcz45_1
        try clear hcz52_0
        try clear hcz52_1
        try clear hcz55_0
        try clear hcz55_1
        try clear hcz60_0
        try clear hcz60_1
        try clear hcz63_0
        try clear hcz63_1
        try clear hcz8_0
        try clear hcz8_1
        try clear hfz18_0
        try clear hfz18_1
        try clear hfz20_0
        try clear hfz20_1
        try clear hfz28_0
        try clear hfz28_1
        try clear hfz30_0
        try clear hfz30_1
        try clear hfz35_0
        try clear hfz35_1
        try clear hfz38_0
        try clear hfz38_1
        try clear hfz45_0
        try clear hfz45_1
        try clear hfz52_0
        try clear hfz52_1
        try clear hfz55_0
        try clear hfz55_1
        try clear hfz60_0
        try clear hfz60_1
        try clear hfz63_0
        try clear hfz63_1
        try clear hfz8_0
        try clear hfz8_1
        obtain ⟨kq, x51_15, rfl, HA, HJ15, HO_9, HO_598001, HO_603001, HO_612001, BK583, BK597, BK602, BK611, HB⟩ := hcut
        cases kq with
        | zero => exact absurd HA.out (by simp [laws_FnExactPartOf.j0])
        | succ kj15 =>
          have H := HA.out
          clear HA
          simp only [laws_FnExactPartOf.j0] at H
          by_cases c65 : x51_15 = true
          · subst c65
            have H1 : (some false) = some r := by rw [if_pos rfl] at H; exact H
            clear H
            have H := H1
            clear H1
            obtain rfl := Option.some.inj H
            go_wp2
            go_ret
            exact ⟨by first | rfl | (simp [errW_none, errW_some] <;> rfl) | (simp [*, errW_none, errW_some] <;> rfl), by repeat (first | (with_reducible first | exact HB.out | apply below_alloc | apply pw_below_drewN | apply below_drew1 | refine below_set ?_ GE583.out | refine below_set ?_ GE597.out | refine below_set ?_ GE602.out | refine below_set ?_ GE611.out) | exact HB.out)⟩
          · replace c65 := Bool.eq_false_iff.mpr c65
            subst c65
            have H1 : ((laws_toOrder.f kj15 a0_0 l0_1).bind fun bt613 => ((laws_eqOrder.f kj15 t598 t599 bt613.1 bt613.2).bind fun t617 => (if t617 = true then ((laws_toIntS.f kj15 l1).bind fun t618 => ((laws_eqIntS.f kj15 t603 t618).bind fun t621 => (if t621 = true then ((laws_markOrder.f kj15 t598 t599 1).bind fun bt622 => ((laws_markIntS.f kj15 t603 bt622.1).bind fun bt624 => (if bt624.1 < 0 then (laws_FnExactPartOf.j1 kj15 l1 t596 true a0_0 l0_1 t592 t593 t606 t607) else ((laws_eqOrder.f kj15 t606 t607 t592 t593).bind fun t626 => (if t626 = true then (laws_FnExactPartOf.j1 kj15 l1 t596 (t610 != t596) a0_0 l0_1 t592 t593 t606 t607) else (laws_FnExactPartOf.j1 kj15 l1 t596 true a0_0 l0_1 t592 t593 t606 t607)))))) else (some false)))) else (some false)))) = some r := by rw [if_neg (show ¬ (false = true) by decide)] at H; exact H
            clear H
            have H := H1
            clear H1
            replace H := Option.bind_eq_some_iff.mp H
            obtain ⟨⟨t613, t614⟩, A660, H⟩ := H
            replace H : ((laws_eqOrder.f kj15 t598 t599 t613 t614).bind fun t617 => (if t617 = true then ((laws_toIntS.f kj15 l1).bind fun t618 => ((laws_eqIntS.f kj15 t603 t618).bind fun t621 => (if t621 = true then ((laws_markOrder.f kj15 t598 t599 1).bind fun bt622 => ((laws_markIntS.f kj15 t603 bt622.1).bind fun bt624 => (if bt624.1 < 0 then (laws_FnExactPartOf.j1 kj15 l1 t596 true a0_0 l0_1 t592 t593 t606 t607) else ((laws_eqOrder.f kj15 t606 t607 t592 t593).bind fun t626 => (if t626 = true then (laws_FnExactPartOf.j1 kj15 l1 t596 (t610 != t596) a0_0 l0_1 t592 t593 t606 t607) else (laws_FnExactPartOf.j1 kj15 l1 t596 true a0_0 l0_1 t592 t593 t606 t607)))))) else (some false)))) else (some false))) = some r := H
            have A66 := Aside0.mk A660
            clear A660
            replace H := Option.bind_eq_some_iff.mp H
            obtain ⟨t617, A670, H⟩ := H
            replace H : (if t617 = true then ((laws_toIntS.f kj15 l1).bind fun t618 => ((laws_eqIntS.f kj15 t603 t618).bind fun t621 => (if t621 = true then ((laws_markOrder.f kj15 t598 t599 1).bind fun bt622 => ((laws_markIntS.f kj15 t603 bt622.1).bind fun bt624 => (if bt624.1 < 0 then (laws_FnExactPartOf.j1 kj15 l1 t596 true a0_0 l0_1 t592 t593 t606 t607) else ((laws_eqOrder.f kj15 t606 t607 t592 t593).bind fun t626 => (if t626 = true then (laws_FnExactPartOf.j1 kj15 l1 t596 (t610 != t596) a0_0 l0_1 t592 t593 t606 t607) else (laws_FnExactPartOf.j1 kj15 l1 t596 true a0_0 l0_1 t592 t593 t606 t607)))))) else (some false)))) else (some false)) = some r := H
            have A67 := Aside0.mk A670
            clear A670
            by_cases c68 : t617 = true
            · subst c68
              have H1 : ((laws_toIntS.f kj15 l1).bind fun t618 => ((laws_eqIntS.f kj15 t603 t618).bind fun t621 => (if t621 = true then ((laws_markOrder.f kj15 t598 t599 1).bind fun bt622 => ((laws_markIntS.f kj15 t603 bt622.1).bind fun bt624 => (if bt624.1 < 0 then (laws_FnExactPartOf.j1 kj15 l1 t596 true a0_0 l0_1 t592 t593 t606 t607) else ((laws_eqOrder.f kj15 t606 t607 t592 t593).bind fun t626 => (if t626 = true then (laws_FnExactPartOf.j1 kj15 l1 t596 (t610 != t596) a0_0 l0_1 t592 t593 t606 t607) else (laws_FnExactPartOf.j1 kj15 l1 t596 true a0_0 l0_1 t592 t593 t606 t607)))))) else (some false)))) = some r := by rw [if_pos rfl] at H; exact H
              clear H
              have H := H1
              clear H1
              replace H := Option.bind_eq_some_iff.mp H
              obtain ⟨t618, A690, H⟩ := H
              replace H : ((laws_eqIntS.f kj15 t603 t618).bind fun t621 => (if t621 = true then ((laws_markOrder.f kj15 t598 t599 1).bind fun bt622 => ((laws_markIntS.f kj15 t603 bt622.1).bind fun bt624 => (if bt624.1 < 0 then (laws_FnExactPartOf.j1 kj15 l1 t596 true a0_0 l0_1 t592 t593 t606 t607) else ((laws_eqOrder.f kj15 t606 t607 t592 t593).bind fun t626 => (if t626 = true then (laws_FnExactPartOf.j1 kj15 l1 t596 (t610 != t596) a0_0 l0_1 t592 t593 t606 t607) else (laws_FnExactPartOf.j1 kj15 l1 t596 true a0_0 l0_1 t592 t593 t606 t607)))))) else (some false))) = some r := H
              have A69 := Aside0.mk A690
              clear A690
              replace H := Option.bind_eq_some_iff.mp H
              obtain ⟨t621, A700, H⟩ := H
              replace H : (if t621 = true then ((laws_markOrder.f kj15 t598 t599 1).bind fun bt622 => ((laws_markIntS.f kj15 t603 bt622.1).bind fun bt624 => (if bt624.1 < 0 then (laws_FnExactPartOf.j1 kj15 l1 t596 true a0_0 l0_1 t592 t593 t606 t607) else ((laws_eqOrder.f kj15 t606 t607 t592 t593).bind fun t626 => (if t626 = true then (laws_FnExactPartOf.j1 kj15 l1 t596 (t610 != t596) a0_0 l0_1 t592 t593 t606 t607) else (laws_FnExactPartOf.j1 kj15 l1 t596 true a0_0 l0_1 t592 t593 t606 t607)))))) else (some false)) = some r := H
              have A70 := Aside0.mk A700
              clear A700
              by_cases c71 : t621 = true
              · subst c71
                have H1 : ((laws_markOrder.f kj15 t598 t599 1).bind fun bt622 => ((laws_markIntS.f kj15 t603 bt622.1).bind fun bt624 => (if bt624.1 < 0 then (laws_FnExactPartOf.j1 kj15 l1 t596 true a0_0 l0_1 t592 t593 t606 t607) else ((laws_eqOrder.f kj15 t606 t607 t592 t593).bind fun t626 => (if t626 = true then (laws_FnExactPartOf.j1 kj15 l1 t596 (t610 != t596) a0_0 l0_1 t592 t593 t606 t607) else (laws_FnExactPartOf.j1 kj15 l1 t596 true a0_0 l0_1 t592 t593 t606 t607)))))) = some r := by rw [if_pos rfl] at H; exact H
                clear H
                have H := H1
                clear H1
                replace H := Option.bind_eq_some_iff.mp H
                obtain ⟨⟨t622, t623⟩, A720, H⟩ := H
                replace H : ((laws_markIntS.f kj15 t603 t622).bind fun bt624 => (if bt624.1 < 0 then (laws_FnExactPartOf.j1 kj15 l1 t596 true a0_0 l0_1 t592 t593 t606 t607) else ((laws_eqOrder.f kj15 t606 t607 t592 t593).bind fun t626 => (if t626 = true then (laws_FnExactPartOf.j1 kj15 l1 t596 (t610 != t596) a0_0 l0_1 t592 t593 t606 t607) else (laws_FnExactPartOf.j1 kj15 l1 t596 true a0_0 l0_1 t592 t593 t606 t607))))) = some r := H
                have A72 := Aside0.mk A720
                clear A720
                replace H := Option.bind_eq_some_iff.mp H
                obtain ⟨⟨t624, t625⟩, A730, H⟩ := H
                replace H : (if t624 < 0 then (laws_FnExactPartOf.j1 kj15 l1 t596 true a0_0 l0_1 t592 t593 t606 t607) else ((laws_eqOrder.f kj15 t606 t607 t592 t593).bind fun t626 => (if t626 = true then (laws_FnExactPartOf.j1 kj15 l1 t596 (t610 != t596) a0_0 l0_1 t592 t593 t606 t607) else (laws_FnExactPartOf.j1 kj15 l1 t596 true a0_0 l0_1 t592 t593 t606 t607)))) = some r := H
                have A73 := Aside0.mk A730
                clear A730
                have HC74 := Aside0.mk H
                clear H
                try go_wp2
                have n0_ := Aside0.mk (Kd.R_drew HO_9.out)
                have n1_ := Aside0.mk (Kd.R_drew HO_598001.out)
                have n2_ := Aside0.mk (Kd.R_drew HO_603001.out)
                have n3_ := Aside0.mk (Kd.R_drew HO_612001.out)
                have n4_ := Aside0.mk (blk_drew BK583.out)
                have n5_ := Aside0.mk (blk_drew BK597.out)
                have n6_ := Aside0.mk (blk_drew BK602.out)
                have n7_ := Aside0.mk (blk_drew BK611.out)
                have n8_ := Aside0.mk (below_drew1 HB.out)
                clear HO_9
                clear HO_598001
                clear HO_603001
                clear HO_612001
                clear BK583
                clear BK597
                clear BK602
                clear BK611
                clear HB
                have HO_9 := n0_
                have HO_598001 := n1_
                have HO_603001 := n2_
                have HO_612001 := n3_
                have BK583 := n4_
                have BK597 := n5_
                have BK602 := n6_
                have BK611 := n7_
                have HB := n8_
                clear n0_ n1_ n2_ n3_ n4_ n5_ n6_ n7_ n8_
                refine start_ (n := 5) (S := fun w' => w'.cell? ⟨gb602, 0, none⟩ = some (.int .i64 t598) ∧ w'.cell? ⟨gb602, 1, none⟩ = some (.slice Ao36 t599.length co36) ∧ w'.cell? ⟨gb583, 0, none⟩ = some (.int .i64 a0_0) ∧ w'.cell? ⟨gb583, 1, none⟩ = some (.slice A0_1 l0_1.length c0_1)) (ds := []) #[false, false, false, false, false] (by kernel_rfl) rfl rfl ⟨(blk_cell BK602.out 0).trans rfl, (blk_cell BK602.out 1).trans rfl, (blk_cell BK583.out 0).trans rfl, (blk_cell BK583.out 1).trans rfl⟩ (fun hHeld => ?_)
                generalize wc.drew = w75 at HO_9 HO_598001 HO_603001 HO_612001 BK583 BK597 BK602 BK611 HB hHeld ⊢
                refine take_ (i := 0) (N := some 52) (v := ?_) (a' := ?_) #[true, false, false, false, false] rfl rfl (by kernel_rfl) (fun _ _ _ h => h) (Or.inl ⟨by rfl, ?_⟩) hHeld ?_ ?_
                rotate_left
                · rintro w' ⟨s0, s1, s2, s3⟩
                  go_simp
                  with_reducible rfl
                rotate_left
                · simp only [Act.put, List.setIfInBounds_toArray, List.set_cons_zero, List.set_cons_succ, i64_w, i32_w]
                  rfl
                refine take_ (i := 1) (N := some 53) (v := ?_) (a' := ?_) #[true, true, false, false, false] rfl rfl (by kernel_rfl) (fun _ _ _ h => h) (Or.inl ⟨by rfl, ?_⟩) hHeld ?_ ?_
                rotate_left
                · rintro w' ⟨s0, s1, s2, s3⟩
                  go_simp
                  with_reducible rfl
                rotate_left
                · simp only [Act.put, List.setIfInBounds_toArray, List.set_cons_zero, List.set_cons_succ, i64_w, i32_w]
                  rfl
                refine one_ (i := 2) (N := some 54) #[true, true, true, false, false] rfl rfl (by kernel_rfl) (by decide) (fun K hK => ?_)
                refine goes_ Try.func20 (by kernel_rfl) rfl #[.agg #[.int .i64 a0_0, .slice A0_1 l0_1.length c0_1]] (by rfl) rfl rfl (by (try simp only [List.map_toArray, List.map_cons, List.map_nil]); first | done | rfl | (simp only [List.length_drop, List.length_take]; rfl)) ?_
                with_reducible refine (laws_toOrder.calls kj15 a0_0 _ _ l0_1 t613 t614 _ ?side1 ?side2 A66.out).mono ?_
                (case side1 => repeat (first | exact (Kd.C_below HR0_1.out HB.out) | (with_reducible refine Kd.C_alloc ?_ _) | (with_reducible refine Kd.C_drewN ?_ _) | (with_reducible refine Kd.C_drew ?_)))
                (case side2 => exact HC0_1.out)
                rintro e w76 ⟨v615, rfl, ho0, hb⟩
                refine ⟨_, rfl, ?_⟩
                have n0_ := Aside0.mk (Kd.R_elder' (by (with_reducible repeat (first | apply Kd.R_alloc | apply Kd.R_drewN | apply Kd.R_drew)); exact HO_9.out) (Kd.R_base ho0) hb)
                have n1_ := Aside0.mk (Kd.R_elder' (by (with_reducible repeat (first | apply Kd.R_alloc | apply Kd.R_drewN | apply Kd.R_drew)); exact HO_598001.out) (Kd.R_base ho0) hb)
                have n2_ := Aside0.mk (Kd.R_elder' (by (with_reducible repeat (first | apply Kd.R_alloc | apply Kd.R_drewN | apply Kd.R_drew)); exact HO_603001.out) (Kd.R_base ho0) hb)
                have n3_ := Aside0.mk (Kd.R_elder' (by (with_reducible repeat (first | apply Kd.R_alloc | apply Kd.R_drewN | apply Kd.R_drew)); exact HO_612001.out) (Kd.R_base ho0) hb)
                have n4_ := Aside0.mk (Kd.R_lower (Kd.R_new' (Kd.R_new' (Kd.R_new' (Kd.R_new' ho0 (Kd.R_lt (by (with_reducible repeat (first | apply Kd.R_alloc | apply Kd.R_drewN | apply Kd.R_drew)); exact HO_9.out))) (Kd.R_lt (by (with_reducible repeat (first | apply Kd.R_alloc | apply Kd.R_drewN | apply Kd.R_drew)); exact HO_598001.out))) (Kd.R_lt (by (with_reducible repeat (first | apply Kd.R_alloc | apply Kd.R_drewN | apply Kd.R_drew)); exact HO_603001.out))) (Kd.R_lt (by (with_reducible repeat (first | apply Kd.R_alloc | apply Kd.R_drewN | apply Kd.R_drew)); exact HO_612001.out))) (below_size (by repeat (first | (with_reducible first | exact HB.out | apply below_alloc | apply pw_below_drewN | apply below_drew1 | refine below_set ?_ GE583.out | refine below_set ?_ GE597.out | refine below_set ?_ GE602.out | refine below_set ?_ GE611.out) | exact HB.out))))
                have n5_ := Aside0.mk (blk_below (g := gb583) (o := .cells #[.int .i64 a0_0, .slice A0_1 l0_1.length c0_1] 33 (0, 0)) (by (with_reducible repeat (first | refine blk_drewN ?_ _ | refine blk_drew ?_ | refine blk_alloc ?_ _)); exact BK583.out) hb)
                have n6_ := Aside0.mk (blk_below (g := gb597) (o := .cells #[.int .i64 t592, .slice Ao29 t593.length co29] 37 (0, 0)) (by (with_reducible repeat (first | refine blk_drewN ?_ _ | refine blk_drew ?_ | refine blk_alloc ?_ _)); exact BK597.out) hb)
                have n7_ := Aside0.mk (blk_below (g := gb602) (o := .cells #[.int .i64 t598, .slice Ao36 t599.length co36] 37 (0, 0)) (by (with_reducible repeat (first | refine blk_drewN ?_ _ | refine blk_drew ?_ | refine blk_alloc ?_ _)); exact BK602.out) hb)
                have n8_ := Aside0.mk (blk_below (g := gb611) (o := .cells #[.int .i64 t606, .slice Ao46 t607.length co46] 37 (0, 0)) (by (with_reducible repeat (first | refine blk_drewN ?_ _ | refine blk_drew ?_ | refine blk_alloc ?_ _)); exact BK611.out) hb)
                have n9_ := Aside0.mk (below_step (by repeat (first | (with_reducible first | exact HB.out | apply below_alloc | apply pw_below_drewN | apply below_drew1 | refine below_set ?_ GE583.out | refine below_set ?_ GE597.out | refine below_set ?_ GE602.out | refine below_set ?_ GE611.out) | exact HB.out)) hb)
                clear HO_9
                clear HO_598001
                clear HO_603001
                clear HO_612001
                clear BK583
                clear BK597
                clear BK602
                clear BK611
                clear HB
                have HO_9 := n0_
                have HO_598001 := n1_
                have HO_603001 := n2_
                have HO_612001 := n3_
                have HO616 := n4_
                have BK583 := n5_
                have BK597 := n6_
                have BK602 := n7_
                have BK611 := n8_
                have HB := n9_
                clear n0_ n1_ n2_ n3_ n4_ n5_ n6_ n7_ n8_ n9_
                (try clear hb)
                (try clear hb2)
                (try clear hk)
                (try clear hi)
                (try clear ho0)
                obtain ⟨Ao77, co77, eo77⟩ := Kd.R_slice HO616.out
                (first | subst eo77 | (injection eo77 with f1_ f2_ f3_; have f4_ := f1_.symm; have f5_ := f3_.symm; clear f1_ f2_ f3_; subst f4_; subst f5_))
                refine hK.out _ _ ⟨(blk_cell BK602.out 0).trans rfl, (blk_cell BK602.out 1).trans rfl, (blk_cell BK583.out 0).trans rfl, (blk_cell BK583.out 1).trans rfl⟩ (fun hHeld => ?_)
                clear hK K
                refine norm_ (a' := ?_) ?_ ?_
                rotate_left
                · show Act.put _ (some 54) _ = _
                  simp only [Act.put, List.setIfInBounds_toArray, List.set_cons_zero, List.set_cons_succ, i64_w, i32_w]
                  rfl
                refine one_ (i := 3) (N := some 55) #[true, true, true, true, false] rfl rfl (by kernel_rfl) (by decide) (fun K hK => ?_)
                refine goes_ Try.func22 (by kernel_rfl) rfl #[.agg #[.int .i64 t598, .slice Ao36 t599.length co36], .agg #[.int .i64 t613, .slice Ao77 t614.length co77]] (by rfl) rfl rfl (by (try simp only [List.map_toArray, List.map_cons, List.map_nil]); first | done | rfl | (simp only [List.length_drop, List.length_take]; rfl)) ?_
                with_reducible refine (laws_eqOrder.calls kj15 t598 _ _ t599 t613 _ _ t614 true _ ?side1 ?side2 ?side3 ?side4 A67.out).mono ?_
                (case side1 => repeat (first | exact (Kd.R_reads' HO_603001.out).2.2 | (with_reducible refine Kd.C_alloc ?_ _) | (with_reducible refine Kd.C_drewN ?_ _) | (with_reducible refine Kd.C_drew ?_)))
                (case side2 => exact (Kd.R_reads' HO_603001.out).2.1)
                (case side3 => repeat (first | exact (Kd.R_reads' HO616.out).2.2 | (with_reducible refine Kd.C_alloc ?_ _) | (with_reducible refine Kd.C_drewN ?_ _) | (with_reducible refine Kd.C_drew ?_)))
                (case side4 => exact (Kd.R_reads' HO616.out).2.1)
                rintro e w78 ⟨rfl, hb⟩
                refine ⟨_, rfl, ?_⟩
                have n0_ := Aside0.mk (Kd.R_below (by (with_reducible repeat (first | apply Kd.R_alloc | apply Kd.R_drewN | apply Kd.R_drew)); exact HO_9.out) hb)
                have n1_ := Aside0.mk (Kd.R_below (by (with_reducible repeat (first | apply Kd.R_alloc | apply Kd.R_drewN | apply Kd.R_drew)); exact HO_598001.out) hb)
                have n2_ := Aside0.mk (Kd.R_below (by (with_reducible repeat (first | apply Kd.R_alloc | apply Kd.R_drewN | apply Kd.R_drew)); exact HO_603001.out) hb)
                have n3_ := Aside0.mk (Kd.R_below (by (with_reducible repeat (first | apply Kd.R_alloc | apply Kd.R_drewN | apply Kd.R_drew)); exact HO_612001.out) hb)
                have n4_ := Aside0.mk (Kd.R_below (by (with_reducible repeat (first | apply Kd.R_alloc | apply Kd.R_drewN | apply Kd.R_drew)); exact HO616.out) hb)
                have n5_ := Aside0.mk (blk_below (g := gb583) (o := .cells #[.int .i64 a0_0, .slice A0_1 l0_1.length c0_1] 33 (0, 0)) (by (with_reducible repeat (first | refine blk_drewN ?_ _ | refine blk_drew ?_ | refine blk_alloc ?_ _)); exact BK583.out) hb)
                have n6_ := Aside0.mk (blk_below (g := gb597) (o := .cells #[.int .i64 t592, .slice Ao29 t593.length co29] 37 (0, 0)) (by (with_reducible repeat (first | refine blk_drewN ?_ _ | refine blk_drew ?_ | refine blk_alloc ?_ _)); exact BK597.out) hb)
                have n7_ := Aside0.mk (blk_below (g := gb602) (o := .cells #[.int .i64 t598, .slice Ao36 t599.length co36] 37 (0, 0)) (by (with_reducible repeat (first | refine blk_drewN ?_ _ | refine blk_drew ?_ | refine blk_alloc ?_ _)); exact BK602.out) hb)
                have n8_ := Aside0.mk (blk_below (g := gb611) (o := .cells #[.int .i64 t606, .slice Ao46 t607.length co46] 37 (0, 0)) (by (with_reducible repeat (first | refine blk_drewN ?_ _ | refine blk_drew ?_ | refine blk_alloc ?_ _)); exact BK611.out) hb)
                have n9_ := Aside0.mk (below_step (by repeat (first | (with_reducible first | exact HB.out | apply below_alloc | apply pw_below_drewN | apply below_drew1 | refine below_set ?_ GE583.out | refine below_set ?_ GE597.out | refine below_set ?_ GE602.out | refine below_set ?_ GE611.out) | exact HB.out)) hb)
                clear HO_9
                clear HO_598001
                clear HO_603001
                clear HO_612001
                clear HO616
                clear BK583
                clear BK597
                clear BK602
                clear BK611
                clear HB
                have HO_9 := n0_
                have HO_598001 := n1_
                have HO_603001 := n2_
                have HO_612001 := n3_
                have HO616 := n4_
                have BK583 := n5_
                have BK597 := n6_
                have BK602 := n7_
                have BK611 := n8_
                have HB := n9_
                clear n0_ n1_ n2_ n3_ n4_ n5_ n6_ n7_ n8_ n9_
                (try clear hb)
                (try clear hb2)
                (try clear hk)
                (try clear hi)
                refine hK.out _ _ ⟨(blk_cell BK602.out 0).trans rfl, (blk_cell BK602.out 1).trans rfl, (blk_cell BK583.out 0).trans rfl, (blk_cell BK583.out 1).trans rfl⟩ (fun hHeld => ?_)
                clear hK K
                refine norm_ (a' := ?_) ?_ ?_
                rotate_left
                · show Act.put _ (some 55) _ = _
                  simp only [Act.put, List.setIfInBounds_toArray, List.set_cons_zero, List.set_cons_succ, i64_w, i32_w]
                  rfl
                refine pure_ (i := 4) (N := some 56) (v := ?_) (a' := ?_) #[true, true, true, true, true] rfl rfl (by kernel_rfl) (fun _ _ _ h => h) (Or.inl ⟨by rfl, ?_⟩) ?_ ?_
                rotate_left
                · intro w'
                  go_simp
                  with_reducible rfl
                rotate_left
                · simp only [Act.put, List.setIfInBounds_toArray, List.set_cons_zero, List.set_cons_succ, i64_w, i32_w]
                  rfl
                refine done_ (by kernel_rfl) ?_
                go_upto_region 20 with (first | ((with_reducible refine gate_callee (f := 34) rfl ?_); refine goesL_ (some 59) rfl rfl Try.func34 (by kernel_rfl) rfl #[.slice A1 l1.length c1] rfl (by (try simp only [List.map_toArray, List.map_cons, List.map_nil]); first | done | rfl | (simp only [List.length_drop, List.length_take]; rfl)) ?_; (with_reducible refine (laws_toIntS.calls kj15 _ _ l1 t618 _ ?side1 ?side2 A69.out).mono ?_); (case side1 => repeat (first | exact (Kd.C_below HR1.out HB.out) | (with_reducible refine Kd.C_alloc ?_ _) | (with_reducible refine Kd.C_drewN ?_ _) | (with_reducible refine Kd.C_drew ?_))); (case side2 => exact HC1.out); rintro e w79 ⟨v619, rfl, ho0, hb⟩; refine ⟨_, rfl, ?_⟩; have n0_ := Aside0.mk (Kd.R_elder' (by (with_reducible repeat (first | apply Kd.R_alloc | apply Kd.R_drewN | apply Kd.R_drew)); exact HO_9.out) (Kd.R_base ho0) hb); have n1_ := Aside0.mk (Kd.R_elder' (by (with_reducible repeat (first | apply Kd.R_alloc | apply Kd.R_drewN | apply Kd.R_drew)); exact HO_598001.out) (Kd.R_base ho0) hb); have n2_ := Aside0.mk (Kd.R_elder' (by (with_reducible repeat (first | apply Kd.R_alloc | apply Kd.R_drewN | apply Kd.R_drew)); exact HO_603001.out) (Kd.R_base ho0) hb); have n3_ := Aside0.mk (Kd.R_elder' (by (with_reducible repeat (first | apply Kd.R_alloc | apply Kd.R_drewN | apply Kd.R_drew)); exact HO_612001.out) (Kd.R_base ho0) hb); have n4_ := Aside0.mk (Kd.R_elder' (by (with_reducible repeat (first | apply Kd.R_alloc | apply Kd.R_drewN | apply Kd.R_drew)); exact HO616.out) (Kd.R_base ho0) hb); have n5_ := Aside0.mk (Kd.R_lower (Kd.R_new' (Kd.R_new' (Kd.R_new' (Kd.R_new' (Kd.R_new' ho0 (Kd.R_lt (by (with_reducible repeat (first | apply Kd.R_alloc | apply Kd.R_drewN | apply Kd.R_drew)); exact HO_9.out))) (Kd.R_lt (by (with_reducible repeat (first | apply Kd.R_alloc | apply Kd.R_drewN | apply Kd.R_drew)); exact HO_598001.out))) (Kd.R_lt (by (with_reducible repeat (first | apply Kd.R_alloc | apply Kd.R_drewN | apply Kd.R_drew)); exact HO_603001.out))) (Kd.R_lt (by (with_reducible repeat (first | apply Kd.R_alloc | apply Kd.R_drewN | apply Kd.R_drew)); exact HO_612001.out))) (Kd.R_lt (by (with_reducible repeat (first | apply Kd.R_alloc | apply Kd.R_drewN | apply Kd.R_drew)); exact HO616.out))) (below_size (by repeat (first | (with_reducible first | exact HB.out | apply below_alloc | apply pw_below_drewN | apply below_drew1 | refine below_set ?_ GE583.out | refine below_set ?_ GE597.out | refine below_set ?_ GE602.out | refine below_set ?_ GE611.out) | exact HB.out)))); have n6_ := Aside0.mk (blk_below (g := gb583) (o := .cells #[.int .i64 a0_0, .slice A0_1 l0_1.length c0_1] 33 (0, 0)) (by (with_reducible repeat (first | refine blk_drewN ?_ _ | refine blk_drew ?_ | refine blk_alloc ?_ _)); exact BK583.out) hb); have n7_ := Aside0.mk (blk_below (g := gb597) (o := .cells #[.int .i64 t592, .slice Ao29 t593.length co29] 37 (0, 0)) (by (with_reducible repeat (first | refine blk_drewN ?_ _ | refine blk_drew ?_ | refine blk_alloc ?_ _)); exact BK597.out) hb); have n8_ := Aside0.mk (blk_below (g := gb602) (o := .cells #[.int .i64 t598, .slice Ao36 t599.length co36] 37 (0, 0)) (by (with_reducible repeat (first | refine blk_drewN ?_ _ | refine blk_drew ?_ | refine blk_alloc ?_ _)); exact BK602.out) hb); have n9_ := Aside0.mk (blk_below (g := gb611) (o := .cells #[.int .i64 t606, .slice Ao46 t607.length co46] 37 (0, 0)) (by (with_reducible repeat (first | refine blk_drewN ?_ _ | refine blk_drew ?_ | refine blk_alloc ?_ _)); exact BK611.out) hb); have n10_ := Aside0.mk (below_step (by repeat (first | (with_reducible first | exact HB.out | apply below_alloc | apply pw_below_drewN | apply below_drew1 | refine below_set ?_ GE583.out | refine below_set ?_ GE597.out | refine below_set ?_ GE602.out | refine below_set ?_ GE611.out) | exact HB.out)) hb); clear HO_9; clear HO_598001; clear HO_603001; clear HO_612001; clear HO616; clear BK583; clear BK597; clear BK602; clear BK611; clear HB; have HO_9 := n0_; have HO_598001 := n1_; have HO_603001 := n2_; have HO_612001 := n3_; have HO616 := n4_; have HO620 := n5_; have BK583 := n6_; have BK597 := n7_; have BK602 := n8_; have BK611 := n9_; have HB := n10_; clear n0_ n1_ n2_ n3_ n4_ n5_ n6_ n7_ n8_ n9_ n10_; (try clear hb); (try clear hb2); (try clear hk); (try clear hi); (try clear ho0); obtain ⟨Ao80, co80, eo80⟩ := Kd.R_slice HO620.out; subst eo80) | ((with_reducible refine gate_callee (f := 36) rfl ?_); refine goesL_ (some 60) rfl rfl Try.func36 (by kernel_rfl) rfl #[.slice Ao39 t603.length co39, .slice Ao80 t618.length co80] rfl (by (try simp only [List.map_toArray, List.map_cons, List.map_nil]); first | done | rfl | (simp only [List.length_drop, List.length_take]; rfl)) ?_; (with_reducible refine (laws_eqIntS.calls kj15 _ _ t603 _ _ t618 true _ ?side1 ?side2 ?side3 ?side4 A70.out).mono ?_); (case side1 => repeat (first | exact (Kd.R_reads' HO_9.out).2.2 | (with_reducible refine Kd.C_alloc ?_ _) | (with_reducible refine Kd.C_drewN ?_ _) | (with_reducible refine Kd.C_drew ?_))); (case side2 => exact (Kd.R_reads' HO_9.out).2.1); (case side3 => repeat (first | exact (Kd.R_reads' HO620.out).2.2 | (with_reducible refine Kd.C_alloc ?_ _) | (with_reducible refine Kd.C_drewN ?_ _) | (with_reducible refine Kd.C_drew ?_))); (case side4 => exact (Kd.R_reads' HO620.out).2.1); rintro e w' ⟨rfl, ⟨nd, rfl⟩⟩; refine ⟨_, rfl, ?_⟩; have hnb81 := NB602_583.out; have hnc81 := NB583_602.out; have hnb82 := NB602_597.out; have hnc82 := NB597_602.out; have hnb83 := NB602_611.out; have hnc83 := NB611_602.out; have hcz84_0 : w79.cell? ⟨gb602, 0, none⟩ = some (.int .i64 t598) := (blk_cell BK602.out 0).trans rfl; have hcz84_1 : w79.cell? ⟨gb602, 1, none⟩ = some (.slice Ao36 t599.length co36) := (blk_cell BK602.out 1).trans rfl; have hfz84_0 := blk_frozen BK602.out 0; have hfz84_1 := blk_frozen BK602.out 1) | ((with_reducible refine gate_callee (f := 25) rfl ?_); refine goesL_ (some 64) rfl rfl Try.func25 (by kernel_rfl) rfl #[.agg #[.int .i64 t598, .slice Ao36 t599.length co36], .int .i64 1] rfl (by (try simp only [List.map_toArray, List.map_cons, List.map_nil]); first | done | rfl | (simp only [List.length_drop, List.length_take]; rfl)) ?_; (with_reducible refine (laws_markOrder.calls kj15 t598 (fun k_ => some k_ = (.slice Ao36 t599.length co36 : Value).ownBlock) (.slice Ao36 t599.length co36) t599 1 t622 t623 w _ ?side1 ?side2 A72.out).mono ?_); (case side1 => repeat (first | (with_reducible first | exact HB.out | apply below_alloc | apply pw_below_drewN | apply below_drew1 | refine below_set ?_ GE583.out | refine below_set ?_ GE597.out | refine below_set ?_ GE602.out | refine below_set ?_ GE611.out) | exact HB.out)); (case side2 => exact Kd.R_tight rfl HO_603001.out); rintro e w85 ⟨rfl, hy0, hb, hkp⟩; refine ⟨_, rfl, ?_⟩; have n0_ := Aside0.mk (Kd.R_mono (ok' := fun k_ => some k_ ≠ (.slice Ao29 t593.length co29 : Value).ownBlock ∧ some k_ ≠ (.slice Ao36 t599.length co36 : Value).ownBlock ∧ some k_ ≠ (.slice Ao46 t607.length co46 : Value).ownBlock ∧ some k_ ≠ (.slice Ao77 t614.length co77 : Value).ownBlock ∧ some k_ ≠ (.slice Ao80 t618.length co80 : Value).ownBlock) (Kd.R_keptB (HO_9.out) hkp (fun k_ hk_ hs_ => (hk_.1.1.2.1) hs_)) (fun k_ hk_ => ⟨hk_.1.1.1.1, hk_.1.1.1.2.1, hk_.1.1.1.2.2, hk_.1.1.2, hk_.1.2⟩)); have n1_ := Aside0.mk (Kd.R_mono (ok' := fun k_ => some k_ ≠ (.slice Ao39 t603.length co39 : Value).ownBlock ∧ some k_ ≠ (.slice Ao36 t599.length co36 : Value).ownBlock ∧ some k_ ≠ (.slice Ao46 t607.length co46 : Value).ownBlock ∧ some k_ ≠ (.slice Ao77 t614.length co77 : Value).ownBlock ∧ some k_ ≠ (.slice Ao80 t618.length co80 : Value).ownBlock) (Kd.R_keptB (HO_598001.out) hkp (fun k_ hk_ hs_ => (hk_.1.1.2.1) hs_)) (fun k_ hk_ => ⟨hk_.1.1.1.1, hk_.1.1.1.2.1, hk_.1.1.1.2.2, hk_.1.1.2, hk_.1.2⟩)); have n2_ := Aside0.mk (Kd.R_reok rfl hy0 (fun k_ e_ => HO_603001.out.1 k_ e_)); have n3_ := Aside0.mk (Kd.R_mono (ok' := fun k_ => some k_ ≠ (.slice Ao39 t603.length co39 : Value).ownBlock ∧ some k_ ≠ (.slice Ao29 t593.length co29 : Value).ownBlock ∧ some k_ ≠ (.slice Ao36 t599.length co36 : Value).ownBlock ∧ some k_ ≠ (.slice Ao77 t614.length co77 : Value).ownBlock ∧ some k_ ≠ (.slice Ao80 t618.length co80 : Value).ownBlock) (Kd.R_keptB (HO_612001.out) hkp (fun k_ hk_ hs_ => (hk_.1.1.2.2) hs_)) (fun k_ hk_ => ⟨hk_.1.1.1.1, hk_.1.1.1.2.1, hk_.1.1.1.2.2, hk_.1.1.2, hk_.1.2⟩)); have n4_ := Aside0.mk (blk_kept (by (with_reducible repeat (first | refine blk_drewN ?_ _ | refine blk_drew ?_ | refine blk_alloc ?_ _)); exact BK583.out) hkp (fun hs_ => (fun e_ => (Kd.R_ne HO_603001.out BK583.out (by decide)) e_) hs_)); have n5_ := Aside0.mk (blk_kept (by (with_reducible repeat (first | refine blk_drewN ?_ _ | refine blk_drew ?_ | refine blk_alloc ?_ _)); exact BK597.out) hkp (fun hs_ => (fun e_ => (Kd.R_ne HO_603001.out BK597.out (by decide)) e_) hs_)); have n6_ := Aside0.mk (blk_kept (by (with_reducible repeat (first | refine blk_drewN ?_ _ | refine blk_drew ?_ | refine blk_alloc ?_ _)); exact BK602.out) hkp (fun hs_ => (fun e_ => (Kd.R_ne HO_603001.out BK602.out (by decide)) e_) hs_)); have n7_ := Aside0.mk (blk_kept (by (with_reducible repeat (first | refine blk_drewN ?_ _ | refine blk_drew ?_ | refine blk_alloc ?_ _)); exact BK611.out) hkp (fun hs_ => (fun e_ => (Kd.R_ne HO_603001.out BK611.out (by decide)) e_) hs_)); have n8_ := Aside0.mk (Kd.R_mono (ok' := fun k_ => some k_ ≠ (.slice Ao39 t603.length co39 : Value).ownBlock ∧ some k_ ≠ (.slice Ao29 t593.length co29 : Value).ownBlock ∧ some k_ ≠ (.slice Ao36 t599.length co36 : Value).ownBlock ∧ some k_ ≠ (.slice Ao46 t607.length co46 : Value).ownBlock ∧ some k_ ≠ (.slice Ao80 t618.length co80 : Value).ownBlock) (Kd.R_keptB (HO616.out) hkp (fun k_ hk_ hs_ => (hk_.1.1.2) hs_)) (fun k_ hk_ => ⟨hk_.1.1.1.1.1.2, hk_.1.1.1.1.2, hk_.1.1.1.2, hk_.1.1.2, hk_.1.2⟩)); have n9_ := Aside0.mk (Kd.R_mono (ok' := fun k_ => some k_ ≠ (.slice Ao39 t603.length co39 : Value).ownBlock ∧ some k_ ≠ (.slice Ao29 t593.length co29 : Value).ownBlock ∧ some k_ ≠ (.slice Ao36 t599.length co36 : Value).ownBlock ∧ some k_ ≠ (.slice Ao46 t607.length co46 : Value).ownBlock ∧ some k_ ≠ (.slice Ao77 t614.length co77 : Value).ownBlock) (Kd.R_keptB (HO620.out) hkp (fun k_ hk_ hs_ => (hk_.1.1.2) hs_)) (fun k_ hk_ => ⟨hk_.1.1.1.1.1.2, hk_.1.1.1.1.2, hk_.1.1.1.2, hk_.1.1.2, hk_.1.2⟩)); have n10_ := Aside0.mk (hb); clear HO_9; clear HO_598001; clear HO_603001; clear HO_612001; clear BK583; clear BK597; clear BK602; clear BK611; clear HO616; clear HO620; clear HB; have HO_9 := n0_; have HO_598001 := n1_; have HO_603001 := n2_; have HO_612001 := n3_; have BK583 := n4_; have BK597 := n5_; have BK602 := n6_; have BK611 := n7_; have HO616 := n8_; have HO620 := n9_; have HB := n10_; clear n0_ n1_ n2_ n3_ n4_ n5_ n6_ n7_ n8_ n9_ n10_; (try clear hb); (try clear hkp); (try clear hy0)) | ((with_reducible refine gate_callee (f := 37) rfl ?_); refine goesL_ (some 67) rfl rfl Try.func37 (by kernel_rfl) rfl #[.slice Ao39 t603.length co39, .int .i64 t622] rfl (by (try simp only [List.map_toArray, List.map_cons, List.map_nil]); first | done | rfl | (simp only [List.length_drop, List.length_take]; rfl)) ?_; (with_reducible refine (laws_markIntS.calls kj15 (fun k_ => some k_ = (.slice Ao39 t603.length co39 : Value).ownBlock) (.slice Ao39 t603.length co39) t603 t622 t624 t625 w _ ?side1 ?side2 A73.out).mono ?_); (case side1 => repeat (first | (with_reducible first | exact HB.out | apply below_alloc | apply pw_below_drewN | apply below_drew1 | refine below_set ?_ GE583.out | refine below_set ?_ GE597.out | refine below_set ?_ GE602.out | refine below_set ?_ GE611.out) | exact HB.out)); (case side2 => exact Kd.R_tight rfl HO_9.out); rintro e w86 ⟨rfl, hy0, hb, hkp⟩; refine ⟨_, rfl, ?_⟩; have n0_ := Aside0.mk (Kd.R_reok rfl hy0 (fun k_ e_ => HO_9.out.1 k_ e_)); have n1_ := Aside0.mk (Kd.R_mono (ok' := fun k_ => some k_ ≠ (.slice Ao39 t603.length co39 : Value).ownBlock ∧ some k_ ≠ (.slice Ao36 t599.length co36 : Value).ownBlock ∧ some k_ ≠ (.slice Ao46 t607.length co46 : Value).ownBlock ∧ some k_ ≠ (.slice Ao77 t614.length co77 : Value).ownBlock ∧ some k_ ≠ (.slice Ao80 t618.length co80 : Value).ownBlock) (Kd.R_keptB (HO_598001.out) hkp (fun k_ hk_ hs_ => (hk_.1) hs_)) (fun k_ hk_ => ⟨hk_.1.1, hk_.1.2.1, hk_.1.2.2.1, hk_.1.2.2.2.1, hk_.1.2.2.2.2⟩)); have n2_ := Aside0.mk (Kd.R_mono (ok' := fun k_ => some k_ ≠ (.slice Ao39 t603.length co39 : Value).ownBlock ∧ some k_ ≠ (.slice Ao29 t593.length co29 : Value).ownBlock ∧ some k_ ≠ (.slice Ao46 t607.length co46 : Value).ownBlock ∧ some k_ ≠ (.slice Ao77 t614.length co77 : Value).ownBlock ∧ some k_ ≠ (.slice Ao80 t618.length co80 : Value).ownBlock) (Kd.R_keptB (HO_603001.out) hkp (fun k_ hk_ hs_ => (hk_.1.1.1) hs_)) (fun k_ hk_ => ⟨hk_.1.1.1.1, hk_.1.1.1.2.1, hk_.1.1.1.2.2, hk_.1.1.2, hk_.1.2⟩)); have n3_ := Aside0.mk (Kd.R_mono (ok' := fun k_ => some k_ ≠ (.slice Ao39 t603.length co39 : Value).ownBlock ∧ some k_ ≠ (.slice Ao29 t593.length co29 : Value).ownBlock ∧ some k_ ≠ (.slice Ao36 t599.length co36 : Value).ownBlock ∧ some k_ ≠ (.slice Ao77 t614.length co77 : Value).ownBlock ∧ some k_ ≠ (.slice Ao80 t618.length co80 : Value).ownBlock) (Kd.R_keptB (HO_612001.out) hkp (fun k_ hk_ hs_ => (hk_.1) hs_)) (fun k_ hk_ => ⟨hk_.1.1, hk_.1.2.1, hk_.1.2.2.1, hk_.1.2.2.2.1, hk_.1.2.2.2.2⟩)); have n4_ := Aside0.mk (blk_kept (by (with_reducible repeat (first | refine blk_drewN ?_ _ | refine blk_drew ?_ | refine blk_alloc ?_ _)); exact BK583.out) hkp (fun hs_ => (fun e_ => (Kd.R_ne HO_9.out BK583.out (by decide)) e_) hs_)); have n5_ := Aside0.mk (blk_kept (by (with_reducible repeat (first | refine blk_drewN ?_ _ | refine blk_drew ?_ | refine blk_alloc ?_ _)); exact BK597.out) hkp (fun hs_ => (fun e_ => (Kd.R_ne HO_9.out BK597.out (by decide)) e_) hs_)); have n6_ := Aside0.mk (blk_kept (by (with_reducible repeat (first | refine blk_drewN ?_ _ | refine blk_drew ?_ | refine blk_alloc ?_ _)); exact BK602.out) hkp (fun hs_ => (fun e_ => (Kd.R_ne HO_9.out BK602.out (by decide)) e_) hs_)); have n7_ := Aside0.mk (blk_kept (by (with_reducible repeat (first | refine blk_drewN ?_ _ | refine blk_drew ?_ | refine blk_alloc ?_ _)); exact BK611.out) hkp (fun hs_ => (fun e_ => (Kd.R_ne HO_9.out BK611.out (by decide)) e_) hs_)); have n8_ := Aside0.mk (Kd.R_mono (ok' := fun k_ => some k_ ≠ (.slice Ao39 t603.length co39 : Value).ownBlock ∧ some k_ ≠ (.slice Ao29 t593.length co29 : Value).ownBlock ∧ some k_ ≠ (.slice Ao36 t599.length co36 : Value).ownBlock ∧ some k_ ≠ (.slice Ao46 t607.length co46 : Value).ownBlock ∧ some k_ ≠ (.slice Ao80 t618.length co80 : Value).ownBlock) (Kd.R_keptB (HO616.out) hkp (fun k_ hk_ hs_ => (hk_.1) hs_)) (fun k_ hk_ => ⟨hk_.1.1, hk_.1.2.1, hk_.1.2.2.1, hk_.1.2.2.2.1, hk_.1.2.2.2.2⟩)); have n9_ := Aside0.mk (Kd.R_mono (ok' := fun k_ => some k_ ≠ (.slice Ao39 t603.length co39 : Value).ownBlock ∧ some k_ ≠ (.slice Ao29 t593.length co29 : Value).ownBlock ∧ some k_ ≠ (.slice Ao36 t599.length co36 : Value).ownBlock ∧ some k_ ≠ (.slice Ao46 t607.length co46 : Value).ownBlock ∧ some k_ ≠ (.slice Ao77 t614.length co77 : Value).ownBlock) (Kd.R_keptB (HO620.out) hkp (fun k_ hk_ hs_ => (hk_.1) hs_)) (fun k_ hk_ => ⟨hk_.1.1, hk_.1.2.1, hk_.1.2.2.1, hk_.1.2.2.2.1, hk_.1.2.2.2.2⟩)); have n10_ := Aside0.mk (hb); clear HO_9; clear HO_598001; clear HO_603001; clear HO_612001; clear BK583; clear BK597; clear BK602; clear BK611; clear HO616; clear HO620; clear HB; have HO_9 := n0_; have HO_598001 := n1_; have HO_603001 := n2_; have HO_612001 := n3_; have BK583 := n4_; have BK597 := n5_; have BK602 := n6_; have BK611 := n7_; have HO616 := n8_; have HO620 := n9_; have HB := n10_; clear n0_ n1_ n2_ n3_ n4_ n5_ n6_ n7_ n8_ n9_ n10_; (try clear hb); (try clear hkp); (try clear hy0)))
                (try simp only [Act.put, List.setIfInBounds_toArray, List.set_cons_zero, List.set_cons_succ])
                go_cut [80] (fun v80 wc => ∃ (kq : Nat) (x80_73 : Bool), v80 = .bool x80_73 ∧ Aside0 (laws_FnExactPartOf.j1 kq l1 t596 x80_73 a0_0 l0_1 t592 t593 t606 t607 = some r) ∧ Aside0 (kq ≤ kj15) ∧ Aside0 (Kd.R (Kd.int .i64) 3 wc w.heap.size (fun k_ => some k_ ≠ ((.slice Ao36 t599.length co36) : Value).ownBlock ∧ some k_ ≠ ((.slice Ao46 t607.length co46) : Value).ownBlock) (.slice Ao29 t593.length co29) t593) ∧ Aside0 (Kd.R (Kd.int .i64) 3 wc w.heap.size (fun k_ => some k_ ≠ ((.slice Ao29 t593.length co29) : Value).ownBlock ∧ some k_ ≠ ((.slice Ao46 t607.length co46) : Value).ownBlock) (.slice Ao36 t599.length co36) t623) ∧ Aside0 (Kd.R (Kd.int .i64) 3 wc w.heap.size (fun k_ => some k_ ≠ ((.slice Ao29 t593.length co29) : Value).ownBlock ∧ some k_ ≠ ((.slice Ao36 t599.length co36) : Value).ownBlock) (.slice Ao46 t607.length co46) t607) ∧ Aside0 (wc.heap[gb583]? = some (.cells #[.int .i64 a0_0, (.slice A0_1 l0_1.length c0_1)] 33 (0, 0))) ∧ Aside0 (wc.heap[gb597]? = some (.cells #[.int .i64 t592, (.slice Ao29 t593.length co29)] 37 (0, 0))) ∧ Aside0 (wc.heap[gb602]? = some (.cells #[.int .i64 t598, (.slice Ao36 t599.length co36)] 37 (0, 0))) ∧ Aside0 (wc.heap[gb611]? = some (.cells #[.int .i64 t606, (.slice Ao46 t607.length co46)] 37 (0, 0))) ∧ Aside0 (Below w.heap.size w wc))
                case first =>
                  have H := HC74.out
                  clear HC74
                  by_cases c87 : t624 < 0
                  · rw [if_pos c87] at H
                    have c87b0 : decide (t624 < 0) = true := decide_eq_true c87
                    clear c87
                    (first | rw [c87b0] | (simp only [i64_w, i32_w]; rw [c87b0]) | skip)
                    have H' := Aside0.mk H
                    clear H
                    go_wp2
                    go_meet
                    case rel => exact ⟨_, (true), (by first | rfl | (simp; done) | (simp [*]; done)), H', ⟨by have := HJ15.out; first | omega | exact Nat.le_refl _⟩, ⟨by (with_reducible repeat (first | apply Kd.R_alloc | apply Kd.R_drewN | apply Kd.R_drew)); exact Kd.R_mono HO_598001.out (fun _ hk => ⟨hk.2.1, hk.2.2.1⟩)⟩, ⟨by (with_reducible repeat (first | apply Kd.R_alloc | apply Kd.R_drewN | apply Kd.R_drew)); exact Kd.R_mono HO_603001.out (fun _ hk => ⟨hk.2.1, hk.2.2.1⟩)⟩, ⟨by (with_reducible repeat (first | apply Kd.R_alloc | apply Kd.R_drewN | apply Kd.R_drew)); exact Kd.R_mono HO_612001.out (fun _ hk => ⟨hk.2.1, hk.2.2.1⟩)⟩, ⟨by (with_reducible repeat (first | refine blk_drewN ?_ _ | refine blk_drew ?_ | refine blk_alloc ?_ _)); exact BK583.out⟩, ⟨by (with_reducible repeat (first | refine blk_drewN ?_ _ | refine blk_drew ?_ | refine blk_alloc ?_ _)); exact BK597.out⟩, ⟨by (with_reducible repeat (first | refine blk_drewN ?_ _ | refine blk_drew ?_ | refine blk_alloc ?_ _)); exact BK602.out⟩, ⟨by (with_reducible repeat (first | refine blk_drewN ?_ _ | refine blk_drew ?_ | refine blk_alloc ?_ _)); exact BK611.out⟩, ⟨by repeat (first | (with_reducible first | exact HB.out | apply below_alloc | apply pw_below_drewN | apply below_drew1 | refine below_set ?_ GE583.out | refine below_set ?_ GE597.out | refine below_set ?_ GE602.out | refine below_set ?_ GE611.out) | exact HB.out)⟩⟩
                  · rw [if_neg c87] at H
                    have c87b0 : decide (t624 < 0) = false := decide_eq_false c87
                    clear c87
                    (first | rw [c87b0] | (simp only [i64_w, i32_w]; rw [c87b0]) | skip)
                    replace H := Option.bind_eq_some_iff.mp H
                    obtain ⟨t626, A880, H⟩ := H
                    replace H : (if t626 = true then (laws_FnExactPartOf.j1 kj15 l1 t596 (t610 != t596) a0_0 l0_1 t592 t593 t606 t607) else (laws_FnExactPartOf.j1 kj15 l1 t596 true a0_0 l0_1 t592 t593 t606 t607)) = some r := H
                    have A88 := Aside0.mk A880
                    clear A880
                    by_cases c89 : t626 = true
                    · subst c89
                      have H1 : (laws_FnExactPartOf.j1 kj15 l1 t596 (t610 != t596) a0_0 l0_1 t592 t593 t606 t607) = some r := by rw [if_pos rfl] at H; exact H
                      clear H
                      have H := H1
                      clear H1
                      have H' := Aside0.mk H
                      clear H
                      have hnb90 := NB611_583.out
                      have hnc90 := NB583_611.out
                      have hnb91 := NB611_597.out
                      have hnc91 := NB597_611.out
                      have hnb92 := NB611_602.out
                      have hnc92 := NB602_611.out
                      have hcz93_0 : w86.cell? ⟨gb611, 0, none⟩ = some (.int .i64 t606) := (blk_cell BK611.out 0).trans rfl
                      have hcz93_1 : w86.cell? ⟨gb611, 1, none⟩ = some (.slice Ao46 t607.length co46) := (blk_cell BK611.out 1).trans rfl
                      have hfz93_0 := blk_frozen BK611.out 0
                      have hfz93_1 := blk_frozen BK611.out 1
                      have hnb94 := NB597_583.out
                      have hnc94 := NB583_597.out
                      have hnb95 := NB597_602.out
                      have hnc95 := NB602_597.out
                      have hcz96_0 : w86.cell? ⟨gb597, 0, none⟩ = some (.int .i64 t592) := (blk_cell BK597.out 0).trans rfl
                      have hcz96_1 : w86.cell? ⟨gb597, 1, none⟩ = some (.slice Ao29 t593.length co29) := (blk_cell BK597.out 1).trans rfl
                      have hfz96_0 := blk_frozen BK597.out 0
                      have hfz96_1 := blk_frozen BK597.out 1
                      go_wp2_with (first | (go_at_call 22; (with_reducible refine (laws_eqOrder.calls kj15 t606 _ _ t607 t592 _ _ t593 true _ ?side1 ?side2 ?side3 ?side4 A88.out).mono ?_); (case side1 => repeat (first | exact (Kd.R_reads' HO_612001.out).2.2 | (with_reducible refine Kd.C_alloc ?_ _) | (with_reducible refine Kd.C_drewN ?_ _) | (with_reducible refine Kd.C_drew ?_))); (case side2 => exact (Kd.R_reads' HO_612001.out).2.1); (case side3 => repeat (first | exact (Kd.R_reads' HO_598001.out).2.2 | (with_reducible refine Kd.C_alloc ?_ _) | (with_reducible refine Kd.C_drewN ?_ _) | (with_reducible refine Kd.C_drew ?_))); (case side4 => exact (Kd.R_reads' HO_598001.out).2.1); rintro e w97 ⟨rfl, hb⟩; have n0_ := Aside0.mk (Kd.R_below (by (with_reducible repeat (first | apply Kd.R_alloc | apply Kd.R_drewN | apply Kd.R_drew)); exact HO_9.out) hb); have n1_ := Aside0.mk (Kd.R_below (by (with_reducible repeat (first | apply Kd.R_alloc | apply Kd.R_drewN | apply Kd.R_drew)); exact HO_598001.out) hb); have n2_ := Aside0.mk (Kd.R_below (by (with_reducible repeat (first | apply Kd.R_alloc | apply Kd.R_drewN | apply Kd.R_drew)); exact HO_603001.out) hb); have n3_ := Aside0.mk (Kd.R_below (by (with_reducible repeat (first | apply Kd.R_alloc | apply Kd.R_drewN | apply Kd.R_drew)); exact HO_612001.out) hb); have n4_ := Aside0.mk (Kd.R_below (by (with_reducible repeat (first | apply Kd.R_alloc | apply Kd.R_drewN | apply Kd.R_drew)); exact HO616.out) hb); have n5_ := Aside0.mk (Kd.R_below (by (with_reducible repeat (first | apply Kd.R_alloc | apply Kd.R_drewN | apply Kd.R_drew)); exact HO620.out) hb); have n6_ := Aside0.mk (blk_below (g := gb583) (o := .cells #[.int .i64 a0_0, .slice A0_1 l0_1.length c0_1] 33 (0, 0)) (by (with_reducible repeat (first | refine blk_drewN ?_ _ | refine blk_drew ?_ | refine blk_alloc ?_ _)); exact BK583.out) hb); have n7_ := Aside0.mk (blk_below (g := gb597) (o := .cells #[.int .i64 t592, .slice Ao29 t593.length co29] 37 (0, 0)) (by (with_reducible repeat (first | refine blk_drewN ?_ _ | refine blk_drew ?_ | refine blk_alloc ?_ _)); exact BK597.out) hb); have n8_ := Aside0.mk (blk_below (g := gb602) (o := .cells #[.int .i64 t598, .slice Ao36 t599.length co36] 37 (0, 0)) (by (with_reducible repeat (first | refine blk_drewN ?_ _ | refine blk_drew ?_ | refine blk_alloc ?_ _)); exact BK602.out) hb); have n9_ := Aside0.mk (blk_below (g := gb611) (o := .cells #[.int .i64 t606, .slice Ao46 t607.length co46] 37 (0, 0)) (by (with_reducible repeat (first | refine blk_drewN ?_ _ | refine blk_drew ?_ | refine blk_alloc ?_ _)); exact BK611.out) hb); have n10_ := Aside0.mk (below_step (by repeat (first | (with_reducible first | exact HB.out | apply below_alloc | apply pw_below_drewN | apply below_drew1 | refine below_set ?_ GE583.out | refine below_set ?_ GE597.out | refine below_set ?_ GE602.out | refine below_set ?_ GE611.out) | exact HB.out)) hb); clear HO_9; clear HO_598001; clear HO_603001; clear HO_612001; clear HO616; clear HO620; clear BK583; clear BK597; clear BK602; clear BK611; clear HB; have HO_9 := n0_; have HO_598001 := n1_; have HO_603001 := n2_; have HO_612001 := n3_; have HO616 := n4_; have HO620 := n5_; have BK583 := n6_; have BK597 := n7_; have BK602 := n8_; have BK611 := n9_; have HB := n10_; clear n0_ n1_ n2_ n3_ n4_ n5_ n6_ n7_ n8_ n9_ n10_; (try clear hb); (try clear hb2); (try clear hk); (try clear hi)))
                      go_meet
                      case rel => exact ⟨_, ((t610 != t596)), (by first | rfl | (simp; done) | (simp [*]; done)), H', ⟨by have := HJ15.out; first | omega | exact Nat.le_refl _⟩, ⟨by (with_reducible repeat (first | apply Kd.R_alloc | apply Kd.R_drewN | apply Kd.R_drew)); exact Kd.R_mono HO_598001.out (fun _ hk => ⟨hk.2.1, hk.2.2.1⟩)⟩, ⟨by (with_reducible repeat (first | apply Kd.R_alloc | apply Kd.R_drewN | apply Kd.R_drew)); exact Kd.R_mono HO_603001.out (fun _ hk => ⟨hk.2.1, hk.2.2.1⟩)⟩, ⟨by (with_reducible repeat (first | apply Kd.R_alloc | apply Kd.R_drewN | apply Kd.R_drew)); exact Kd.R_mono HO_612001.out (fun _ hk => ⟨hk.2.1, hk.2.2.1⟩)⟩, ⟨by (with_reducible repeat (first | refine blk_drewN ?_ _ | refine blk_drew ?_ | refine blk_alloc ?_ _)); exact BK583.out⟩, ⟨by (with_reducible repeat (first | refine blk_drewN ?_ _ | refine blk_drew ?_ | refine blk_alloc ?_ _)); exact BK597.out⟩, ⟨by (with_reducible repeat (first | refine blk_drewN ?_ _ | refine blk_drew ?_ | refine blk_alloc ?_ _)); exact BK602.out⟩, ⟨by (with_reducible repeat (first | refine blk_drewN ?_ _ | refine blk_drew ?_ | refine blk_alloc ?_ _)); exact BK611.out⟩, ⟨by repeat (first | (with_reducible first | exact HB.out | apply below_alloc | apply pw_below_drewN | apply below_drew1 | refine below_set ?_ GE583.out | refine below_set ?_ GE597.out | refine below_set ?_ GE602.out | refine below_set ?_ GE611.out) | exact HB.out)⟩⟩
                    · replace c89 := Bool.eq_false_iff.mpr c89
                      subst c89
                      have H1 : (laws_FnExactPartOf.j1 kj15 l1 t596 true a0_0 l0_1 t592 t593 t606 t607) = some r := by rw [if_neg (show ¬ (false = true) by decide)] at H; exact H
                      clear H
                      have H := H1
                      clear H1
                      have H' := Aside0.mk H
                      clear H
                      have hnb98 := NB611_583.out
                      have hnc98 := NB583_611.out
                      have hnb99 := NB611_597.out
                      have hnc99 := NB597_611.out
                      have hnb100 := NB611_602.out
                      have hnc100 := NB602_611.out
                      have hcz101_0 : w86.cell? ⟨gb611, 0, none⟩ = some (.int .i64 t606) := (blk_cell BK611.out 0).trans rfl
                      have hcz101_1 : w86.cell? ⟨gb611, 1, none⟩ = some (.slice Ao46 t607.length co46) := (blk_cell BK611.out 1).trans rfl
                      have hfz101_0 := blk_frozen BK611.out 0
                      have hfz101_1 := blk_frozen BK611.out 1
                      have hnb102 := NB597_583.out
                      have hnc102 := NB583_597.out
                      have hnb103 := NB597_602.out
                      have hnc103 := NB602_597.out
                      have hcz104_0 : w86.cell? ⟨gb597, 0, none⟩ = some (.int .i64 t592) := (blk_cell BK597.out 0).trans rfl
                      have hcz104_1 : w86.cell? ⟨gb597, 1, none⟩ = some (.slice Ao29 t593.length co29) := (blk_cell BK597.out 1).trans rfl
                      have hfz104_0 := blk_frozen BK597.out 0
                      have hfz104_1 := blk_frozen BK597.out 1
                      go_wp2_with (first | (go_at_call 22; (with_reducible refine (laws_eqOrder.calls kj15 t606 _ _ t607 t592 _ _ t593 false _ ?side1 ?side2 ?side3 ?side4 A88.out).mono ?_); (case side1 => repeat (first | exact (Kd.R_reads' HO_612001.out).2.2 | (with_reducible refine Kd.C_alloc ?_ _) | (with_reducible refine Kd.C_drewN ?_ _) | (with_reducible refine Kd.C_drew ?_))); (case side2 => exact (Kd.R_reads' HO_612001.out).2.1); (case side3 => repeat (first | exact (Kd.R_reads' HO_598001.out).2.2 | (with_reducible refine Kd.C_alloc ?_ _) | (with_reducible refine Kd.C_drewN ?_ _) | (with_reducible refine Kd.C_drew ?_))); (case side4 => exact (Kd.R_reads' HO_598001.out).2.1); rintro e w105 ⟨rfl, hb⟩; have n0_ := Aside0.mk (Kd.R_below (by (with_reducible repeat (first | apply Kd.R_alloc | apply Kd.R_drewN | apply Kd.R_drew)); exact HO_9.out) hb); have n1_ := Aside0.mk (Kd.R_below (by (with_reducible repeat (first | apply Kd.R_alloc | apply Kd.R_drewN | apply Kd.R_drew)); exact HO_598001.out) hb); have n2_ := Aside0.mk (Kd.R_below (by (with_reducible repeat (first | apply Kd.R_alloc | apply Kd.R_drewN | apply Kd.R_drew)); exact HO_603001.out) hb); have n3_ := Aside0.mk (Kd.R_below (by (with_reducible repeat (first | apply Kd.R_alloc | apply Kd.R_drewN | apply Kd.R_drew)); exact HO_612001.out) hb); have n4_ := Aside0.mk (Kd.R_below (by (with_reducible repeat (first | apply Kd.R_alloc | apply Kd.R_drewN | apply Kd.R_drew)); exact HO616.out) hb); have n5_ := Aside0.mk (Kd.R_below (by (with_reducible repeat (first | apply Kd.R_alloc | apply Kd.R_drewN | apply Kd.R_drew)); exact HO620.out) hb); have n6_ := Aside0.mk (blk_below (g := gb583) (o := .cells #[.int .i64 a0_0, .slice A0_1 l0_1.length c0_1] 33 (0, 0)) (by (with_reducible repeat (first | refine blk_drewN ?_ _ | refine blk_drew ?_ | refine blk_alloc ?_ _)); exact BK583.out) hb); have n7_ := Aside0.mk (blk_below (g := gb597) (o := .cells #[.int .i64 t592, .slice Ao29 t593.length co29] 37 (0, 0)) (by (with_reducible repeat (first | refine blk_drewN ?_ _ | refine blk_drew ?_ | refine blk_alloc ?_ _)); exact BK597.out) hb); have n8_ := Aside0.mk (blk_below (g := gb602) (o := .cells #[.int .i64 t598, .slice Ao36 t599.length co36] 37 (0, 0)) (by (with_reducible repeat (first | refine blk_drewN ?_ _ | refine blk_drew ?_ | refine blk_alloc ?_ _)); exact BK602.out) hb); have n9_ := Aside0.mk (blk_below (g := gb611) (o := .cells #[.int .i64 t606, .slice Ao46 t607.length co46] 37 (0, 0)) (by (with_reducible repeat (first | refine blk_drewN ?_ _ | refine blk_drew ?_ | refine blk_alloc ?_ _)); exact BK611.out) hb); have n10_ := Aside0.mk (below_step (by repeat (first | (with_reducible first | exact HB.out | apply below_alloc | apply pw_below_drewN | apply below_drew1 | refine below_set ?_ GE583.out | refine below_set ?_ GE597.out | refine below_set ?_ GE602.out | refine below_set ?_ GE611.out) | exact HB.out)) hb); clear HO_9; clear HO_598001; clear HO_603001; clear HO_612001; clear HO616; clear HO620; clear BK583; clear BK597; clear BK602; clear BK611; clear HB; have HO_9 := n0_; have HO_598001 := n1_; have HO_603001 := n2_; have HO_612001 := n3_; have HO616 := n4_; have HO620 := n5_; have BK583 := n6_; have BK597 := n7_; have BK602 := n8_; have BK611 := n9_; have HB := n10_; clear n0_ n1_ n2_ n3_ n4_ n5_ n6_ n7_ n8_ n9_ n10_; (try clear hb); (try clear hb2); (try clear hk); (try clear hi)))
                      go_meet
                      case rel => exact ⟨_, (true), (by first | rfl | (simp; done) | (simp [*]; done)), H', ⟨by have := HJ15.out; first | omega | exact Nat.le_refl _⟩, ⟨by (with_reducible repeat (first | apply Kd.R_alloc | apply Kd.R_drewN | apply Kd.R_drew)); exact Kd.R_mono HO_598001.out (fun _ hk => ⟨hk.2.1, hk.2.2.1⟩)⟩, ⟨by (with_reducible repeat (first | apply Kd.R_alloc | apply Kd.R_drewN | apply Kd.R_drew)); exact Kd.R_mono HO_603001.out (fun _ hk => ⟨hk.2.1, hk.2.2.1⟩)⟩, ⟨by (with_reducible repeat (first | apply Kd.R_alloc | apply Kd.R_drewN | apply Kd.R_drew)); exact Kd.R_mono HO_612001.out (fun _ hk => ⟨hk.2.1, hk.2.2.1⟩)⟩, ⟨by (with_reducible repeat (first | refine blk_drewN ?_ _ | refine blk_drew ?_ | refine blk_alloc ?_ _)); exact BK583.out⟩, ⟨by (with_reducible repeat (first | refine blk_drewN ?_ _ | refine blk_drew ?_ | refine blk_alloc ?_ _)); exact BK597.out⟩, ⟨by (with_reducible repeat (first | refine blk_drewN ?_ _ | refine blk_drew ?_ | refine blk_alloc ?_ _)); exact BK602.out⟩, ⟨by (with_reducible repeat (first | refine blk_drewN ?_ _ | refine blk_drew ?_ | refine blk_alloc ?_ _)); exact BK611.out⟩, ⟨by repeat (first | (with_reducible first | exact HB.out | apply below_alloc | apply pw_below_drewN | apply below_drew1 | refine below_set ?_ GE583.out | refine below_set ?_ GE597.out | refine below_set ?_ GE602.out | refine below_set ?_ GE611.out) | exact HB.out)⟩⟩
                case rest =>
                  clear HC74
                  try clear c1
                  try clear c2
                  try clear p2
                  try clear c3
                  try clear c3b0
                  try clear c3b1
                  try clear c4
                  try clear c5
                  try clear c6
                  try clear c6b0
                  try clear c7
                  try clear c8
                  try clear c9
                  try clear c10
                  try clear c18
                  try clear c20
                  try clear c22
                  try clear c25
                  try clear c27
                  try clear c33
                  try clear c34
                  try clear c35
                  try clear c36
                  try clear c37
                  try clear c42
                  try clear c43
                  try clear c44
                  try clear c48
                  try clear c49
                  try clear c50
                  try clear c51
                  try clear c53
                  try clear c54
                  try clear c57
                  try clear c58
                  try clear c59
                  try clear c61
                  try clear c62
                  try clear c65
                  try clear c68
                  try clear c71
                  try clear c81
                  try clear c82
                  try clear c83
                  try clear c87
                  try clear c87b0
                  try clear c89
                  try clear c90
                  try clear c91
                  try clear c92
                  try clear c94
                  try clear c95
                  try clear c98
                  try clear c99
                  try clear c100
                  try clear c102
                  try clear c103
                  try clear hcz101_0
                  try clear hcz101_1
                  try clear hcz104_0
                  try clear hcz104_1
                  try clear hcz18_0
                  try clear hcz18_1
                  try clear hcz20_0
                  try clear hcz20_1
                  try clear hcz28_0
                  try clear hcz28_1
                  try clear hcz30_0
                  try clear hcz30_1
                  try clear hcz35_0
                  try clear hcz35_1
                  try clear hcz38_0
                  try clear hcz38_1
                  try clear hcz45_0
                  try clear hcz45_1
                  try clear hcz52_0
                  try clear hcz52_1
                  try clear hcz55_0
                  try clear hcz55_1
                  try clear hcz60_0
                  try clear hcz60_1
                  try clear hcz63_0
                  try clear hcz63_1
                  try clear hcz84_0
                  try clear hcz84_1
                  try clear hcz8_0
                  try clear hcz8_1
                  try clear hcz93_0
                  try clear hcz93_1
                  try clear hcz96_0
                  try clear hcz96_1
                  try clear hfz101_0
                  try clear hfz101_1
                  try clear hfz104_0
                  try clear hfz104_1
                  try clear hfz18_0
                  try clear hfz18_1
                  try clear hfz20_0
                  try clear hfz20_1
                  try clear hfz28_0
                  try clear hfz28_1
                  try clear hfz30_0
                  try clear hfz30_1
                  try clear hfz35_0
                  try clear hfz35_1
                  try clear hfz38_0
                  try clear hfz38_1
                  try clear hfz45_0
                  try clear hfz45_1
                  try clear hfz52_0
                  try clear hfz52_1
                  try clear hfz55_0
                  try clear hfz55_1
                  try clear hfz60_0
                  try clear hfz60_1
                  try clear hfz63_0
                  try clear hfz63_1
                  try clear hfz84_0
                  try clear hfz84_1
                  try clear hfz8_0
                  try clear hfz8_1
                  try clear hfz93_0
                  try clear hfz93_1
                  try clear hfz96_0
                  try clear hfz96_1
                  try clear p2
                  obtain ⟨kq, x80_73, rfl, HA, HJ73, HO_598001, HO_603001, HO_612001, BK583, BK597, BK602, BK611, HB⟩ := hcut
                  have hl603001_73 := (Kd.R_reads' HO_603001.out).1
                  rw [hl603001_73] at HO_603001
                  (try simp only [hl603001_73])
                  (try simp only [hl603001_73] at BK583)
                  (try simp only [hl603001_73] at BK597)
                  (try simp only [hl603001_73] at BK602)
                  (try simp only [hl603001_73] at BK611)
                  (try simp only [hl603001_73] at HO_598001)
                  (try simp only [hl603001_73] at HO_612001)
                  cases kq with
                  | zero => exact absurd HA.out (by simp [laws_FnExactPartOf.j1])
                  | succ kj73 =>
                    have H := HA.out
                    clear HA
                    simp only [laws_FnExactPartOf.j1] at H
                    by_cases c106 : x80_73 = true
                    · subst c106
                      have H1 : (some false) = some r := by rw [if_pos rfl] at H; exact H
                      clear H
                      have H := H1
                      clear H1
                      obtain rfl := Option.some.inj H
                      go_wp2
                      go_ret
                      exact ⟨by first | rfl | (simp [errW_none, errW_some] <;> rfl) | (simp [*, errW_none, errW_some] <;> rfl), by repeat (first | (with_reducible first | exact HB.out | apply below_alloc | apply pw_below_drewN | apply below_drew1 | refine below_set ?_ GE583.out | refine below_set ?_ GE597.out | refine below_set ?_ GE602.out | refine below_set ?_ GE611.out) | exact HB.out)⟩
                    · replace c106 := Bool.eq_false_iff.mpr c106
                      subst c106
                      have H1 : ((laws_markOrder.f kj73 t606 t607 1).bind fun bt627 => ((laws_heldOrder.f kj73 t606 bt627.2 1).bind fun t629 => (if t629 < 0 then (some false) else (if t629 = bt627.1 then ((laws_toOrder.f kj73 a0_0 l0_1).bind fun bt630 => ((laws_toIntS.f kj73 l1).bind fun t634 => ((impl_PartOf.f kj73 bt630.1 bt630.2 t634).bind fun bt637 => ((laws_eqOrder.f kj73 bt637.1 bt637.2.1 t592 t593).bind fun t643 => (if t643 = true then (laws_FnExactPartOf.j2 kj73 bt627.1 (bt637.2.2 != t596) t606 bt627.2) else (laws_FnExactPartOf.j2 kj73 bt627.1 true t606 bt627.2)))))) else (some false))))) = some r := by rw [if_neg (show ¬ (false = true) by decide)] at H; exact H
                      clear H
                      have H := H1
                      clear H1
                      replace H := Option.bind_eq_some_iff.mp H
                      obtain ⟨⟨t627, t628⟩, A1070, H⟩ := H
                      replace H : ((laws_heldOrder.f kj73 t606 t628 1).bind fun t629 => (if t629 < 0 then (some false) else (if t629 = t627 then ((laws_toOrder.f kj73 a0_0 l0_1).bind fun bt630 => ((laws_toIntS.f kj73 l1).bind fun t634 => ((impl_PartOf.f kj73 bt630.1 bt630.2 t634).bind fun bt637 => ((laws_eqOrder.f kj73 bt637.1 bt637.2.1 t592 t593).bind fun t643 => (if t643 = true then (laws_FnExactPartOf.j2 kj73 t627 (bt637.2.2 != t596) t606 t628) else (laws_FnExactPartOf.j2 kj73 t627 true t606 t628)))))) else (some false)))) = some r := H
                      have A107 := Aside0.mk A1070
                      clear A1070
                      replace H := Option.bind_eq_some_iff.mp H
                      obtain ⟨t629, A1080, H⟩ := H
                      replace H : (if t629 < 0 then (some false) else (if t629 = t627 then ((laws_toOrder.f kj73 a0_0 l0_1).bind fun bt630 => ((laws_toIntS.f kj73 l1).bind fun t634 => ((impl_PartOf.f kj73 bt630.1 bt630.2 t634).bind fun bt637 => ((laws_eqOrder.f kj73 bt637.1 bt637.2.1 t592 t593).bind fun t643 => (if t643 = true then (laws_FnExactPartOf.j2 kj73 t627 (bt637.2.2 != t596) t606 t628) else (laws_FnExactPartOf.j2 kj73 t627 true t606 t628)))))) else (some false))) = some r := H
                      have A108 := Aside0.mk A1080
                      clear A1080
                      by_cases c109 : t629 < 0
                      · rw [if_pos c109] at H
                        have c109b0 : decide (t629 < 0) = true := decide_eq_true c109
                        clear c109
                        obtain rfl := Option.some.inj H
                        have hnb110 := NB611_583.out
                        have hnc110 := NB583_611.out
                        have hnb111 := NB611_597.out
                        have hnc111 := NB597_611.out
                        have hnb112 := NB611_602.out
                        have hnc112 := NB602_611.out
                        have hcz113_0 : wc.cell? ⟨gb611, 0, none⟩ = some (.int .i64 t606) := (blk_cell BK611.out 0).trans rfl
                        have hcz113_1 : wc.cell? ⟨gb611, 1, none⟩ = some (.slice Ao46 t607.length co46) := (blk_cell BK611.out 1).trans rfl
                        have hfz113_0 := blk_frozen BK611.out 0
                        have hfz113_1 := blk_frozen BK611.out 1
                        go_wp2_with (first | ((with_reducible refine gate_callee (f := 25) rfl ?_); refine goesL_ (some 83) rfl rfl Try.func25 (by kernel_rfl) rfl #[.agg #[.int .i64 t606, .slice Ao46 t607.length co46], .int .i64 1] rfl (by (try simp only [List.map_toArray, List.map_cons, List.map_nil]); first | done | rfl | (simp only [List.length_drop, List.length_take]; rfl)) ?_; (with_reducible refine (laws_markOrder.calls kj73 t606 (fun k_ => some k_ = (.slice Ao46 t607.length co46 : Value).ownBlock) (.slice Ao46 t607.length co46) t607 1 t627 t628 w _ ?side1 ?side2 A107.out).mono ?_); (case side1 => repeat (first | (with_reducible first | exact HB.out | apply below_alloc | apply pw_below_drewN | apply below_drew1 | refine below_set ?_ GE583.out | refine below_set ?_ GE597.out | refine below_set ?_ GE602.out | refine below_set ?_ GE611.out) | exact HB.out)); (case side2 => exact Kd.R_tight rfl HO_612001.out); rintro e w114 ⟨rfl, hy0, hb, hkp⟩; refine ⟨_, rfl, ?_⟩; have n0_ := Aside0.mk (Kd.R_mono (ok' := fun k_ => some k_ ≠ (.slice Ao36 t623.length co36 : Value).ownBlock ∧ some k_ ≠ (.slice Ao46 t607.length co46 : Value).ownBlock) (Kd.R_keptB (HO_598001.out) hkp (fun k_ hk_ hs_ => (hk_.2) hs_)) (fun k_ hk_ => ⟨hk_.1.1, hk_.1.2⟩)); have n1_ := Aside0.mk (Kd.R_mono (ok' := fun k_ => some k_ ≠ (.slice Ao29 t593.length co29 : Value).ownBlock ∧ some k_ ≠ (.slice Ao46 t607.length co46 : Value).ownBlock) (Kd.R_keptB (HO_603001.out) hkp (fun k_ hk_ hs_ => (hk_.2) hs_)) (fun k_ hk_ => ⟨hk_.1.1, hk_.1.2⟩)); have n2_ := Aside0.mk (Kd.R_reok rfl hy0 (fun k_ e_ => HO_612001.out.1 k_ e_)); have n3_ := Aside0.mk (blk_kept (by (with_reducible repeat (first | refine blk_drewN ?_ _ | refine blk_drew ?_ | refine blk_alloc ?_ _)); exact BK583.out) hkp (fun hs_ => (fun e_ => (Kd.R_ne HO_612001.out BK583.out (by decide)) e_) hs_)); have n4_ := Aside0.mk (blk_kept (by (with_reducible repeat (first | refine blk_drewN ?_ _ | refine blk_drew ?_ | refine blk_alloc ?_ _)); exact BK597.out) hkp (fun hs_ => (fun e_ => (Kd.R_ne HO_612001.out BK597.out (by decide)) e_) hs_)); have n5_ := Aside0.mk (blk_kept (by (with_reducible repeat (first | refine blk_drewN ?_ _ | refine blk_drew ?_ | refine blk_alloc ?_ _)); exact BK602.out) hkp (fun hs_ => (fun e_ => (Kd.R_ne HO_612001.out BK602.out (by decide)) e_) hs_)); have n6_ := Aside0.mk (blk_kept (by (with_reducible repeat (first | refine blk_drewN ?_ _ | refine blk_drew ?_ | refine blk_alloc ?_ _)); exact BK611.out) hkp (fun hs_ => (fun e_ => (Kd.R_ne HO_612001.out BK611.out (by decide)) e_) hs_)); have n7_ := Aside0.mk (hb); clear HO_598001; clear HO_603001; clear HO_612001; clear BK583; clear BK597; clear BK602; clear BK611; clear HB; have HO_598001 := n0_; have HO_603001 := n1_; have HO_612001 := n2_; have BK583 := n3_; have BK597 := n4_; have BK602 := n5_; have BK611 := n6_; have HB := n7_; clear n0_ n1_ n2_ n3_ n4_ n5_ n6_ n7_; (try clear hb); (try clear hkp); (try clear hy0); have hcz115_0 : w114.cell? ⟨gb611, 0, none⟩ = some (.int .i64 t606) := (blk_cell BK611.out 0).trans rfl; have hcz115_1 : w114.cell? ⟨gb611, 1, none⟩ = some (.slice Ao46 t607.length co46) := (blk_cell BK611.out 1).trans rfl; have hfz115_0 := blk_frozen BK611.out 0; have hfz115_1 := blk_frozen BK611.out 1) | ((with_reducible refine gate_callee (f := 26) rfl ?_); refine goesL_ (some 86) rfl rfl Try.func26 (by kernel_rfl) rfl #[.agg #[.int .i64 t606, .slice Ao46 t628.length co46], .int .i64 1] rfl (by (try simp only [List.map_toArray, List.map_cons, List.map_nil]); first | done | (rw [show t628.length = t607.length from (Kd.R_reads' HO_612001.out).1.symm] <;> rfl) | rfl | (simp only [List.length_drop, List.length_take]; rfl)) ?_; (with_reducible refine (laws_heldOrder.calls kj73 t606 _ _ t628 1 t629 _ ?side1 ?side2 A108.out).mono ?_); (case side1 => repeat (first | exact (Kd.R_reads' HO_612001.out).2.2 | (with_reducible refine Kd.C_alloc ?_ _) | (with_reducible refine Kd.C_drewN ?_ _) | (with_reducible refine Kd.C_drew ?_))); (case side2 => rw [show t628.length = t607.length from (Kd.R_reads' HO_612001.out).1.symm]; exact (Kd.R_reads' HO_612001.out).2.1); rintro e w116 ⟨rfl, hb⟩; refine ⟨_, rfl, ?_⟩; have n0_ := Aside0.mk (Kd.R_below (by (with_reducible repeat (first | apply Kd.R_alloc | apply Kd.R_drewN | apply Kd.R_drew)); exact HO_598001.out) hb); have n1_ := Aside0.mk (Kd.R_below (by (with_reducible repeat (first | apply Kd.R_alloc | apply Kd.R_drewN | apply Kd.R_drew)); exact HO_603001.out) hb); have n2_ := Aside0.mk (Kd.R_below (by (with_reducible repeat (first | apply Kd.R_alloc | apply Kd.R_drewN | apply Kd.R_drew)); exact HO_612001.out) hb); have n3_ := Aside0.mk (blk_below (g := gb583) (o := .cells #[.int .i64 a0_0, .slice A0_1 l0_1.length c0_1] 33 (0, 0)) (by (with_reducible repeat (first | refine blk_drewN ?_ _ | refine blk_drew ?_ | refine blk_alloc ?_ _)); exact BK583.out) hb); have n4_ := Aside0.mk (blk_below (g := gb597) (o := .cells #[.int .i64 t592, .slice Ao29 t593.length co29] 37 (0, 0)) (by (with_reducible repeat (first | refine blk_drewN ?_ _ | refine blk_drew ?_ | refine blk_alloc ?_ _)); exact BK597.out) hb); have n5_ := Aside0.mk (blk_below (g := gb602) (o := .cells #[.int .i64 t598, .slice Ao36 t623.length co36] 37 (0, 0)) (by (with_reducible repeat (first | refine blk_drewN ?_ _ | refine blk_drew ?_ | refine blk_alloc ?_ _)); exact BK602.out) hb); have n6_ := Aside0.mk (blk_below (g := gb611) (o := .cells #[.int .i64 t606, .slice Ao46 t607.length co46] 37 (0, 0)) (by (with_reducible repeat (first | refine blk_drewN ?_ _ | refine blk_drew ?_ | refine blk_alloc ?_ _)); exact BK611.out) hb); have n7_ := Aside0.mk (below_step (by repeat (first | (with_reducible first | exact HB.out | apply below_alloc | apply pw_below_drewN | apply below_drew1 | refine below_set ?_ GE583.out | refine below_set ?_ GE597.out | refine below_set ?_ GE602.out | refine below_set ?_ GE611.out) | exact HB.out)) hb); clear HO_598001; clear HO_603001; clear HO_612001; clear BK583; clear BK597; clear BK602; clear BK611; clear HB; have HO_598001 := n0_; have HO_603001 := n1_; have HO_612001 := n2_; have BK583 := n3_; have BK597 := n4_; have BK602 := n5_; have BK611 := n6_; have HB := n7_; clear n0_ n1_ n2_ n3_ n4_ n5_ n6_ n7_; (try clear hb); (try clear hb2); (try clear hk); (try clear hi)))
                        go_ret
                        exact ⟨by first | rfl | (simp [errW_none, errW_some] <;> rfl) | (simp [*, errW_none, errW_some] <;> rfl), by repeat (first | (with_reducible first | exact HB.out | apply below_alloc | apply pw_below_drewN | apply below_drew1 | refine below_set ?_ GE583.out | refine below_set ?_ GE597.out | refine below_set ?_ GE602.out | refine below_set ?_ GE611.out) | exact HB.out)⟩
                      · rw [if_neg c109] at H
                        have c109b0 : decide (t629 < 0) = false := decide_eq_false c109
                        clear c109
                        by_cases c117 : t629 = t627
                        · rw [if_pos c117] at H
                          have c117b0 : (t629 == t627) = true := beq_iff_eq.mpr c117
                          have c117b1 : (t629 != t627) = false := bne_eq_false_iff_eq.mpr c117
                          clear c117
                          replace H := Option.bind_eq_some_iff.mp H
                          obtain ⟨⟨t630, t631⟩, A1180, H⟩ := H
                          replace H : ((laws_toIntS.f kj73 l1).bind fun t634 => ((impl_PartOf.f kj73 t630 t631 t634).bind fun bt637 => ((laws_eqOrder.f kj73 bt637.1 bt637.2.1 t592 t593).bind fun t643 => (if t643 = true then (laws_FnExactPartOf.j2 kj73 t627 (bt637.2.2 != t596) t606 t628) else (laws_FnExactPartOf.j2 kj73 t627 true t606 t628))))) = some r := H
                          have A118 := Aside0.mk A1180
                          clear A1180
                          replace H := Option.bind_eq_some_iff.mp H
                          obtain ⟨t634, A1190, H⟩ := H
                          replace H : ((impl_PartOf.f kj73 t630 t631 t634).bind fun bt637 => ((laws_eqOrder.f kj73 bt637.1 bt637.2.1 t592 t593).bind fun t643 => (if t643 = true then (laws_FnExactPartOf.j2 kj73 t627 (bt637.2.2 != t596) t606 t628) else (laws_FnExactPartOf.j2 kj73 t627 true t606 t628)))) = some r := H
                          have A119 := Aside0.mk A1190
                          clear A1190
                          replace H := Option.bind_eq_some_iff.mp H
                          obtain ⟨⟨t637, t638, t641⟩, A1200, H⟩ := H
                          replace H : ((laws_eqOrder.f kj73 t637 t638 t592 t593).bind fun t643 => (if t643 = true then (laws_FnExactPartOf.j2 kj73 t627 (t641 != t596) t606 t628) else (laws_FnExactPartOf.j2 kj73 t627 true t606 t628))) = some r := H
                          have A120 := Aside0.mk A1200
                          clear A1200
                          have HC121 := Aside0.mk H
                          clear H
                          have hnb122 := NB611_583.out
                          have hnc122 := NB583_611.out
                          have hnb123 := NB611_597.out
                          have hnc123 := NB597_611.out
                          have hnb124 := NB611_602.out
                          have hnc124 := NB602_611.out
                          have hcz125_0 : wc.cell? ⟨gb611, 0, none⟩ = some (.int .i64 t606) := (blk_cell BK611.out 0).trans rfl
                          have hcz125_1 : wc.cell? ⟨gb611, 1, none⟩ = some (.slice Ao46 t607.length co46) := (blk_cell BK611.out 1).trans rfl
                          have hfz125_0 := blk_frozen BK611.out 0
                          have hfz125_1 := blk_frozen BK611.out 1
                          go_upto_region 31 with (first | ((with_reducible refine gate_callee (f := 25) rfl ?_); refine goesL_ (some 83) rfl rfl Try.func25 (by kernel_rfl) rfl #[.agg #[.int .i64 t606, .slice Ao46 t607.length co46], .int .i64 1] rfl (by (try simp only [List.map_toArray, List.map_cons, List.map_nil]); first | done | rfl | (simp only [List.length_drop, List.length_take]; rfl)) ?_; (with_reducible refine (laws_markOrder.calls kj73 t606 (fun k_ => some k_ = (.slice Ao46 t607.length co46 : Value).ownBlock) (.slice Ao46 t607.length co46) t607 1 t627 t628 w _ ?side1 ?side2 A107.out).mono ?_); (case side1 => repeat (first | (with_reducible first | exact HB.out | apply below_alloc | apply pw_below_drewN | apply below_drew1 | refine below_set ?_ GE583.out | refine below_set ?_ GE597.out | refine below_set ?_ GE602.out | refine below_set ?_ GE611.out) | exact HB.out)); (case side2 => exact Kd.R_tight rfl HO_612001.out); rintro e w126 ⟨rfl, hy0, hb, hkp⟩; refine ⟨_, rfl, ?_⟩; have n0_ := Aside0.mk (Kd.R_mono (ok' := fun k_ => some k_ ≠ (.slice Ao36 t623.length co36 : Value).ownBlock ∧ some k_ ≠ (.slice Ao46 t607.length co46 : Value).ownBlock) (Kd.R_keptB (HO_598001.out) hkp (fun k_ hk_ hs_ => (hk_.2) hs_)) (fun k_ hk_ => ⟨hk_.1.1, hk_.1.2⟩)); have n1_ := Aside0.mk (Kd.R_mono (ok' := fun k_ => some k_ ≠ (.slice Ao29 t593.length co29 : Value).ownBlock ∧ some k_ ≠ (.slice Ao46 t607.length co46 : Value).ownBlock) (Kd.R_keptB (HO_603001.out) hkp (fun k_ hk_ hs_ => (hk_.2) hs_)) (fun k_ hk_ => ⟨hk_.1.1, hk_.1.2⟩)); have n2_ := Aside0.mk (Kd.R_reok rfl hy0 (fun k_ e_ => HO_612001.out.1 k_ e_)); have n3_ := Aside0.mk (blk_kept (by (with_reducible repeat (first | refine blk_drewN ?_ _ | refine blk_drew ?_ | refine blk_alloc ?_ _)); exact BK583.out) hkp (fun hs_ => (fun e_ => (Kd.R_ne HO_612001.out BK583.out (by decide)) e_) hs_)); have n4_ := Aside0.mk (blk_kept (by (with_reducible repeat (first | refine blk_drewN ?_ _ | refine blk_drew ?_ | refine blk_alloc ?_ _)); exact BK597.out) hkp (fun hs_ => (fun e_ => (Kd.R_ne HO_612001.out BK597.out (by decide)) e_) hs_)); have n5_ := Aside0.mk (blk_kept (by (with_reducible repeat (first | refine blk_drewN ?_ _ | refine blk_drew ?_ | refine blk_alloc ?_ _)); exact BK602.out) hkp (fun hs_ => (fun e_ => (Kd.R_ne HO_612001.out BK602.out (by decide)) e_) hs_)); have n6_ := Aside0.mk (blk_kept (by (with_reducible repeat (first | refine blk_drewN ?_ _ | refine blk_drew ?_ | refine blk_alloc ?_ _)); exact BK611.out) hkp (fun hs_ => (fun e_ => (Kd.R_ne HO_612001.out BK611.out (by decide)) e_) hs_)); have n7_ := Aside0.mk (hb); clear HO_598001; clear HO_603001; clear HO_612001; clear BK583; clear BK597; clear BK602; clear BK611; clear HB; have HO_598001 := n0_; have HO_603001 := n1_; have HO_612001 := n2_; have BK583 := n3_; have BK597 := n4_; have BK602 := n5_; have BK611 := n6_; have HB := n7_; clear n0_ n1_ n2_ n3_ n4_ n5_ n6_ n7_; (try clear hb); (try clear hkp); (try clear hy0); have hcz127_0 : w126.cell? ⟨gb611, 0, none⟩ = some (.int .i64 t606) := (blk_cell BK611.out 0).trans rfl; have hcz127_1 : w126.cell? ⟨gb611, 1, none⟩ = some (.slice Ao46 t607.length co46) := (blk_cell BK611.out 1).trans rfl; have hfz127_0 := blk_frozen BK611.out 0; have hfz127_1 := blk_frozen BK611.out 1) | ((with_reducible refine gate_callee (f := 26) rfl ?_); refine goesL_ (some 86) rfl rfl Try.func26 (by kernel_rfl) rfl #[.agg #[.int .i64 t606, .slice Ao46 t628.length co46], .int .i64 1] rfl (by (try simp only [List.map_toArray, List.map_cons, List.map_nil]); first | done | (rw [show t628.length = t607.length from (Kd.R_reads' HO_612001.out).1.symm] <;> rfl) | rfl | (simp only [List.length_drop, List.length_take]; rfl)) ?_; (with_reducible refine (laws_heldOrder.calls kj73 t606 _ _ t628 1 t629 _ ?side1 ?side2 A108.out).mono ?_); (case side1 => repeat (first | exact (Kd.R_reads' HO_612001.out).2.2 | (with_reducible refine Kd.C_alloc ?_ _) | (with_reducible refine Kd.C_drewN ?_ _) | (with_reducible refine Kd.C_drew ?_))); (case side2 => rw [show t628.length = t607.length from (Kd.R_reads' HO_612001.out).1.symm]; exact (Kd.R_reads' HO_612001.out).2.1); rintro e w128 ⟨rfl, hb⟩; refine ⟨_, rfl, ?_⟩; have n0_ := Aside0.mk (Kd.R_below (by (with_reducible repeat (first | apply Kd.R_alloc | apply Kd.R_drewN | apply Kd.R_drew)); exact HO_598001.out) hb); have n1_ := Aside0.mk (Kd.R_below (by (with_reducible repeat (first | apply Kd.R_alloc | apply Kd.R_drewN | apply Kd.R_drew)); exact HO_603001.out) hb); have n2_ := Aside0.mk (Kd.R_below (by (with_reducible repeat (first | apply Kd.R_alloc | apply Kd.R_drewN | apply Kd.R_drew)); exact HO_612001.out) hb); have n3_ := Aside0.mk (blk_below (g := gb583) (o := .cells #[.int .i64 a0_0, .slice A0_1 l0_1.length c0_1] 33 (0, 0)) (by (with_reducible repeat (first | refine blk_drewN ?_ _ | refine blk_drew ?_ | refine blk_alloc ?_ _)); exact BK583.out) hb); have n4_ := Aside0.mk (blk_below (g := gb597) (o := .cells #[.int .i64 t592, .slice Ao29 t593.length co29] 37 (0, 0)) (by (with_reducible repeat (first | refine blk_drewN ?_ _ | refine blk_drew ?_ | refine blk_alloc ?_ _)); exact BK597.out) hb); have n5_ := Aside0.mk (blk_below (g := gb602) (o := .cells #[.int .i64 t598, .slice Ao36 t623.length co36] 37 (0, 0)) (by (with_reducible repeat (first | refine blk_drewN ?_ _ | refine blk_drew ?_ | refine blk_alloc ?_ _)); exact BK602.out) hb); have n6_ := Aside0.mk (blk_below (g := gb611) (o := .cells #[.int .i64 t606, .slice Ao46 t607.length co46] 37 (0, 0)) (by (with_reducible repeat (first | refine blk_drewN ?_ _ | refine blk_drew ?_ | refine blk_alloc ?_ _)); exact BK611.out) hb); have n7_ := Aside0.mk (below_step (by repeat (first | (with_reducible first | exact HB.out | apply below_alloc | apply pw_below_drewN | apply below_drew1 | refine below_set ?_ GE583.out | refine below_set ?_ GE597.out | refine below_set ?_ GE602.out | refine below_set ?_ GE611.out) | exact HB.out)) hb); clear HO_598001; clear HO_603001; clear HO_612001; clear BK583; clear BK597; clear BK602; clear BK611; clear HB; have HO_598001 := n0_; have HO_603001 := n1_; have HO_612001 := n2_; have BK583 := n3_; have BK597 := n4_; have BK602 := n5_; have BK611 := n6_; have HB := n7_; clear n0_ n1_ n2_ n3_ n4_ n5_ n6_ n7_; (try clear hb); (try clear hb2); (try clear hk); (try clear hi); have hnb129 := NB583_597.out; have hnc129 := NB597_583.out; have hnb130 := NB583_602.out; have hnc130 := NB602_583.out; have hcz131_0 : w128.cell? ⟨gb583, 0, none⟩ = some (.int .i64 a0_0) := (blk_cell BK583.out 0).trans rfl; have hcz131_1 : w128.cell? ⟨gb583, 1, none⟩ = some (.slice A0_1 l0_1.length c0_1) := (blk_cell BK583.out 1).trans rfl; have hfz131_0 := blk_frozen BK583.out 0; have hfz131_1 := blk_frozen BK583.out 1) | ((with_reducible refine gate_callee (f := 20) rfl ?_); refine goesL_ (some 94) rfl rfl Try.func20 (by kernel_rfl) rfl #[.agg #[.int .i64 a0_0, .slice A0_1 l0_1.length c0_1]] rfl (by (try simp only [List.map_toArray, List.map_cons, List.map_nil]); first | done | rfl | (simp only [List.length_drop, List.length_take]; rfl)) ?_; (with_reducible refine (laws_toOrder.calls kj73 a0_0 _ _ l0_1 t630 t631 _ ?side1 ?side2 A118.out).mono ?_); (case side1 => repeat (first | exact (Kd.C_below HR0_1.out HB.out) | (with_reducible refine Kd.C_alloc ?_ _) | (with_reducible refine Kd.C_drewN ?_ _) | (with_reducible refine Kd.C_drew ?_))); (case side2 => exact HC0_1.out); rintro e w132 ⟨v632, rfl, ho0, hb⟩; refine ⟨_, rfl, ?_⟩; have n0_ := Aside0.mk (Kd.R_elder' (by (with_reducible repeat (first | apply Kd.R_alloc | apply Kd.R_drewN | apply Kd.R_drew)); exact HO_598001.out) (Kd.R_base ho0) hb); have n1_ := Aside0.mk (Kd.R_elder' (by (with_reducible repeat (first | apply Kd.R_alloc | apply Kd.R_drewN | apply Kd.R_drew)); exact HO_603001.out) (Kd.R_base ho0) hb); have n2_ := Aside0.mk (Kd.R_elder' (by (with_reducible repeat (first | apply Kd.R_alloc | apply Kd.R_drewN | apply Kd.R_drew)); exact HO_612001.out) (Kd.R_base ho0) hb); have n3_ := Aside0.mk (Kd.R_lower (Kd.R_new' (Kd.R_new' (Kd.R_new' ho0 (Kd.R_lt (by (with_reducible repeat (first | apply Kd.R_alloc | apply Kd.R_drewN | apply Kd.R_drew)); exact HO_598001.out))) (Kd.R_lt (by (with_reducible repeat (first | apply Kd.R_alloc | apply Kd.R_drewN | apply Kd.R_drew)); exact HO_603001.out))) (Kd.R_lt (by (with_reducible repeat (first | apply Kd.R_alloc | apply Kd.R_drewN | apply Kd.R_drew)); exact HO_612001.out))) (below_size (by repeat (first | (with_reducible first | exact HB.out | apply below_alloc | apply pw_below_drewN | apply below_drew1 | refine below_set ?_ GE583.out | refine below_set ?_ GE597.out | refine below_set ?_ GE602.out | refine below_set ?_ GE611.out) | exact HB.out)))); have n4_ := Aside0.mk (blk_below (g := gb583) (o := .cells #[.int .i64 a0_0, .slice A0_1 l0_1.length c0_1] 33 (0, 0)) (by (with_reducible repeat (first | refine blk_drewN ?_ _ | refine blk_drew ?_ | refine blk_alloc ?_ _)); exact BK583.out) hb); have n5_ := Aside0.mk (blk_below (g := gb597) (o := .cells #[.int .i64 t592, .slice Ao29 t593.length co29] 37 (0, 0)) (by (with_reducible repeat (first | refine blk_drewN ?_ _ | refine blk_drew ?_ | refine blk_alloc ?_ _)); exact BK597.out) hb); have n6_ := Aside0.mk (blk_below (g := gb602) (o := .cells #[.int .i64 t598, .slice Ao36 t623.length co36] 37 (0, 0)) (by (with_reducible repeat (first | refine blk_drewN ?_ _ | refine blk_drew ?_ | refine blk_alloc ?_ _)); exact BK602.out) hb); have n7_ := Aside0.mk (blk_below (g := gb611) (o := .cells #[.int .i64 t606, .slice Ao46 t607.length co46] 37 (0, 0)) (by (with_reducible repeat (first | refine blk_drewN ?_ _ | refine blk_drew ?_ | refine blk_alloc ?_ _)); exact BK611.out) hb); have n8_ := Aside0.mk (below_step (by repeat (first | (with_reducible first | exact HB.out | apply below_alloc | apply pw_below_drewN | apply below_drew1 | refine below_set ?_ GE583.out | refine below_set ?_ GE597.out | refine below_set ?_ GE602.out | refine below_set ?_ GE611.out) | exact HB.out)) hb); clear HO_598001; clear HO_603001; clear HO_612001; clear BK583; clear BK597; clear BK602; clear BK611; clear HB; have HO_598001 := n0_; have HO_603001 := n1_; have HO_612001 := n2_; have HO633 := n3_; have BK583 := n4_; have BK597 := n5_; have BK602 := n6_; have BK611 := n7_; have HB := n8_; clear n0_ n1_ n2_ n3_ n4_ n5_ n6_ n7_ n8_; (try clear hb); (try clear hb2); (try clear hk); (try clear hi); (try clear ho0)) | ((with_reducible refine gate_callee (f := 34) rfl ?_); refine goesL_ (some 96) rfl rfl Try.func34 (by kernel_rfl) rfl #[.slice A1 l1.length c1] rfl (by (try simp only [List.map_toArray, List.map_cons, List.map_nil]); first | done | rfl | (simp only [List.length_drop, List.length_take]; rfl)) ?_; (with_reducible refine (laws_toIntS.calls kj73 _ _ l1 t634 _ ?side1 ?side2 A119.out).mono ?_); (case side1 => repeat (first | exact (Kd.C_below HR1.out HB.out) | (with_reducible refine Kd.C_alloc ?_ _) | (with_reducible refine Kd.C_drewN ?_ _) | (with_reducible refine Kd.C_drew ?_))); (case side2 => exact HC1.out); rintro e w133 ⟨v635, rfl, ho0, hb⟩; refine ⟨_, rfl, ?_⟩; have n0_ := Aside0.mk (Kd.R_elder' (by (with_reducible repeat (first | apply Kd.R_alloc | apply Kd.R_drewN | apply Kd.R_drew)); exact HO_598001.out) (Kd.R_base ho0) hb); have n1_ := Aside0.mk (Kd.R_elder' (by (with_reducible repeat (first | apply Kd.R_alloc | apply Kd.R_drewN | apply Kd.R_drew)); exact HO_603001.out) (Kd.R_base ho0) hb); have n2_ := Aside0.mk (Kd.R_elder' (by (with_reducible repeat (first | apply Kd.R_alloc | apply Kd.R_drewN | apply Kd.R_drew)); exact HO_612001.out) (Kd.R_base ho0) hb); have n3_ := Aside0.mk (Kd.R_elder' (by (with_reducible repeat (first | apply Kd.R_alloc | apply Kd.R_drewN | apply Kd.R_drew)); exact HO633.out) (Kd.R_base ho0) hb); have n4_ := Aside0.mk (Kd.R_lower (Kd.R_new' (Kd.R_new' (Kd.R_new' (Kd.R_new' ho0 (Kd.R_lt (by (with_reducible repeat (first | apply Kd.R_alloc | apply Kd.R_drewN | apply Kd.R_drew)); exact HO_598001.out))) (Kd.R_lt (by (with_reducible repeat (first | apply Kd.R_alloc | apply Kd.R_drewN | apply Kd.R_drew)); exact HO_603001.out))) (Kd.R_lt (by (with_reducible repeat (first | apply Kd.R_alloc | apply Kd.R_drewN | apply Kd.R_drew)); exact HO_612001.out))) (Kd.R_lt (by (with_reducible repeat (first | apply Kd.R_alloc | apply Kd.R_drewN | apply Kd.R_drew)); exact HO633.out))) (below_size (by repeat (first | (with_reducible first | exact HB.out | apply below_alloc | apply pw_below_drewN | apply below_drew1 | refine below_set ?_ GE583.out | refine below_set ?_ GE597.out | refine below_set ?_ GE602.out | refine below_set ?_ GE611.out) | exact HB.out)))); have n5_ := Aside0.mk (blk_below (g := gb583) (o := .cells #[.int .i64 a0_0, .slice A0_1 l0_1.length c0_1] 33 (0, 0)) (by (with_reducible repeat (first | refine blk_drewN ?_ _ | refine blk_drew ?_ | refine blk_alloc ?_ _)); exact BK583.out) hb); have n6_ := Aside0.mk (blk_below (g := gb597) (o := .cells #[.int .i64 t592, .slice Ao29 t593.length co29] 37 (0, 0)) (by (with_reducible repeat (first | refine blk_drewN ?_ _ | refine blk_drew ?_ | refine blk_alloc ?_ _)); exact BK597.out) hb); have n7_ := Aside0.mk (blk_below (g := gb602) (o := .cells #[.int .i64 t598, .slice Ao36 t623.length co36] 37 (0, 0)) (by (with_reducible repeat (first | refine blk_drewN ?_ _ | refine blk_drew ?_ | refine blk_alloc ?_ _)); exact BK602.out) hb); have n8_ := Aside0.mk (blk_below (g := gb611) (o := .cells #[.int .i64 t606, .slice Ao46 t607.length co46] 37 (0, 0)) (by (with_reducible repeat (first | refine blk_drewN ?_ _ | refine blk_drew ?_ | refine blk_alloc ?_ _)); exact BK611.out) hb); have n9_ := Aside0.mk (below_step (by repeat (first | (with_reducible first | exact HB.out | apply below_alloc | apply pw_below_drewN | apply below_drew1 | refine below_set ?_ GE583.out | refine below_set ?_ GE597.out | refine below_set ?_ GE602.out | refine below_set ?_ GE611.out) | exact HB.out)) hb); clear HO_598001; clear HO_603001; clear HO_612001; clear HO633; clear BK583; clear BK597; clear BK602; clear BK611; clear HB; have HO_598001 := n0_; have HO_603001 := n1_; have HO_612001 := n2_; have HO633 := n3_; have HO636 := n4_; have BK583 := n5_; have BK597 := n6_; have BK602 := n7_; have BK611 := n8_; have HB := n9_; clear n0_ n1_ n2_ n3_ n4_ n5_ n6_ n7_ n8_ n9_; (try clear hb); (try clear hb2); (try clear hk); (try clear hi); (try clear ho0); obtain ⟨Ao134, co134, eo134⟩ := Kd.R_slice HO633.out; subst eo134; obtain ⟨Ao135, co135, eo135⟩ := Kd.R_slice HO636.out; subst eo135) | ((with_reducible refine gate_callee (f := 35) rfl ?_); refine goesL_ (some 97) rfl rfl Try.func35 (by kernel_rfl) rfl #[.agg #[.int .i64 t630, .slice Ao134 t631.length co134], .slice Ao135 t634.length co135] rfl (by (try simp only [List.map_toArray, List.map_cons, List.map_nil]); first | done | rfl | (simp only [List.length_drop, List.length_take]; rfl)) ?_; (with_reducible refine (impl_PartOf.calls kj73 t630 _ _ t631 _ _ t634 t637 t638 t641 _ ?side1 ?side2 ?side3 ?side4 A120.out).mono ?_); (case side1 => repeat (first | exact (Kd.R_reads' HO633.out).2.2 | (with_reducible refine Kd.C_alloc ?_ _) | (with_reducible refine Kd.C_drewN ?_ _) | (with_reducible refine Kd.C_drew ?_))); (case side2 => exact (Kd.R_reads' HO633.out).2.1); (case side3 => repeat (first | exact (Kd.R_reads' HO636.out).2.2 | (with_reducible refine Kd.C_alloc ?_ _) | (with_reducible refine Kd.C_drewN ?_ _) | (with_reducible refine Kd.C_drew ?_))); (case side4 => exact (Kd.R_reads' HO636.out).2.1); rintro e w136 ⟨v639, rfl, ho0, hb⟩; refine ⟨_, rfl, ?_⟩; have n0_ := Aside0.mk (Kd.R_elder' (by (with_reducible repeat (first | apply Kd.R_alloc | apply Kd.R_drewN | apply Kd.R_drew)); exact HO_598001.out) (Kd.R_base ho0) hb); have n1_ := Aside0.mk (Kd.R_elder' (by (with_reducible repeat (first | apply Kd.R_alloc | apply Kd.R_drewN | apply Kd.R_drew)); exact HO_603001.out) (Kd.R_base ho0) hb); have n2_ := Aside0.mk (Kd.R_elder' (by (with_reducible repeat (first | apply Kd.R_alloc | apply Kd.R_drewN | apply Kd.R_drew)); exact HO_612001.out) (Kd.R_base ho0) hb); have n3_ := Aside0.mk (Kd.R_elder' (by (with_reducible repeat (first | apply Kd.R_alloc | apply Kd.R_drewN | apply Kd.R_drew)); exact HO633.out) (Kd.R_base ho0) hb); have n4_ := Aside0.mk (Kd.R_elder' (by (with_reducible repeat (first | apply Kd.R_alloc | apply Kd.R_drewN | apply Kd.R_drew)); exact HO636.out) (Kd.R_base ho0) hb); have n5_ := Aside0.mk (Kd.R_lower (Kd.R_new' (Kd.R_new' (Kd.R_new' (Kd.R_new' (Kd.R_new' ho0 (Kd.R_lt (by (with_reducible repeat (first | apply Kd.R_alloc | apply Kd.R_drewN | apply Kd.R_drew)); exact HO_598001.out))) (Kd.R_lt (by (with_reducible repeat (first | apply Kd.R_alloc | apply Kd.R_drewN | apply Kd.R_drew)); exact HO_603001.out))) (Kd.R_lt (by (with_reducible repeat (first | apply Kd.R_alloc | apply Kd.R_drewN | apply Kd.R_drew)); exact HO_612001.out))) (Kd.R_lt (by (with_reducible repeat (first | apply Kd.R_alloc | apply Kd.R_drewN | apply Kd.R_drew)); exact HO633.out))) (Kd.R_lt (by (with_reducible repeat (first | apply Kd.R_alloc | apply Kd.R_drewN | apply Kd.R_drew)); exact HO636.out))) (below_size (by repeat (first | (with_reducible first | exact HB.out | apply below_alloc | apply pw_below_drewN | apply below_drew1 | refine below_set ?_ GE583.out | refine below_set ?_ GE597.out | refine below_set ?_ GE602.out | refine below_set ?_ GE611.out) | exact HB.out)))); have n6_ := Aside0.mk (blk_below (g := gb583) (o := .cells #[.int .i64 a0_0, .slice A0_1 l0_1.length c0_1] 33 (0, 0)) (by (with_reducible repeat (first | refine blk_drewN ?_ _ | refine blk_drew ?_ | refine blk_alloc ?_ _)); exact BK583.out) hb); have n7_ := Aside0.mk (blk_below (g := gb597) (o := .cells #[.int .i64 t592, .slice Ao29 t593.length co29] 37 (0, 0)) (by (with_reducible repeat (first | refine blk_drewN ?_ _ | refine blk_drew ?_ | refine blk_alloc ?_ _)); exact BK597.out) hb); have n8_ := Aside0.mk (blk_below (g := gb602) (o := .cells #[.int .i64 t598, .slice Ao36 t623.length co36] 37 (0, 0)) (by (with_reducible repeat (first | refine blk_drewN ?_ _ | refine blk_drew ?_ | refine blk_alloc ?_ _)); exact BK602.out) hb); have n9_ := Aside0.mk (blk_below (g := gb611) (o := .cells #[.int .i64 t606, .slice Ao46 t607.length co46] 37 (0, 0)) (by (with_reducible repeat (first | refine blk_drewN ?_ _ | refine blk_drew ?_ | refine blk_alloc ?_ _)); exact BK611.out) hb); have n10_ := Aside0.mk (below_step (by repeat (first | (with_reducible first | exact HB.out | apply below_alloc | apply pw_below_drewN | apply below_drew1 | refine below_set ?_ GE583.out | refine below_set ?_ GE597.out | refine below_set ?_ GE602.out | refine below_set ?_ GE611.out) | exact HB.out)) hb); clear HO_598001; clear HO_603001; clear HO_612001; clear HO633; clear HO636; clear BK583; clear BK597; clear BK602; clear BK611; clear HB; have HO_598001 := n0_; have HO_603001 := n1_; have HO_612001 := n2_; have HO633 := n3_; have HO636 := n4_; have HO640 := n5_; have BK583 := n6_; have BK597 := n7_; have BK602 := n8_; have BK611 := n9_; have HB := n10_; clear n0_ n1_ n2_ n3_ n4_ n5_ n6_ n7_ n8_ n9_ n10_; (try clear hb); (try clear hb2); (try clear hk); (try clear hi); (try clear ho0)) | ((with_reducible refine gate_dst (N := 15) rfl ?_); refine box_event ?hg (N := 15) ?hd (cs := #[.int .i64 0, .slice none 0 0]) (t := 37) ?hr ?_; (case hd => rfl); (case hg => rfl); (case hr => first | (go_simp; done) | (go_simp; rfl)); intro gb642 hg w137 hbox hb; have n0_ := Aside0.mk (Kd.R_below (by (with_reducible repeat (first | apply Kd.R_alloc | apply Kd.R_drewN | apply Kd.R_drew)); exact HO_598001.out) hb); have n1_ := Aside0.mk (Kd.R_below (by (with_reducible repeat (first | apply Kd.R_alloc | apply Kd.R_drewN | apply Kd.R_drew)); exact HO_603001.out) hb); have n2_ := Aside0.mk (Kd.R_below (by (with_reducible repeat (first | apply Kd.R_alloc | apply Kd.R_drewN | apply Kd.R_drew)); exact HO_612001.out) hb); have n3_ := Aside0.mk (Kd.R_below (by (with_reducible repeat (first | apply Kd.R_alloc | apply Kd.R_drewN | apply Kd.R_drew)); exact HO633.out) hb); have n4_ := Aside0.mk (Kd.R_below (by (with_reducible repeat (first | apply Kd.R_alloc | apply Kd.R_drewN | apply Kd.R_drew)); exact HO636.out) hb); have n5_ := Aside0.mk (Kd.R_below (by (with_reducible repeat (first | apply Kd.R_alloc | apply Kd.R_drewN | apply Kd.R_drew)); exact HO640.out) hb); have n6_ := Aside0.mk (blk_below (g := gb583) (o := .cells #[.int .i64 a0_0, .slice A0_1 l0_1.length c0_1] 33 (0, 0)) (by (with_reducible repeat (first | refine blk_drewN ?_ _ | refine blk_drew ?_ | refine blk_alloc ?_ _)); exact BK583.out) hb); have n7_ := Aside0.mk (blk_below (g := gb597) (o := .cells #[.int .i64 t592, .slice Ao29 t593.length co29] 37 (0, 0)) (by (with_reducible repeat (first | refine blk_drewN ?_ _ | refine blk_drew ?_ | refine blk_alloc ?_ _)); exact BK597.out) hb); have n8_ := Aside0.mk (blk_below (g := gb602) (o := .cells #[.int .i64 t598, .slice Ao36 t623.length co36] 37 (0, 0)) (by (with_reducible repeat (first | refine blk_drewN ?_ _ | refine blk_drew ?_ | refine blk_alloc ?_ _)); exact BK602.out) hb); have n9_ := Aside0.mk (blk_below (g := gb611) (o := .cells #[.int .i64 t606, .slice Ao46 t607.length co46] 37 (0, 0)) (by (with_reducible repeat (first | refine blk_drewN ?_ _ | refine blk_drew ?_ | refine blk_alloc ?_ _)); exact BK611.out) hb); have n10_ := Aside0.mk (below_step (by repeat (first | (with_reducible first | exact HB.out | apply below_alloc | apply pw_below_drewN | apply below_drew1 | refine below_set ?_ GE583.out | refine below_set ?_ GE597.out | refine below_set ?_ GE602.out | refine below_set ?_ GE611.out) | exact HB.out)) hb); have n11_ := Aside0.mk (hbox); have n12_ := Aside0.mk ((by rw [hg]; exact (below_size (by repeat (first | (with_reducible first | exact HB.out | apply below_alloc | apply pw_below_drewN | apply below_drew1 | refine below_set ?_ GE583.out | refine below_set ?_ GE597.out | refine below_set ?_ GE602.out | refine below_set ?_ GE611.out) | exact HB.out))) : w.heap.size ≤ gb642)); have n13_ := Aside0.mk ((by rw [hg]; exact (below_size (by repeat (first | (with_reducible first | exact HB.out | apply below_alloc | apply pw_below_drewN | apply below_drew1 | refine below_set ?_ GE583.out | refine below_set ?_ GE597.out | refine below_set ?_ GE602.out | refine below_set ?_ GE611.out) | exact HB.out))) : w.heap.size ≤ gb642)); have n14_ := Aside0.mk ((by rw [hg]; exact Nat.ne_of_lt (blk_lt (g := gb583) (o := .cells #[.int .i64 a0_0, .slice A0_1 l0_1.length c0_1] 33 (0, 0)) (by (with_reducible repeat (first | refine blk_drewN ?_ _ | refine blk_drew ?_ | refine blk_alloc ?_ _)); exact BK583.out)) : gb583 ≠ gb642)); have n15_ := Aside0.mk ((by rw [hg]; exact Nat.ne_of_gt (blk_lt (g := gb583) (o := .cells #[.int .i64 a0_0, .slice A0_1 l0_1.length c0_1] 33 (0, 0)) (by (with_reducible repeat (first | refine blk_drewN ?_ _ | refine blk_drew ?_ | refine blk_alloc ?_ _)); exact BK583.out)) : gb642 ≠ gb583)); have n16_ := Aside0.mk ((by rw [hg]; exact Nat.ne_of_lt (blk_lt (g := gb597) (o := .cells #[.int .i64 t592, .slice Ao29 t593.length co29] 37 (0, 0)) (by (with_reducible repeat (first | refine blk_drewN ?_ _ | refine blk_drew ?_ | refine blk_alloc ?_ _)); exact BK597.out)) : gb597 ≠ gb642)); have n17_ := Aside0.mk ((by rw [hg]; exact Nat.ne_of_gt (blk_lt (g := gb597) (o := .cells #[.int .i64 t592, .slice Ao29 t593.length co29] 37 (0, 0)) (by (with_reducible repeat (first | refine blk_drewN ?_ _ | refine blk_drew ?_ | refine blk_alloc ?_ _)); exact BK597.out)) : gb642 ≠ gb597)); have n18_ := Aside0.mk ((by rw [hg]; exact Nat.ne_of_lt (blk_lt (g := gb602) (o := .cells #[.int .i64 t598, .slice Ao36 t623.length co36] 37 (0, 0)) (by (with_reducible repeat (first | refine blk_drewN ?_ _ | refine blk_drew ?_ | refine blk_alloc ?_ _)); exact BK602.out)) : gb602 ≠ gb642)); have n19_ := Aside0.mk ((by rw [hg]; exact Nat.ne_of_gt (blk_lt (g := gb602) (o := .cells #[.int .i64 t598, .slice Ao36 t623.length co36] 37 (0, 0)) (by (with_reducible repeat (first | refine blk_drewN ?_ _ | refine blk_drew ?_ | refine blk_alloc ?_ _)); exact BK602.out)) : gb642 ≠ gb602)); have n20_ := Aside0.mk ((by rw [hg]; exact Nat.ne_of_lt (blk_lt (g := gb611) (o := .cells #[.int .i64 t606, .slice Ao46 t607.length co46] 37 (0, 0)) (by (with_reducible repeat (first | refine blk_drewN ?_ _ | refine blk_drew ?_ | refine blk_alloc ?_ _)); exact BK611.out)) : gb611 ≠ gb642)); have n21_ := Aside0.mk ((by rw [hg]; exact Nat.ne_of_gt (blk_lt (g := gb611) (o := .cells #[.int .i64 t606, .slice Ao46 t607.length co46] 37 (0, 0)) (by (with_reducible repeat (first | refine blk_drewN ?_ _ | refine blk_drew ?_ | refine blk_alloc ?_ _)); exact BK611.out)) : gb642 ≠ gb611)); clear HO_598001; clear HO_603001; clear HO_612001; clear HO633; clear HO636; clear HO640; clear BK583; clear BK597; clear BK602; clear BK611; clear HB; have HO_598001 := n0_; have HO_603001 := n1_; have HO_612001 := n2_; have HO633 := n3_; have HO636 := n4_; have HO640 := n5_; have BK583 := n6_; have BK597 := n7_; have BK602 := n8_; have BK611 := n9_; have HB := n10_; have BK642 := n11_; have GW642 := n12_; have GE642 := n13_; have NB583_642 := n14_; have NB642_583 := n15_; have NB597_642 := n16_; have NB642_597 := n17_; have NB602_642 := n18_; have NB642_602 := n19_; have NB611_642 := n20_; have NB642_611 := n21_; clear n0_ n1_ n2_ n3_ n4_ n5_ n6_ n7_ n8_ n9_ n10_ n11_ n12_ n13_ n14_ n15_ n16_ n17_ n18_ n19_ n20_ n21_; clear hb hbox hg; have hnb138 := NB642_583.out; have hnc138 := NB583_642.out; have hnb139 := NB642_597.out; have hnc139 := NB597_642.out; have hnb140 := NB642_602.out; have hnc140 := NB602_642.out; have hnb141 := NB642_611.out; have hnc141 := NB611_642.out; have hcz142_0 : w137.cell? ⟨gb642, 0, none⟩ = some (.int .i64 0) := (blk_cell BK642.out 0).trans rfl; have hcz142_1 : w137.cell? ⟨gb642, 1, none⟩ = some (.slice none 0 0) := (blk_cell BK642.out 1).trans rfl; have hfz142_0 := blk_frozen BK642.out 0; have hfz142_1 := blk_frozen BK642.out 1; obtain ⟨Ao143, co143, eo143⟩ := Kd.R_slice HO640.out; subst eo143))
                          (try simp only [Act.put, List.setIfInBounds_toArray, List.set_cons_zero, List.set_cons_succ])
                          go_cut [108] (fun v108 wc => ∃ (kq : Nat) (x108_120 : Bool), v108 = .bool x108_120 ∧ Aside0 (laws_FnExactPartOf.j2 kq t627 x108_120 t606 t628 = some r) ∧ Aside0 (kq ≤ kj73) ∧ Aside0 (Kd.R (Kd.int .i64) 3 wc w.heap.size (fun k_ => some k_ ≠ ((.slice Ao36 t623.length co36) : Value).ownBlock ∧ some k_ ≠ ((.slice Ao46 t607.length co46) : Value).ownBlock ∧ some k_ ≠ ((.slice Ao143 t638.length co143) : Value).ownBlock) (.slice Ao29 t593.length co29) t593) ∧ Aside0 (Kd.R (Kd.int .i64) 3 wc w.heap.size (fun k_ => some k_ ≠ ((.slice Ao29 t593.length co29) : Value).ownBlock ∧ some k_ ≠ ((.slice Ao46 t607.length co46) : Value).ownBlock ∧ some k_ ≠ ((.slice Ao143 t638.length co143) : Value).ownBlock) (.slice Ao36 t623.length co36) t623) ∧ Aside0 (Kd.R (Kd.int .i64) 3 wc w.heap.size (fun k_ => some k_ ≠ ((.slice Ao29 t593.length co29) : Value).ownBlock ∧ some k_ ≠ ((.slice Ao36 t623.length co36) : Value).ownBlock ∧ some k_ ≠ ((.slice Ao143 t638.length co143) : Value).ownBlock) (.slice Ao46 t607.length co46) t628) ∧ Aside0 (Kd.R (Kd.int .i64) 3 wc w.heap.size (fun k_ => some k_ ≠ ((.slice Ao29 t593.length co29) : Value).ownBlock ∧ some k_ ≠ ((.slice Ao36 t623.length co36) : Value).ownBlock ∧ some k_ ≠ ((.slice Ao46 t607.length co46) : Value).ownBlock) (.slice Ao143 t638.length co143) t638) ∧ Aside0 (wc.heap[gb583]? = some (.cells #[.int .i64 a0_0, (.slice A0_1 l0_1.length c0_1)] 33 (0, 0))) ∧ Aside0 (wc.heap[gb597]? = some (.cells #[.int .i64 t592, (.slice Ao29 t593.length co29)] 37 (0, 0))) ∧ Aside0 (wc.heap[gb602]? = some (.cells #[.int .i64 t598, (.slice Ao36 t623.length co36)] 37 (0, 0))) ∧ Aside0 (wc.heap[gb611]? = some (.cells #[.int .i64 t606, (.slice Ao46 t607.length co46)] 37 (0, 0))) ∧ Aside0 (wc.heap[gb642]? = some (.cells #[.int .i64 t637, (.slice Ao143 t638.length co143)] 37 (0, 0))) ∧ Aside0 (Below w.heap.size w wc))
                          case first =>
                            have H := HC121.out
                            clear HC121
                            replace H := Option.bind_eq_some_iff.mp H
                            obtain ⟨t643, A1440, H⟩ := H
                            replace H : (if t643 = true then (laws_FnExactPartOf.j2 kj73 t627 (t641 != t596) t606 t628) else (laws_FnExactPartOf.j2 kj73 t627 true t606 t628)) = some r := H
                            have A144 := Aside0.mk A1440
                            clear A1440
                            by_cases c145 : t643 = true
                            · subst c145
                              have H1 : (laws_FnExactPartOf.j2 kj73 t627 (t641 != t596) t606 t628) = some r := by rw [if_pos rfl] at H; exact H
                              clear H
                              have H := H1
                              clear H1
                              have H' := Aside0.mk H
                              clear H
                              have hnb146 := NB642_583.out
                              have hnc146 := NB583_642.out
                              have hnb147 := NB642_597.out
                              have hnc147 := NB597_642.out
                              have hnb148 := NB642_602.out
                              have hnc148 := NB602_642.out
                              have hnb149 := NB642_611.out
                              have hnc149 := NB611_642.out
                              have hcz150_0 : w137.cell? ⟨gb642, 0, none⟩ = some (.int .i64 0) := (blk_cell BK642.out 0).trans rfl
                              have hcz150_1 : w137.cell? ⟨gb642, 1, none⟩ = some (.slice none 0 0) := (blk_cell BK642.out 1).trans rfl
                              have hfz150_0 := blk_frozen BK642.out 0
                              have hfz150_1 := blk_frozen BK642.out 1
                              have hnb151 := NB597_583.out
                              have hnc151 := NB583_597.out
                              have hnb152 := NB597_602.out
                              have hnc152 := NB602_597.out
                              have hnb153 := NB597_611.out
                              have hnc153 := NB611_597.out
                              have hcz154_0 : w137.cell? ⟨gb597, 0, none⟩ = some (.int .i64 t592) := (blk_cell BK597.out 0).trans rfl
                              have hcz154_1 : w137.cell? ⟨gb597, 1, none⟩ = some (.slice Ao29 t593.length co29) := (blk_cell BK597.out 1).trans rfl
                              have hfz154_0 := blk_frozen BK597.out 0
                              have hfz154_1 := blk_frozen BK597.out 1
                              go_wp2_with (first | ((with_reducible refine gate_callee (f := 22) rfl ?_); refine goesL_ (some 102) rfl rfl Try.func22 (by kernel_rfl) rfl #[.agg #[.int .i64 t637, .slice Ao143 t638.length co143], .agg #[.int .i64 t592, .slice Ao29 t593.length co29]] rfl (by (try simp only [List.map_toArray, List.map_cons, List.map_nil]); first | done | rfl | (simp only [List.length_drop, List.length_take]; rfl)) ?_; (with_reducible refine (laws_eqOrder.calls kj73 t637 _ _ t638 t592 _ _ t593 true _ ?side1 ?side2 ?side3 ?side4 A144.out).mono ?_); (case side1 => refine (Kd.R_reads' (e := 3) (base := w.heap.size) (ok := fun k_ => (((((True ∧ some k_ ≠ (.slice Ao29 t593.length co29 : Value).ownBlock) ∧ some k_ ≠ (.slice Ao36 t623.length co36 : Value).ownBlock) ∧ some k_ ≠ (.slice Ao46 t607.length co46 : Value).ownBlock) ∧ some k_ ≠ (.slice Ao134 t631.length co134 : Value).ownBlock) ∧ some k_ ≠ (.slice Ao135 t634.length co135 : Value).ownBlock)) (n := t638.length) (c := co143) ?_).2.2; exact (by (with_reducible repeat (first | apply Kd.R_alloc | apply Kd.R_drewN | apply Kd.R_drew)); exact (Kd.R_mono (Kd.R_far (p := ⟨gb642, 1, none⟩) (Kd.R_far (p := ⟨gb642, 0, none⟩) (Kd.R_types HO640.out BK642.out (by decide)) (fun _ hk => hk.2) (.int .i64 t637)) (fun _ hk => hk.2) (.slice Ao143 t638.length co143)) (fun _ h_ => h_.1)))); (case side2 => exact (Kd.R_reads' HO640.out).2.1); (case side3 => refine (Kd.R_reads' (e := 3) (base := w.heap.size) (ok := fun k_ => ((((some k_ ≠ (.slice Ao36 t623.length co36 : Value).ownBlock ∧ some k_ ≠ (.slice Ao46 t607.length co46 : Value).ownBlock) ∧ some k_ ≠ (.slice Ao134 t631.length co134 : Value).ownBlock) ∧ some k_ ≠ (.slice Ao135 t634.length co135 : Value).ownBlock) ∧ some k_ ≠ (.slice Ao143 t638.length co143 : Value).ownBlock)) (n := t593.length) (c := co29) ?_).2.2; exact (by (with_reducible repeat (first | apply Kd.R_alloc | apply Kd.R_drewN | apply Kd.R_drew)); exact (Kd.R_mono (Kd.R_far (p := ⟨gb642, 1, none⟩) (Kd.R_far (p := ⟨gb642, 0, none⟩) (Kd.R_types HO_598001.out BK642.out (by decide)) (fun _ hk => hk.2) (.int .i64 t637)) (fun _ hk => hk.2) (.slice Ao143 t638.length co143)) (fun _ h_ => h_.1)))); (case side4 => exact (Kd.R_reads' HO_598001.out).2.1); rintro e w155 ⟨rfl, hb⟩; refine ⟨_, rfl, ?_⟩; have n0_ := Aside0.mk (Kd.R_below (by (with_reducible repeat (first | apply Kd.R_alloc | apply Kd.R_drewN | apply Kd.R_drew)); exact (Kd.R_mono (Kd.R_far (p := ⟨gb642, 1, none⟩) (Kd.R_far (p := ⟨gb642, 0, none⟩) (Kd.R_types HO_598001.out BK642.out (by decide)) (fun _ hk => hk.2) (.int .i64 t637)) (fun _ hk => hk.2) (.slice Ao143 t638.length co143)) (fun _ h_ => h_.1))) hb); have n1_ := Aside0.mk (Kd.R_below (by (with_reducible repeat (first | apply Kd.R_alloc | apply Kd.R_drewN | apply Kd.R_drew)); exact (Kd.R_mono (Kd.R_far (p := ⟨gb642, 1, none⟩) (Kd.R_far (p := ⟨gb642, 0, none⟩) (Kd.R_types HO_603001.out BK642.out (by decide)) (fun _ hk => hk.2) (.int .i64 t637)) (fun _ hk => hk.2) (.slice Ao143 t638.length co143)) (fun _ h_ => h_.1))) hb); have n2_ := Aside0.mk (Kd.R_below (by (with_reducible repeat (first | apply Kd.R_alloc | apply Kd.R_drewN | apply Kd.R_drew)); exact (Kd.R_mono (Kd.R_far (p := ⟨gb642, 1, none⟩) (Kd.R_far (p := ⟨gb642, 0, none⟩) (Kd.R_types HO_612001.out BK642.out (by decide)) (fun _ hk => hk.2) (.int .i64 t637)) (fun _ hk => hk.2) (.slice Ao143 t638.length co143)) (fun _ h_ => h_.1))) hb); have n3_ := Aside0.mk (Kd.R_below (by (with_reducible repeat (first | apply Kd.R_alloc | apply Kd.R_drewN | apply Kd.R_drew)); exact (Kd.R_mono (Kd.R_far (p := ⟨gb642, 1, none⟩) (Kd.R_far (p := ⟨gb642, 0, none⟩) (Kd.R_types HO633.out BK642.out (by decide)) (fun _ hk => hk.2) (.int .i64 t637)) (fun _ hk => hk.2) (.slice Ao143 t638.length co143)) (fun _ h_ => h_.1))) hb); have n4_ := Aside0.mk (Kd.R_below (by (with_reducible repeat (first | apply Kd.R_alloc | apply Kd.R_drewN | apply Kd.R_drew)); exact (Kd.R_mono (Kd.R_far (p := ⟨gb642, 1, none⟩) (Kd.R_far (p := ⟨gb642, 0, none⟩) (Kd.R_types HO636.out BK642.out (by decide)) (fun _ hk => hk.2) (.int .i64 t637)) (fun _ hk => hk.2) (.slice Ao143 t638.length co143)) (fun _ h_ => h_.1))) hb); have n5_ := Aside0.mk (Kd.R_below (by (with_reducible repeat (first | apply Kd.R_alloc | apply Kd.R_drewN | apply Kd.R_drew)); exact (Kd.R_mono (Kd.R_far (p := ⟨gb642, 1, none⟩) (Kd.R_far (p := ⟨gb642, 0, none⟩) (Kd.R_types HO640.out BK642.out (by decide)) (fun _ hk => hk.2) (.int .i64 t637)) (fun _ hk => hk.2) (.slice Ao143 t638.length co143)) (fun _ h_ => h_.1))) hb); have n6_ := Aside0.mk (blk_below (g := gb583) (o := .cells #[.int .i64 a0_0, .slice A0_1 l0_1.length c0_1] 33 (0, 0)) (by (with_reducible repeat (first | refine blk_drewN ?_ _ | refine blk_drew ?_ | refine blk_alloc ?_ _)); refine blk_far ?_ NB583_642.out _; (with_reducible repeat (first | refine blk_drewN ?_ _ | refine blk_drew ?_ | refine blk_alloc ?_ _)); refine blk_far ?_ NB583_642.out _; (with_reducible repeat (first | refine blk_drewN ?_ _ | refine blk_drew ?_ | refine blk_alloc ?_ _)); exact BK583.out) hb); have n7_ := Aside0.mk (blk_below (g := gb597) (o := .cells #[.int .i64 t592, .slice Ao29 t593.length co29] 37 (0, 0)) (by (with_reducible repeat (first | refine blk_drewN ?_ _ | refine blk_drew ?_ | refine blk_alloc ?_ _)); refine blk_far ?_ NB597_642.out _; (with_reducible repeat (first | refine blk_drewN ?_ _ | refine blk_drew ?_ | refine blk_alloc ?_ _)); refine blk_far ?_ NB597_642.out _; (with_reducible repeat (first | refine blk_drewN ?_ _ | refine blk_drew ?_ | refine blk_alloc ?_ _)); exact BK597.out) hb); have n8_ := Aside0.mk (blk_below (g := gb602) (o := .cells #[.int .i64 t598, .slice Ao36 t623.length co36] 37 (0, 0)) (by (with_reducible repeat (first | refine blk_drewN ?_ _ | refine blk_drew ?_ | refine blk_alloc ?_ _)); refine blk_far ?_ NB602_642.out _; (with_reducible repeat (first | refine blk_drewN ?_ _ | refine blk_drew ?_ | refine blk_alloc ?_ _)); refine blk_far ?_ NB602_642.out _; (with_reducible repeat (first | refine blk_drewN ?_ _ | refine blk_drew ?_ | refine blk_alloc ?_ _)); exact BK602.out) hb); have n9_ := Aside0.mk (blk_below (g := gb611) (o := .cells #[.int .i64 t606, .slice Ao46 t607.length co46] 37 (0, 0)) (by (with_reducible repeat (first | refine blk_drewN ?_ _ | refine blk_drew ?_ | refine blk_alloc ?_ _)); refine blk_far ?_ NB611_642.out _; (with_reducible repeat (first | refine blk_drewN ?_ _ | refine blk_drew ?_ | refine blk_alloc ?_ _)); refine blk_far ?_ NB611_642.out _; (with_reducible repeat (first | refine blk_drewN ?_ _ | refine blk_drew ?_ | refine blk_alloc ?_ _)); exact BK611.out) hb); have n10_ := Aside0.mk (blk_below (g := gb642) (o := .cells #[.int .i64 t637, .slice Ao143 t638.length co143] 37 (0, 0)) (by (with_reducible repeat (first | refine blk_drewN ?_ _ | refine blk_drew ?_ | refine blk_alloc ?_ _)); refine blk_put (cs := #[.int .i64 t637, .slice none 0 0]) ?_ 1 _ rfl; (with_reducible repeat (first | refine blk_drewN ?_ _ | refine blk_drew ?_ | refine blk_alloc ?_ _)); refine blk_put (cs := #[.int .i64 0, .slice none 0 0]) ?_ 0 _ rfl; (with_reducible repeat (first | refine blk_drewN ?_ _ | refine blk_drew ?_ | refine blk_alloc ?_ _)); exact BK642.out) hb); have n11_ := Aside0.mk (below_step (by repeat (first | (with_reducible first | exact HB.out | apply below_alloc | apply pw_below_drewN | apply below_drew1 | refine below_set ?_ GE583.out | refine below_set ?_ GE597.out | refine below_set ?_ GE602.out | refine below_set ?_ GE611.out | refine below_set ?_ GE642.out) | exact HB.out)) hb); clear HO_598001; clear HO_603001; clear HO_612001; clear HO633; clear HO636; clear HO640; clear BK583; clear BK597; clear BK602; clear BK611; clear BK642; clear HB; have HO_598001 := n0_; have HO_603001 := n1_; have HO_612001 := n2_; have HO633 := n3_; have HO636 := n4_; have HO640 := n5_; have BK583 := n6_; have BK597 := n7_; have BK602 := n8_; have BK611 := n9_; have BK642 := n10_; have HB := n11_; clear n0_ n1_ n2_ n3_ n4_ n5_ n6_ n7_ n8_ n9_ n10_ n11_; (try clear hb); (try clear hb2); (try clear hk); (try clear hi)))
                              go_meet
                              case rel => exact ⟨_, ((t641 != t596)), (by first | rfl | (simp; done) | (simp [*]; done)), H', ⟨by have := HJ15.out; have := HJ73.out; first | omega | exact Nat.le_refl _⟩, ⟨by (try simp only [hl603001_73]); (with_reducible repeat (first | apply Kd.R_alloc | apply Kd.R_drewN | apply Kd.R_drew)); exact Kd.R_mono HO_598001.out (fun _ hk => ⟨hk.1.1.1.1, ⟨hk.1.1.1.2, hk.2⟩⟩)⟩, ⟨by (try simp only [hl603001_73]); (with_reducible repeat (first | apply Kd.R_alloc | apply Kd.R_drewN | apply Kd.R_drew)); exact Kd.R_mono HO_603001.out (fun _ hk => ⟨hk.1.1.1.1, ⟨hk.1.1.1.2, hk.2⟩⟩)⟩, ⟨by (try simp only [hl603001_73]); (with_reducible repeat (first | apply Kd.R_alloc | apply Kd.R_drewN | apply Kd.R_drew)); exact Kd.R_mono HO_612001.out (fun _ hk => ⟨hk.1.1.1.1, ⟨hk.1.1.1.2, hk.2⟩⟩)⟩, ⟨by (try simp only [hl603001_73]); (with_reducible repeat (first | apply Kd.R_alloc | apply Kd.R_drewN | apply Kd.R_drew)); exact Kd.R_mono HO640.out (fun _ hk => ⟨hk.1.1.1.1.2, ⟨hk.1.1.1.2, hk.1.1.2⟩⟩)⟩, ⟨by (try simp only [hl603001_73]); (with_reducible repeat (first | refine blk_drewN ?_ _ | refine blk_drew ?_ | refine blk_alloc ?_ _)); exact BK583.out⟩, ⟨by (try simp only [hl603001_73]); (with_reducible repeat (first | refine blk_drewN ?_ _ | refine blk_drew ?_ | refine blk_alloc ?_ _)); exact BK597.out⟩, ⟨by (try simp only [hl603001_73]); (with_reducible repeat (first | refine blk_drewN ?_ _ | refine blk_drew ?_ | refine blk_alloc ?_ _)); exact BK602.out⟩, ⟨by (try simp only [hl603001_73]); (with_reducible repeat (first | refine blk_drewN ?_ _ | refine blk_drew ?_ | refine blk_alloc ?_ _)); exact BK611.out⟩, ⟨by (try simp only [hl603001_73]); (with_reducible repeat (first | refine blk_drewN ?_ _ | refine blk_drew ?_ | refine blk_alloc ?_ _)); exact BK642.out⟩, ⟨by repeat (first | (with_reducible first | exact HB.out | apply below_alloc | apply pw_below_drewN | apply below_drew1 | refine below_set ?_ GE583.out | refine below_set ?_ GE597.out | refine below_set ?_ GE602.out | refine below_set ?_ GE611.out | refine below_set ?_ GE642.out) | exact HB.out)⟩⟩
                            · replace c145 := Bool.eq_false_iff.mpr c145
                              subst c145
                              have H1 : (laws_FnExactPartOf.j2 kj73 t627 true t606 t628) = some r := by rw [if_neg (show ¬ (false = true) by decide)] at H; exact H
                              clear H
                              have H := H1
                              clear H1
                              have H' := Aside0.mk H
                              clear H
                              have hnb156 := NB642_583.out
                              have hnc156 := NB583_642.out
                              have hnb157 := NB642_597.out
                              have hnc157 := NB597_642.out
                              have hnb158 := NB642_602.out
                              have hnc158 := NB602_642.out
                              have hnb159 := NB642_611.out
                              have hnc159 := NB611_642.out
                              have hcz160_0 : w137.cell? ⟨gb642, 0, none⟩ = some (.int .i64 0) := (blk_cell BK642.out 0).trans rfl
                              have hcz160_1 : w137.cell? ⟨gb642, 1, none⟩ = some (.slice none 0 0) := (blk_cell BK642.out 1).trans rfl
                              have hfz160_0 := blk_frozen BK642.out 0
                              have hfz160_1 := blk_frozen BK642.out 1
                              have hnb161 := NB597_583.out
                              have hnc161 := NB583_597.out
                              have hnb162 := NB597_602.out
                              have hnc162 := NB602_597.out
                              have hnb163 := NB597_611.out
                              have hnc163 := NB611_597.out
                              have hcz164_0 : w137.cell? ⟨gb597, 0, none⟩ = some (.int .i64 t592) := (blk_cell BK597.out 0).trans rfl
                              have hcz164_1 : w137.cell? ⟨gb597, 1, none⟩ = some (.slice Ao29 t593.length co29) := (blk_cell BK597.out 1).trans rfl
                              have hfz164_0 := blk_frozen BK597.out 0
                              have hfz164_1 := blk_frozen BK597.out 1
                              go_wp2_with (first | ((with_reducible refine gate_callee (f := 22) rfl ?_); refine goesL_ (some 102) rfl rfl Try.func22 (by kernel_rfl) rfl #[.agg #[.int .i64 t637, .slice Ao143 t638.length co143], .agg #[.int .i64 t592, .slice Ao29 t593.length co29]] rfl (by (try simp only [List.map_toArray, List.map_cons, List.map_nil]); first | done | rfl | (simp only [List.length_drop, List.length_take]; rfl)) ?_; (with_reducible refine (laws_eqOrder.calls kj73 t637 _ _ t638 t592 _ _ t593 false _ ?side1 ?side2 ?side3 ?side4 A144.out).mono ?_); (case side1 => refine (Kd.R_reads' (e := 3) (base := w.heap.size) (ok := fun k_ => (((((True ∧ some k_ ≠ (.slice Ao29 t593.length co29 : Value).ownBlock) ∧ some k_ ≠ (.slice Ao36 t623.length co36 : Value).ownBlock) ∧ some k_ ≠ (.slice Ao46 t607.length co46 : Value).ownBlock) ∧ some k_ ≠ (.slice Ao134 t631.length co134 : Value).ownBlock) ∧ some k_ ≠ (.slice Ao135 t634.length co135 : Value).ownBlock)) (n := t638.length) (c := co143) ?_).2.2; exact (by (with_reducible repeat (first | apply Kd.R_alloc | apply Kd.R_drewN | apply Kd.R_drew)); exact (Kd.R_mono (Kd.R_far (p := ⟨gb642, 1, none⟩) (Kd.R_far (p := ⟨gb642, 0, none⟩) (Kd.R_types HO640.out BK642.out (by decide)) (fun _ hk => hk.2) (.int .i64 t637)) (fun _ hk => hk.2) (.slice Ao143 t638.length co143)) (fun _ h_ => h_.1)))); (case side2 => exact (Kd.R_reads' HO640.out).2.1); (case side3 => refine (Kd.R_reads' (e := 3) (base := w.heap.size) (ok := fun k_ => ((((some k_ ≠ (.slice Ao36 t623.length co36 : Value).ownBlock ∧ some k_ ≠ (.slice Ao46 t607.length co46 : Value).ownBlock) ∧ some k_ ≠ (.slice Ao134 t631.length co134 : Value).ownBlock) ∧ some k_ ≠ (.slice Ao135 t634.length co135 : Value).ownBlock) ∧ some k_ ≠ (.slice Ao143 t638.length co143 : Value).ownBlock)) (n := t593.length) (c := co29) ?_).2.2; exact (by (with_reducible repeat (first | apply Kd.R_alloc | apply Kd.R_drewN | apply Kd.R_drew)); exact (Kd.R_mono (Kd.R_far (p := ⟨gb642, 1, none⟩) (Kd.R_far (p := ⟨gb642, 0, none⟩) (Kd.R_types HO_598001.out BK642.out (by decide)) (fun _ hk => hk.2) (.int .i64 t637)) (fun _ hk => hk.2) (.slice Ao143 t638.length co143)) (fun _ h_ => h_.1)))); (case side4 => exact (Kd.R_reads' HO_598001.out).2.1); rintro e w165 ⟨rfl, hb⟩; refine ⟨_, rfl, ?_⟩; have n0_ := Aside0.mk (Kd.R_below (by (with_reducible repeat (first | apply Kd.R_alloc | apply Kd.R_drewN | apply Kd.R_drew)); exact (Kd.R_mono (Kd.R_far (p := ⟨gb642, 1, none⟩) (Kd.R_far (p := ⟨gb642, 0, none⟩) (Kd.R_types HO_598001.out BK642.out (by decide)) (fun _ hk => hk.2) (.int .i64 t637)) (fun _ hk => hk.2) (.slice Ao143 t638.length co143)) (fun _ h_ => h_.1))) hb); have n1_ := Aside0.mk (Kd.R_below (by (with_reducible repeat (first | apply Kd.R_alloc | apply Kd.R_drewN | apply Kd.R_drew)); exact (Kd.R_mono (Kd.R_far (p := ⟨gb642, 1, none⟩) (Kd.R_far (p := ⟨gb642, 0, none⟩) (Kd.R_types HO_603001.out BK642.out (by decide)) (fun _ hk => hk.2) (.int .i64 t637)) (fun _ hk => hk.2) (.slice Ao143 t638.length co143)) (fun _ h_ => h_.1))) hb); have n2_ := Aside0.mk (Kd.R_below (by (with_reducible repeat (first | apply Kd.R_alloc | apply Kd.R_drewN | apply Kd.R_drew)); exact (Kd.R_mono (Kd.R_far (p := ⟨gb642, 1, none⟩) (Kd.R_far (p := ⟨gb642, 0, none⟩) (Kd.R_types HO_612001.out BK642.out (by decide)) (fun _ hk => hk.2) (.int .i64 t637)) (fun _ hk => hk.2) (.slice Ao143 t638.length co143)) (fun _ h_ => h_.1))) hb); have n3_ := Aside0.mk (Kd.R_below (by (with_reducible repeat (first | apply Kd.R_alloc | apply Kd.R_drewN | apply Kd.R_drew)); exact (Kd.R_mono (Kd.R_far (p := ⟨gb642, 1, none⟩) (Kd.R_far (p := ⟨gb642, 0, none⟩) (Kd.R_types HO633.out BK642.out (by decide)) (fun _ hk => hk.2) (.int .i64 t637)) (fun _ hk => hk.2) (.slice Ao143 t638.length co143)) (fun _ h_ => h_.1))) hb); have n4_ := Aside0.mk (Kd.R_below (by (with_reducible repeat (first | apply Kd.R_alloc | apply Kd.R_drewN | apply Kd.R_drew)); exact (Kd.R_mono (Kd.R_far (p := ⟨gb642, 1, none⟩) (Kd.R_far (p := ⟨gb642, 0, none⟩) (Kd.R_types HO636.out BK642.out (by decide)) (fun _ hk => hk.2) (.int .i64 t637)) (fun _ hk => hk.2) (.slice Ao143 t638.length co143)) (fun _ h_ => h_.1))) hb); have n5_ := Aside0.mk (Kd.R_below (by (with_reducible repeat (first | apply Kd.R_alloc | apply Kd.R_drewN | apply Kd.R_drew)); exact (Kd.R_mono (Kd.R_far (p := ⟨gb642, 1, none⟩) (Kd.R_far (p := ⟨gb642, 0, none⟩) (Kd.R_types HO640.out BK642.out (by decide)) (fun _ hk => hk.2) (.int .i64 t637)) (fun _ hk => hk.2) (.slice Ao143 t638.length co143)) (fun _ h_ => h_.1))) hb); have n6_ := Aside0.mk (blk_below (g := gb583) (o := .cells #[.int .i64 a0_0, .slice A0_1 l0_1.length c0_1] 33 (0, 0)) (by (with_reducible repeat (first | refine blk_drewN ?_ _ | refine blk_drew ?_ | refine blk_alloc ?_ _)); refine blk_far ?_ NB583_642.out _; (with_reducible repeat (first | refine blk_drewN ?_ _ | refine blk_drew ?_ | refine blk_alloc ?_ _)); refine blk_far ?_ NB583_642.out _; (with_reducible repeat (first | refine blk_drewN ?_ _ | refine blk_drew ?_ | refine blk_alloc ?_ _)); exact BK583.out) hb); have n7_ := Aside0.mk (blk_below (g := gb597) (o := .cells #[.int .i64 t592, .slice Ao29 t593.length co29] 37 (0, 0)) (by (with_reducible repeat (first | refine blk_drewN ?_ _ | refine blk_drew ?_ | refine blk_alloc ?_ _)); refine blk_far ?_ NB597_642.out _; (with_reducible repeat (first | refine blk_drewN ?_ _ | refine blk_drew ?_ | refine blk_alloc ?_ _)); refine blk_far ?_ NB597_642.out _; (with_reducible repeat (first | refine blk_drewN ?_ _ | refine blk_drew ?_ | refine blk_alloc ?_ _)); exact BK597.out) hb); have n8_ := Aside0.mk (blk_below (g := gb602) (o := .cells #[.int .i64 t598, .slice Ao36 t623.length co36] 37 (0, 0)) (by (with_reducible repeat (first | refine blk_drewN ?_ _ | refine blk_drew ?_ | refine blk_alloc ?_ _)); refine blk_far ?_ NB602_642.out _; (with_reducible repeat (first | refine blk_drewN ?_ _ | refine blk_drew ?_ | refine blk_alloc ?_ _)); refine blk_far ?_ NB602_642.out _; (with_reducible repeat (first | refine blk_drewN ?_ _ | refine blk_drew ?_ | refine blk_alloc ?_ _)); exact BK602.out) hb); have n9_ := Aside0.mk (blk_below (g := gb611) (o := .cells #[.int .i64 t606, .slice Ao46 t607.length co46] 37 (0, 0)) (by (with_reducible repeat (first | refine blk_drewN ?_ _ | refine blk_drew ?_ | refine blk_alloc ?_ _)); refine blk_far ?_ NB611_642.out _; (with_reducible repeat (first | refine blk_drewN ?_ _ | refine blk_drew ?_ | refine blk_alloc ?_ _)); refine blk_far ?_ NB611_642.out _; (with_reducible repeat (first | refine blk_drewN ?_ _ | refine blk_drew ?_ | refine blk_alloc ?_ _)); exact BK611.out) hb); have n10_ := Aside0.mk (blk_below (g := gb642) (o := .cells #[.int .i64 t637, .slice Ao143 t638.length co143] 37 (0, 0)) (by (with_reducible repeat (first | refine blk_drewN ?_ _ | refine blk_drew ?_ | refine blk_alloc ?_ _)); refine blk_put (cs := #[.int .i64 t637, .slice none 0 0]) ?_ 1 _ rfl; (with_reducible repeat (first | refine blk_drewN ?_ _ | refine blk_drew ?_ | refine blk_alloc ?_ _)); refine blk_put (cs := #[.int .i64 0, .slice none 0 0]) ?_ 0 _ rfl; (with_reducible repeat (first | refine blk_drewN ?_ _ | refine blk_drew ?_ | refine blk_alloc ?_ _)); exact BK642.out) hb); have n11_ := Aside0.mk (below_step (by repeat (first | (with_reducible first | exact HB.out | apply below_alloc | apply pw_below_drewN | apply below_drew1 | refine below_set ?_ GE583.out | refine below_set ?_ GE597.out | refine below_set ?_ GE602.out | refine below_set ?_ GE611.out | refine below_set ?_ GE642.out) | exact HB.out)) hb); clear HO_598001; clear HO_603001; clear HO_612001; clear HO633; clear HO636; clear HO640; clear BK583; clear BK597; clear BK602; clear BK611; clear BK642; clear HB; have HO_598001 := n0_; have HO_603001 := n1_; have HO_612001 := n2_; have HO633 := n3_; have HO636 := n4_; have HO640 := n5_; have BK583 := n6_; have BK597 := n7_; have BK602 := n8_; have BK611 := n9_; have BK642 := n10_; have HB := n11_; clear n0_ n1_ n2_ n3_ n4_ n5_ n6_ n7_ n8_ n9_ n10_ n11_; (try clear hb); (try clear hb2); (try clear hk); (try clear hi)))
                              go_meet
                              case rel => exact ⟨_, (true), (by first | rfl | (simp; done) | (simp [*]; done)), H', ⟨by have := HJ15.out; have := HJ73.out; first | omega | exact Nat.le_refl _⟩, ⟨by (try simp only [hl603001_73]); (with_reducible repeat (first | apply Kd.R_alloc | apply Kd.R_drewN | apply Kd.R_drew)); exact Kd.R_mono HO_598001.out (fun _ hk => ⟨hk.1.1.1.1, ⟨hk.1.1.1.2, hk.2⟩⟩)⟩, ⟨by (try simp only [hl603001_73]); (with_reducible repeat (first | apply Kd.R_alloc | apply Kd.R_drewN | apply Kd.R_drew)); exact Kd.R_mono HO_603001.out (fun _ hk => ⟨hk.1.1.1.1, ⟨hk.1.1.1.2, hk.2⟩⟩)⟩, ⟨by (try simp only [hl603001_73]); (with_reducible repeat (first | apply Kd.R_alloc | apply Kd.R_drewN | apply Kd.R_drew)); exact Kd.R_mono HO_612001.out (fun _ hk => ⟨hk.1.1.1.1, ⟨hk.1.1.1.2, hk.2⟩⟩)⟩, ⟨by (try simp only [hl603001_73]); (with_reducible repeat (first | apply Kd.R_alloc | apply Kd.R_drewN | apply Kd.R_drew)); exact Kd.R_mono HO640.out (fun _ hk => ⟨hk.1.1.1.1.2, ⟨hk.1.1.1.2, hk.1.1.2⟩⟩)⟩, ⟨by (try simp only [hl603001_73]); (with_reducible repeat (first | refine blk_drewN ?_ _ | refine blk_drew ?_ | refine blk_alloc ?_ _)); exact BK583.out⟩, ⟨by (try simp only [hl603001_73]); (with_reducible repeat (first | refine blk_drewN ?_ _ | refine blk_drew ?_ | refine blk_alloc ?_ _)); exact BK597.out⟩, ⟨by (try simp only [hl603001_73]); (with_reducible repeat (first | refine blk_drewN ?_ _ | refine blk_drew ?_ | refine blk_alloc ?_ _)); exact BK602.out⟩, ⟨by (try simp only [hl603001_73]); (with_reducible repeat (first | refine blk_drewN ?_ _ | refine blk_drew ?_ | refine blk_alloc ?_ _)); exact BK611.out⟩, ⟨by (try simp only [hl603001_73]); (with_reducible repeat (first | refine blk_drewN ?_ _ | refine blk_drew ?_ | refine blk_alloc ?_ _)); exact BK642.out⟩, ⟨by repeat (first | (with_reducible first | exact HB.out | apply below_alloc | apply pw_below_drewN | apply below_drew1 | refine below_set ?_ GE583.out | refine below_set ?_ GE597.out | refine below_set ?_ GE602.out | refine below_set ?_ GE611.out | refine below_set ?_ GE642.out) | exact HB.out)⟩⟩
                          case rest =>
                            clear HC121
                            try clear c1
                            try clear c2
                            try clear p2
                            try clear c3
                            try clear c3b0
                            try clear c3b1
                            try clear c4
                            try clear c5
                            try clear c6
                            try clear c6b0
                            try clear c7
                            try clear c8
                            try clear c9
                            try clear c10
                            try clear c11
                            try clear c12
                            try clear c13
                            try clear c14
                            try clear c15
                            try clear c16
                            try clear c18
                            try clear c20
                            try clear c22
                            try clear c25
                            try clear c26
                            try clear c27
                            try clear c33
                            try clear c34
                            try clear c35
                            try clear c36
                            try clear c37
                            try clear c42
                            try clear c43
                            try clear c44
                            try clear c48
                            try clear c49
                            try clear c50
                            try clear c51
                            try clear c53
                            try clear c54
                            try clear c57
                            try clear c58
                            try clear c59
                            try clear c61
                            try clear c62
                            try clear c65
                            try clear c68
                            try clear c71
                            try clear c81
                            try clear c82
                            try clear c83
                            try clear c87
                            try clear c87b0
                            try clear c89
                            try clear c90
                            try clear c91
                            try clear c92
                            try clear c94
                            try clear c95
                            try clear c98
                            try clear c99
                            try clear c100
                            try clear c102
                            try clear c103
                            try clear c106
                            try clear c109
                            try clear c109b0
                            try clear c110
                            try clear c111
                            try clear c112
                            try clear c117
                            try clear c117b0
                            try clear c117b1
                            try clear c122
                            try clear c123
                            try clear c124
                            try clear c129
                            try clear c130
                            try clear c138
                            try clear c139
                            try clear c140
                            try clear c141
                            try clear c145
                            try clear c146
                            try clear c147
                            try clear c148
                            try clear c149
                            try clear c151
                            try clear c152
                            try clear c153
                            try clear c156
                            try clear c157
                            try clear c158
                            try clear c159
                            try clear c161
                            try clear c162
                            try clear c163
                            try clear hcz101_0
                            try clear hcz101_1
                            try clear hcz104_0
                            try clear hcz104_1
                            try clear hcz113_0
                            try clear hcz113_1
                            try clear hcz115_0
                            try clear hcz115_1
                            try clear hcz125_0
                            try clear hcz125_1
                            try clear hcz127_0
                            try clear hcz127_1
                            try clear hcz131_0
                            try clear hcz131_1
                            try clear hcz142_0
                            try clear hcz142_1
                            try clear hcz150_0
                            try clear hcz150_1
                            try clear hcz154_0
                            try clear hcz154_1
                            try clear hcz160_0
                            try clear hcz160_1
                            try clear hcz164_0
                            try clear hcz164_1
                            try clear hcz18_0
                            try clear hcz18_1
                            try clear hcz20_0
                            try clear hcz20_1
                            try clear hcz28_0
                            try clear hcz28_1
                            try clear hcz30_0
                            try clear hcz30_1
                            try clear hcz35_0
                            try clear hcz35_1
                            try clear hcz38_0
                            try clear hcz38_1
                            try clear hcz45_0
                            try clear hcz45_1
                            try clear hcz52_0
                            try clear hcz52_1
                            try clear hcz55_0
                            try clear hcz55_1
                            try clear hcz60_0
                            try clear hcz60_1
                            try clear hcz63_0
                            try clear hcz63_1
                            try clear hcz84_0
                            try clear hcz84_1
                            try clear hcz8_0
                            try clear hcz8_1
                            try clear hcz93_0
                            try clear hcz93_1
                            try clear hcz96_0
                            try clear hcz96_1
                            try clear hfz101_0
                            try clear hfz101_1
                            try clear hfz104_0
                            try clear hfz104_1
                            try clear hfz113_0
                            try clear hfz113_1
                            try clear hfz115_0
                            try clear hfz115_1
                            try clear hfz125_0
                            try clear hfz125_1
                            try clear hfz127_0
                            try clear hfz127_1
                            try clear hfz131_0
                            try clear hfz131_1
                            try clear hfz142_0
                            try clear hfz142_1
                            try clear hfz150_0
                            try clear hfz150_1
                            try clear hfz154_0
                            try clear hfz154_1
                            try clear hfz160_0
                            try clear hfz160_1
                            try clear hfz164_0
                            try clear hfz164_1
                            try clear hfz18_0
                            try clear hfz18_1
                            try clear hfz20_0
                            try clear hfz20_1
                            try clear hfz28_0
                            try clear hfz28_1
                            try clear hfz30_0
                            try clear hfz30_1
                            try clear hfz35_0
                            try clear hfz35_1
                            try clear hfz38_0
                            try clear hfz38_1
                            try clear hfz45_0
                            try clear hfz45_1
                            try clear hfz52_0
                            try clear hfz52_1
                            try clear hfz55_0
                            try clear hfz55_1
                            try clear hfz60_0
                            try clear hfz60_1
                            try clear hfz63_0
                            try clear hfz63_1
                            try clear hfz84_0
                            try clear hfz84_1
                            try clear hfz8_0
                            try clear hfz8_1
                            try clear hfz93_0
                            try clear hfz93_1
                            try clear hfz96_0
                            try clear hfz96_1
                            try clear p2
                            obtain ⟨kq, x108_120, rfl, HA, HJ120, HO_598001, HO_603001, HO_612001, HO_643001, BK583, BK597, BK602, BK611, BK642, HB⟩ := hcut
                            have hl612001_120 := (Kd.R_reads' HO_612001.out).1
                            rw [hl612001_120] at HO_612001
                            (try simp only [hl612001_120])
                            (try simp only [hl612001_120] at BK583)
                            (try simp only [hl612001_120] at BK597)
                            (try simp only [hl612001_120] at BK602)
                            (try simp only [hl612001_120] at BK611)
                            (try simp only [hl612001_120] at BK642)
                            (try simp only [hl612001_120] at HO_598001)
                            (try simp only [hl612001_120] at HO_603001)
                            (try simp only [hl612001_120] at HO_643001)
                            cases kq with
                            | zero => exact absurd HA.out (by simp [laws_FnExactPartOf.j2])
                            | succ kj120 =>
                              have H := HA.out
                              clear HA
                              simp only [laws_FnExactPartOf.j2] at H
                              by_cases c166 : x108_120 = true
                              · subst c166
                                have H1 : (some false) = some r := by rw [if_pos rfl] at H; exact H
                                clear H
                                have H := H1
                                clear H1
                                obtain rfl := Option.some.inj H
                                go_wp2
                                go_ret
                                exact ⟨by first | rfl | (simp [errW_none, errW_some] <;> rfl) | (simp [*, errW_none, errW_some] <;> rfl), by repeat (first | (with_reducible first | exact HB.out | apply below_alloc | apply pw_below_drewN | apply below_drew1 | refine below_set ?_ GE583.out | refine below_set ?_ GE597.out | refine below_set ?_ GE602.out | refine below_set ?_ GE611.out | refine below_set ?_ GE642.out) | exact HB.out)⟩
                              · replace c166 := Bool.eq_false_iff.mpr c166
                                subst c166
                                have H1 : ((laws_heldOrder.f kj120 t606 t628 1).bind fun t644 => (if t644 < 0 then (some false) else (if t644 = t627 then (some true) else (some false)))) = some r := by rw [if_neg (show ¬ (false = true) by decide)] at H; exact H
                                clear H
                                have H := H1
                                clear H1
                                replace H := Option.bind_eq_some_iff.mp H
                                obtain ⟨t644, A1670, H⟩ := H
                                replace H : (if t644 < 0 then (some false) else (if t644 = t627 then (some true) else (some false))) = some r := H
                                have A167 := Aside0.mk A1670
                                clear A1670
                                by_cases c168 : t644 < 0
                                · rw [if_pos c168] at H
                                  have c168b0 : decide (t644 < 0) = true := decide_eq_true c168
                                  clear c168
                                  obtain rfl := Option.some.inj H
                                  have hnb169 := NB611_583.out
                                  have hnc169 := NB583_611.out
                                  have hnb170 := NB611_597.out
                                  have hnc170 := NB597_611.out
                                  have hnb171 := NB611_602.out
                                  have hnc171 := NB602_611.out
                                  have hnb172 := NB611_642.out
                                  have hnc172 := NB642_611.out
                                  have hcz173_0 : wc.cell? ⟨gb611, 0, none⟩ = some (.int .i64 t606) := (blk_cell BK611.out 0).trans rfl
                                  have hcz173_1 : wc.cell? ⟨gb611, 1, none⟩ = some (.slice Ao46 t628.length co46) := (blk_cell BK611.out 1).trans rfl
                                  have hfz173_0 := blk_frozen BK611.out 0
                                  have hfz173_1 := blk_frozen BK611.out 1
                                  go_wp2_with (first | ((with_reducible refine gate_callee (f := 26) rfl ?_); refine goesL_ (some 111) rfl rfl Try.func26 (by kernel_rfl) rfl #[.agg #[.int .i64 t606, .slice Ao46 t628.length co46], .int .i64 1] rfl (by (try simp only [List.map_toArray, List.map_cons, List.map_nil]); first | done | rfl | (simp only [List.length_drop, List.length_take]; rfl)) ?_; (with_reducible refine (laws_heldOrder.calls kj120 t606 _ _ t628 1 t644 _ ?side1 ?side2 A167.out).mono ?_); (case side1 => repeat (first | exact (Kd.R_reads' HO_612001.out).2.2 | (with_reducible refine Kd.C_alloc ?_ _) | (with_reducible refine Kd.C_drewN ?_ _) | (with_reducible refine Kd.C_drew ?_))); (case side2 => exact (Kd.R_reads' HO_612001.out).2.1); rintro e w174 ⟨rfl, hb⟩; refine ⟨_, rfl, ?_⟩; have n0_ := Aside0.mk (Kd.R_below (by (with_reducible repeat (first | apply Kd.R_alloc | apply Kd.R_drewN | apply Kd.R_drew)); exact HO_598001.out) hb); have n1_ := Aside0.mk (Kd.R_below (by (with_reducible repeat (first | apply Kd.R_alloc | apply Kd.R_drewN | apply Kd.R_drew)); exact HO_603001.out) hb); have n2_ := Aside0.mk (Kd.R_below (by (with_reducible repeat (first | apply Kd.R_alloc | apply Kd.R_drewN | apply Kd.R_drew)); exact HO_612001.out) hb); have n3_ := Aside0.mk (Kd.R_below (by (with_reducible repeat (first | apply Kd.R_alloc | apply Kd.R_drewN | apply Kd.R_drew)); exact HO_643001.out) hb); have n4_ := Aside0.mk (blk_below (g := gb583) (o := .cells #[.int .i64 a0_0, .slice A0_1 l0_1.length c0_1] 33 (0, 0)) (by (with_reducible repeat (first | refine blk_drewN ?_ _ | refine blk_drew ?_ | refine blk_alloc ?_ _)); exact BK583.out) hb); have n5_ := Aside0.mk (blk_below (g := gb597) (o := .cells #[.int .i64 t592, .slice Ao29 t593.length co29] 37 (0, 0)) (by (with_reducible repeat (first | refine blk_drewN ?_ _ | refine blk_drew ?_ | refine blk_alloc ?_ _)); exact BK597.out) hb); have n6_ := Aside0.mk (blk_below (g := gb602) (o := .cells #[.int .i64 t598, .slice Ao36 t623.length co36] 37 (0, 0)) (by (with_reducible repeat (first | refine blk_drewN ?_ _ | refine blk_drew ?_ | refine blk_alloc ?_ _)); exact BK602.out) hb); have n7_ := Aside0.mk (blk_below (g := gb611) (o := .cells #[.int .i64 t606, .slice Ao46 t628.length co46] 37 (0, 0)) (by (with_reducible repeat (first | refine blk_drewN ?_ _ | refine blk_drew ?_ | refine blk_alloc ?_ _)); exact BK611.out) hb); have n8_ := Aside0.mk (blk_below (g := gb642) (o := .cells #[.int .i64 t637, .slice Ao143 t638.length co143] 37 (0, 0)) (by (with_reducible repeat (first | refine blk_drewN ?_ _ | refine blk_drew ?_ | refine blk_alloc ?_ _)); exact BK642.out) hb); have n9_ := Aside0.mk (below_step (by repeat (first | (with_reducible first | exact HB.out | apply below_alloc | apply pw_below_drewN | apply below_drew1 | refine below_set ?_ GE583.out | refine below_set ?_ GE597.out | refine below_set ?_ GE602.out | refine below_set ?_ GE611.out | refine below_set ?_ GE642.out) | exact HB.out)) hb); clear HO_598001; clear HO_603001; clear HO_612001; clear HO_643001; clear BK583; clear BK597; clear BK602; clear BK611; clear BK642; clear HB; have HO_598001 := n0_; have HO_603001 := n1_; have HO_612001 := n2_; have HO_643001 := n3_; have BK583 := n4_; have BK597 := n5_; have BK602 := n6_; have BK611 := n7_; have BK642 := n8_; have HB := n9_; clear n0_ n1_ n2_ n3_ n4_ n5_ n6_ n7_ n8_ n9_; (try clear hb); (try clear hb2); (try clear hk); (try clear hi)))
                                  go_ret
                                  exact ⟨by first | rfl | (simp [errW_none, errW_some] <;> rfl) | (simp [*, errW_none, errW_some] <;> rfl), by repeat (first | (with_reducible first | exact HB.out | apply below_alloc | apply pw_below_drewN | apply below_drew1 | refine below_set ?_ GE583.out | refine below_set ?_ GE597.out | refine below_set ?_ GE602.out | refine below_set ?_ GE611.out | refine below_set ?_ GE642.out) | exact HB.out)⟩
                                · rw [if_neg c168] at H
                                  have c168b0 : decide (t644 < 0) = false := decide_eq_false c168
                                  clear c168
                                  by_cases c175 : t644 = t627
                                  · rw [if_pos c175] at H
                                    have c175b0 : (t644 == t627) = true := beq_iff_eq.mpr c175
                                    have c175b1 : (t644 != t627) = false := bne_eq_false_iff_eq.mpr c175
                                    clear c175
                                    obtain rfl := Option.some.inj H
                                    have hnb176 := NB611_583.out
                                    have hnc176 := NB583_611.out
                                    have hnb177 := NB611_597.out
                                    have hnc177 := NB597_611.out
                                    have hnb178 := NB611_602.out
                                    have hnc178 := NB602_611.out
                                    have hnb179 := NB611_642.out
                                    have hnc179 := NB642_611.out
                                    have hcz180_0 : wc.cell? ⟨gb611, 0, none⟩ = some (.int .i64 t606) := (blk_cell BK611.out 0).trans rfl
                                    have hcz180_1 : wc.cell? ⟨gb611, 1, none⟩ = some (.slice Ao46 t628.length co46) := (blk_cell BK611.out 1).trans rfl
                                    have hfz180_0 := blk_frozen BK611.out 0
                                    have hfz180_1 := blk_frozen BK611.out 1
                                    go_wp2_with (first | ((with_reducible refine gate_callee (f := 26) rfl ?_); refine goesL_ (some 111) rfl rfl Try.func26 (by kernel_rfl) rfl #[.agg #[.int .i64 t606, .slice Ao46 t628.length co46], .int .i64 1] rfl (by (try simp only [List.map_toArray, List.map_cons, List.map_nil]); first | done | rfl | (simp only [List.length_drop, List.length_take]; rfl)) ?_; (with_reducible refine (laws_heldOrder.calls kj120 t606 _ _ t628 1 t644 _ ?side1 ?side2 A167.out).mono ?_); (case side1 => repeat (first | exact (Kd.R_reads' HO_612001.out).2.2 | (with_reducible refine Kd.C_alloc ?_ _) | (with_reducible refine Kd.C_drewN ?_ _) | (with_reducible refine Kd.C_drew ?_))); (case side2 => exact (Kd.R_reads' HO_612001.out).2.1); rintro e w181 ⟨rfl, hb⟩; refine ⟨_, rfl, ?_⟩; have n0_ := Aside0.mk (Kd.R_below (by (with_reducible repeat (first | apply Kd.R_alloc | apply Kd.R_drewN | apply Kd.R_drew)); exact HO_598001.out) hb); have n1_ := Aside0.mk (Kd.R_below (by (with_reducible repeat (first | apply Kd.R_alloc | apply Kd.R_drewN | apply Kd.R_drew)); exact HO_603001.out) hb); have n2_ := Aside0.mk (Kd.R_below (by (with_reducible repeat (first | apply Kd.R_alloc | apply Kd.R_drewN | apply Kd.R_drew)); exact HO_612001.out) hb); have n3_ := Aside0.mk (Kd.R_below (by (with_reducible repeat (first | apply Kd.R_alloc | apply Kd.R_drewN | apply Kd.R_drew)); exact HO_643001.out) hb); have n4_ := Aside0.mk (blk_below (g := gb583) (o := .cells #[.int .i64 a0_0, .slice A0_1 l0_1.length c0_1] 33 (0, 0)) (by (with_reducible repeat (first | refine blk_drewN ?_ _ | refine blk_drew ?_ | refine blk_alloc ?_ _)); exact BK583.out) hb); have n5_ := Aside0.mk (blk_below (g := gb597) (o := .cells #[.int .i64 t592, .slice Ao29 t593.length co29] 37 (0, 0)) (by (with_reducible repeat (first | refine blk_drewN ?_ _ | refine blk_drew ?_ | refine blk_alloc ?_ _)); exact BK597.out) hb); have n6_ := Aside0.mk (blk_below (g := gb602) (o := .cells #[.int .i64 t598, .slice Ao36 t623.length co36] 37 (0, 0)) (by (with_reducible repeat (first | refine blk_drewN ?_ _ | refine blk_drew ?_ | refine blk_alloc ?_ _)); exact BK602.out) hb); have n7_ := Aside0.mk (blk_below (g := gb611) (o := .cells #[.int .i64 t606, .slice Ao46 t628.length co46] 37 (0, 0)) (by (with_reducible repeat (first | refine blk_drewN ?_ _ | refine blk_drew ?_ | refine blk_alloc ?_ _)); exact BK611.out) hb); have n8_ := Aside0.mk (blk_below (g := gb642) (o := .cells #[.int .i64 t637, .slice Ao143 t638.length co143] 37 (0, 0)) (by (with_reducible repeat (first | refine blk_drewN ?_ _ | refine blk_drew ?_ | refine blk_alloc ?_ _)); exact BK642.out) hb); have n9_ := Aside0.mk (below_step (by repeat (first | (with_reducible first | exact HB.out | apply below_alloc | apply pw_below_drewN | apply below_drew1 | refine below_set ?_ GE583.out | refine below_set ?_ GE597.out | refine below_set ?_ GE602.out | refine below_set ?_ GE611.out | refine below_set ?_ GE642.out) | exact HB.out)) hb); clear HO_598001; clear HO_603001; clear HO_612001; clear HO_643001; clear BK583; clear BK597; clear BK602; clear BK611; clear BK642; clear HB; have HO_598001 := n0_; have HO_603001 := n1_; have HO_612001 := n2_; have HO_643001 := n3_; have BK583 := n4_; have BK597 := n5_; have BK602 := n6_; have BK611 := n7_; have BK642 := n8_; have HB := n9_; clear n0_ n1_ n2_ n3_ n4_ n5_ n6_ n7_ n8_ n9_; (try clear hb); (try clear hb2); (try clear hk); (try clear hi)))
                                    go_ret
                                    exact ⟨by first | rfl | (simp [errW_none, errW_some] <;> rfl) | (simp [*, errW_none, errW_some] <;> rfl), by repeat (first | (with_reducible first | exact HB.out | apply below_alloc | apply pw_below_drewN | apply below_drew1 | refine below_set ?_ GE583.out | refine below_set ?_ GE597.out | refine below_set ?_ GE602.out | refine below_set ?_ GE611.out | refine below_set ?_ GE642.out) | exact HB.out)⟩
                                  · rw [if_neg c175] at H
                                    have c175b0 : (t644 == t627) = false := beq_eq_false_iff_ne.mpr c175
                                    have c175b1 : (t644 != t627) = true := bne_iff_ne.mpr c175
                                    obtain rfl := Option.some.inj H
                                    have hnb182 := NB611_583.out
                                    have hnc182 := NB583_611.out
                                    have hnb183 := NB611_597.out
                                    have hnc183 := NB597_611.out
                                    have hnb184 := NB611_602.out
                                    have hnc184 := NB602_611.out
                                    have hnb185 := NB611_642.out
                                    have hnc185 := NB642_611.out
                                    have hcz186_0 : wc.cell? ⟨gb611, 0, none⟩ = some (.int .i64 t606) := (blk_cell BK611.out 0).trans rfl
                                    have hcz186_1 : wc.cell? ⟨gb611, 1, none⟩ = some (.slice Ao46 t628.length co46) := (blk_cell BK611.out 1).trans rfl
                                    have hfz186_0 := blk_frozen BK611.out 0
                                    have hfz186_1 := blk_frozen BK611.out 1
                                    go_wp2_with (first | ((with_reducible refine gate_callee (f := 26) rfl ?_); refine goesL_ (some 111) rfl rfl Try.func26 (by kernel_rfl) rfl #[.agg #[.int .i64 t606, .slice Ao46 t628.length co46], .int .i64 1] rfl (by (try simp only [List.map_toArray, List.map_cons, List.map_nil]); first | done | rfl | (simp only [List.length_drop, List.length_take]; rfl)) ?_; (with_reducible refine (laws_heldOrder.calls kj120 t606 _ _ t628 1 t644 _ ?side1 ?side2 A167.out).mono ?_); (case side1 => repeat (first | exact (Kd.R_reads' HO_612001.out).2.2 | (with_reducible refine Kd.C_alloc ?_ _) | (with_reducible refine Kd.C_drewN ?_ _) | (with_reducible refine Kd.C_drew ?_))); (case side2 => exact (Kd.R_reads' HO_612001.out).2.1); rintro e w187 ⟨rfl, hb⟩; refine ⟨_, rfl, ?_⟩; have n0_ := Aside0.mk (Kd.R_below (by (with_reducible repeat (first | apply Kd.R_alloc | apply Kd.R_drewN | apply Kd.R_drew)); exact HO_598001.out) hb); have n1_ := Aside0.mk (Kd.R_below (by (with_reducible repeat (first | apply Kd.R_alloc | apply Kd.R_drewN | apply Kd.R_drew)); exact HO_603001.out) hb); have n2_ := Aside0.mk (Kd.R_below (by (with_reducible repeat (first | apply Kd.R_alloc | apply Kd.R_drewN | apply Kd.R_drew)); exact HO_612001.out) hb); have n3_ := Aside0.mk (Kd.R_below (by (with_reducible repeat (first | apply Kd.R_alloc | apply Kd.R_drewN | apply Kd.R_drew)); exact HO_643001.out) hb); have n4_ := Aside0.mk (blk_below (g := gb583) (o := .cells #[.int .i64 a0_0, .slice A0_1 l0_1.length c0_1] 33 (0, 0)) (by (with_reducible repeat (first | refine blk_drewN ?_ _ | refine blk_drew ?_ | refine blk_alloc ?_ _)); exact BK583.out) hb); have n5_ := Aside0.mk (blk_below (g := gb597) (o := .cells #[.int .i64 t592, .slice Ao29 t593.length co29] 37 (0, 0)) (by (with_reducible repeat (first | refine blk_drewN ?_ _ | refine blk_drew ?_ | refine blk_alloc ?_ _)); exact BK597.out) hb); have n6_ := Aside0.mk (blk_below (g := gb602) (o := .cells #[.int .i64 t598, .slice Ao36 t623.length co36] 37 (0, 0)) (by (with_reducible repeat (first | refine blk_drewN ?_ _ | refine blk_drew ?_ | refine blk_alloc ?_ _)); exact BK602.out) hb); have n7_ := Aside0.mk (blk_below (g := gb611) (o := .cells #[.int .i64 t606, .slice Ao46 t628.length co46] 37 (0, 0)) (by (with_reducible repeat (first | refine blk_drewN ?_ _ | refine blk_drew ?_ | refine blk_alloc ?_ _)); exact BK611.out) hb); have n8_ := Aside0.mk (blk_below (g := gb642) (o := .cells #[.int .i64 t637, .slice Ao143 t638.length co143] 37 (0, 0)) (by (with_reducible repeat (first | refine blk_drewN ?_ _ | refine blk_drew ?_ | refine blk_alloc ?_ _)); exact BK642.out) hb); have n9_ := Aside0.mk (below_step (by repeat (first | (with_reducible first | exact HB.out | apply below_alloc | apply pw_below_drewN | apply below_drew1 | refine below_set ?_ GE583.out | refine below_set ?_ GE597.out | refine below_set ?_ GE602.out | refine below_set ?_ GE611.out | refine below_set ?_ GE642.out) | exact HB.out)) hb); clear HO_598001; clear HO_603001; clear HO_612001; clear HO_643001; clear BK583; clear BK597; clear BK602; clear BK611; clear BK642; clear HB; have HO_598001 := n0_; have HO_603001 := n1_; have HO_612001 := n2_; have HO_643001 := n3_; have BK583 := n4_; have BK597 := n5_; have BK602 := n6_; have BK611 := n7_; have BK642 := n8_; have HB := n9_; clear n0_ n1_ n2_ n3_ n4_ n5_ n6_ n7_ n8_ n9_; (try clear hb); (try clear hb2); (try clear hk); (try clear hi)))
                                    go_ret
                                    exact ⟨by first | rfl | (simp [errW_none, errW_some] <;> rfl) | (simp [*, errW_none, errW_some] <;> rfl), by repeat (first | (with_reducible first | exact HB.out | apply below_alloc | apply pw_below_drewN | apply below_drew1 | refine below_set ?_ GE583.out | refine below_set ?_ GE597.out | refine below_set ?_ GE602.out | refine below_set ?_ GE611.out | refine below_set ?_ GE642.out) | exact HB.out)⟩
                        · rw [if_neg c117] at H
                          have c117b0 : (t629 == t627) = false := beq_eq_false_iff_ne.mpr c117
                          have c117b1 : (t629 != t627) = true := bne_iff_ne.mpr c117
                          obtain rfl := Option.some.inj H
                          have hnb188 := NB611_583.out
                          have hnc188 := NB583_611.out
                          have hnb189 := NB611_597.out
                          have hnc189 := NB597_611.out
                          have hnb190 := NB611_602.out
                          have hnc190 := NB602_611.out
                          have hcz191_0 : wc.cell? ⟨gb611, 0, none⟩ = some (.int .i64 t606) := (blk_cell BK611.out 0).trans rfl
                          have hcz191_1 : wc.cell? ⟨gb611, 1, none⟩ = some (.slice Ao46 t607.length co46) := (blk_cell BK611.out 1).trans rfl
                          have hfz191_0 := blk_frozen BK611.out 0
                          have hfz191_1 := blk_frozen BK611.out 1
                          go_wp2_with (first | ((with_reducible refine gate_callee (f := 25) rfl ?_); refine goesL_ (some 83) rfl rfl Try.func25 (by kernel_rfl) rfl #[.agg #[.int .i64 t606, .slice Ao46 t607.length co46], .int .i64 1] rfl (by (try simp only [List.map_toArray, List.map_cons, List.map_nil]); first | done | rfl | (simp only [List.length_drop, List.length_take]; rfl)) ?_; (with_reducible refine (laws_markOrder.calls kj73 t606 (fun k_ => some k_ = (.slice Ao46 t607.length co46 : Value).ownBlock) (.slice Ao46 t607.length co46) t607 1 t627 t628 w _ ?side1 ?side2 A107.out).mono ?_); (case side1 => repeat (first | (with_reducible first | exact HB.out | apply below_alloc | apply pw_below_drewN | apply below_drew1 | refine below_set ?_ GE583.out | refine below_set ?_ GE597.out | refine below_set ?_ GE602.out | refine below_set ?_ GE611.out) | exact HB.out)); (case side2 => exact Kd.R_tight rfl HO_612001.out); rintro e w192 ⟨rfl, hy0, hb, hkp⟩; refine ⟨_, rfl, ?_⟩; have n0_ := Aside0.mk (Kd.R_mono (ok' := fun k_ => some k_ ≠ (.slice Ao36 t623.length co36 : Value).ownBlock ∧ some k_ ≠ (.slice Ao46 t607.length co46 : Value).ownBlock) (Kd.R_keptB (HO_598001.out) hkp (fun k_ hk_ hs_ => (hk_.2) hs_)) (fun k_ hk_ => ⟨hk_.1.1, hk_.1.2⟩)); have n1_ := Aside0.mk (Kd.R_mono (ok' := fun k_ => some k_ ≠ (.slice Ao29 t593.length co29 : Value).ownBlock ∧ some k_ ≠ (.slice Ao46 t607.length co46 : Value).ownBlock) (Kd.R_keptB (HO_603001.out) hkp (fun k_ hk_ hs_ => (hk_.2) hs_)) (fun k_ hk_ => ⟨hk_.1.1, hk_.1.2⟩)); have n2_ := Aside0.mk (Kd.R_reok rfl hy0 (fun k_ e_ => HO_612001.out.1 k_ e_)); have n3_ := Aside0.mk (blk_kept (by (with_reducible repeat (first | refine blk_drewN ?_ _ | refine blk_drew ?_ | refine blk_alloc ?_ _)); exact BK583.out) hkp (fun hs_ => (fun e_ => (Kd.R_ne HO_612001.out BK583.out (by decide)) e_) hs_)); have n4_ := Aside0.mk (blk_kept (by (with_reducible repeat (first | refine blk_drewN ?_ _ | refine blk_drew ?_ | refine blk_alloc ?_ _)); exact BK597.out) hkp (fun hs_ => (fun e_ => (Kd.R_ne HO_612001.out BK597.out (by decide)) e_) hs_)); have n5_ := Aside0.mk (blk_kept (by (with_reducible repeat (first | refine blk_drewN ?_ _ | refine blk_drew ?_ | refine blk_alloc ?_ _)); exact BK602.out) hkp (fun hs_ => (fun e_ => (Kd.R_ne HO_612001.out BK602.out (by decide)) e_) hs_)); have n6_ := Aside0.mk (blk_kept (by (with_reducible repeat (first | refine blk_drewN ?_ _ | refine blk_drew ?_ | refine blk_alloc ?_ _)); exact BK611.out) hkp (fun hs_ => (fun e_ => (Kd.R_ne HO_612001.out BK611.out (by decide)) e_) hs_)); have n7_ := Aside0.mk (hb); clear HO_598001; clear HO_603001; clear HO_612001; clear BK583; clear BK597; clear BK602; clear BK611; clear HB; have HO_598001 := n0_; have HO_603001 := n1_; have HO_612001 := n2_; have BK583 := n3_; have BK597 := n4_; have BK602 := n5_; have BK611 := n6_; have HB := n7_; clear n0_ n1_ n2_ n3_ n4_ n5_ n6_ n7_; (try clear hb); (try clear hkp); (try clear hy0); have hcz193_0 : w192.cell? ⟨gb611, 0, none⟩ = some (.int .i64 t606) := (blk_cell BK611.out 0).trans rfl; have hcz193_1 : w192.cell? ⟨gb611, 1, none⟩ = some (.slice Ao46 t607.length co46) := (blk_cell BK611.out 1).trans rfl; have hfz193_0 := blk_frozen BK611.out 0; have hfz193_1 := blk_frozen BK611.out 1) | ((with_reducible refine gate_callee (f := 26) rfl ?_); refine goesL_ (some 86) rfl rfl Try.func26 (by kernel_rfl) rfl #[.agg #[.int .i64 t606, .slice Ao46 t628.length co46], .int .i64 1] rfl (by (try simp only [List.map_toArray, List.map_cons, List.map_nil]); first | done | (rw [show t628.length = t607.length from (Kd.R_reads' HO_612001.out).1.symm] <;> rfl) | rfl | (simp only [List.length_drop, List.length_take]; rfl)) ?_; (with_reducible refine (laws_heldOrder.calls kj73 t606 _ _ t628 1 t629 _ ?side1 ?side2 A108.out).mono ?_); (case side1 => repeat (first | exact (Kd.R_reads' HO_612001.out).2.2 | (with_reducible refine Kd.C_alloc ?_ _) | (with_reducible refine Kd.C_drewN ?_ _) | (with_reducible refine Kd.C_drew ?_))); (case side2 => rw [show t628.length = t607.length from (Kd.R_reads' HO_612001.out).1.symm]; exact (Kd.R_reads' HO_612001.out).2.1); rintro e w194 ⟨rfl, hb⟩; refine ⟨_, rfl, ?_⟩; have n0_ := Aside0.mk (Kd.R_below (by (with_reducible repeat (first | apply Kd.R_alloc | apply Kd.R_drewN | apply Kd.R_drew)); exact HO_598001.out) hb); have n1_ := Aside0.mk (Kd.R_below (by (with_reducible repeat (first | apply Kd.R_alloc | apply Kd.R_drewN | apply Kd.R_drew)); exact HO_603001.out) hb); have n2_ := Aside0.mk (Kd.R_below (by (with_reducible repeat (first | apply Kd.R_alloc | apply Kd.R_drewN | apply Kd.R_drew)); exact HO_612001.out) hb); have n3_ := Aside0.mk (blk_below (g := gb583) (o := .cells #[.int .i64 a0_0, .slice A0_1 l0_1.length c0_1] 33 (0, 0)) (by (with_reducible repeat (first | refine blk_drewN ?_ _ | refine blk_drew ?_ | refine blk_alloc ?_ _)); exact BK583.out) hb); have n4_ := Aside0.mk (blk_below (g := gb597) (o := .cells #[.int .i64 t592, .slice Ao29 t593.length co29] 37 (0, 0)) (by (with_reducible repeat (first | refine blk_drewN ?_ _ | refine blk_drew ?_ | refine blk_alloc ?_ _)); exact BK597.out) hb); have n5_ := Aside0.mk (blk_below (g := gb602) (o := .cells #[.int .i64 t598, .slice Ao36 t623.length co36] 37 (0, 0)) (by (with_reducible repeat (first | refine blk_drewN ?_ _ | refine blk_drew ?_ | refine blk_alloc ?_ _)); exact BK602.out) hb); have n6_ := Aside0.mk (blk_below (g := gb611) (o := .cells #[.int .i64 t606, .slice Ao46 t607.length co46] 37 (0, 0)) (by (with_reducible repeat (first | refine blk_drewN ?_ _ | refine blk_drew ?_ | refine blk_alloc ?_ _)); exact BK611.out) hb); have n7_ := Aside0.mk (below_step (by repeat (first | (with_reducible first | exact HB.out | apply below_alloc | apply pw_below_drewN | apply below_drew1 | refine below_set ?_ GE583.out | refine below_set ?_ GE597.out | refine below_set ?_ GE602.out | refine below_set ?_ GE611.out) | exact HB.out)) hb); clear HO_598001; clear HO_603001; clear HO_612001; clear BK583; clear BK597; clear BK602; clear BK611; clear HB; have HO_598001 := n0_; have HO_603001 := n1_; have HO_612001 := n2_; have BK583 := n3_; have BK597 := n4_; have BK602 := n5_; have BK611 := n6_; have HB := n7_; clear n0_ n1_ n2_ n3_ n4_ n5_ n6_ n7_; (try clear hb); (try clear hb2); (try clear hk); (try clear hi)))
                          go_ret
                          exact ⟨by first | rfl | (simp [errW_none, errW_some] <;> rfl) | (simp [*, errW_none, errW_some] <;> rfl), by repeat (first | (with_reducible first | exact HB.out | apply below_alloc | apply pw_below_drewN | apply below_drew1 | refine below_set ?_ GE583.out | refine below_set ?_ GE597.out | refine below_set ?_ GE602.out | refine below_set ?_ GE611.out) | exact HB.out)⟩
              · replace c71 := Bool.eq_false_iff.mpr c71
                subst c71
                have H1 : (some false) = some r := by rw [if_neg (show ¬ (false = true) by decide)] at H; exact H
                clear H
                have H := H1
                clear H1
                obtain rfl := Option.some.inj H
                try go_wp2
                have n0_ := Aside0.mk (Kd.R_drew HO_9.out)
                have n1_ := Aside0.mk (Kd.R_drew HO_598001.out)
                have n2_ := Aside0.mk (Kd.R_drew HO_603001.out)
                have n3_ := Aside0.mk (Kd.R_drew HO_612001.out)
                have n4_ := Aside0.mk (blk_drew BK583.out)
                have n5_ := Aside0.mk (blk_drew BK597.out)
                have n6_ := Aside0.mk (blk_drew BK602.out)
                have n7_ := Aside0.mk (blk_drew BK611.out)
                have n8_ := Aside0.mk (below_drew1 HB.out)
                clear HO_9
                clear HO_598001
                clear HO_603001
                clear HO_612001
                clear BK583
                clear BK597
                clear BK602
                clear BK611
                clear HB
                have HO_9 := n0_
                have HO_598001 := n1_
                have HO_603001 := n2_
                have HO_612001 := n3_
                have BK583 := n4_
                have BK597 := n5_
                have BK602 := n6_
                have BK611 := n7_
                have HB := n8_
                clear n0_ n1_ n2_ n3_ n4_ n5_ n6_ n7_ n8_
                refine start_ (n := 5) (S := fun w' => w'.cell? ⟨gb602, 0, none⟩ = some (.int .i64 t598) ∧ w'.cell? ⟨gb602, 1, none⟩ = some (.slice Ao36 t599.length co36) ∧ w'.cell? ⟨gb583, 0, none⟩ = some (.int .i64 a0_0) ∧ w'.cell? ⟨gb583, 1, none⟩ = some (.slice A0_1 l0_1.length c0_1)) (ds := []) #[false, false, false, false, false] (by kernel_rfl) rfl rfl ⟨(blk_cell BK602.out 0).trans rfl, (blk_cell BK602.out 1).trans rfl, (blk_cell BK583.out 0).trans rfl, (blk_cell BK583.out 1).trans rfl⟩ (fun hHeld => ?_)
                generalize wc.drew = w195 at HO_9 HO_598001 HO_603001 HO_612001 BK583 BK597 BK602 BK611 HB hHeld ⊢
                refine take_ (i := 0) (N := some 52) (v := ?_) (a' := ?_) #[true, false, false, false, false] rfl rfl (by kernel_rfl) (fun _ _ _ h => h) (Or.inl ⟨by rfl, ?_⟩) hHeld ?_ ?_
                rotate_left
                · rintro w' ⟨s0, s1, s2, s3⟩
                  go_simp
                  with_reducible rfl
                rotate_left
                · simp only [Act.put, List.setIfInBounds_toArray, List.set_cons_zero, List.set_cons_succ, i64_w, i32_w]
                  rfl
                refine take_ (i := 1) (N := some 53) (v := ?_) (a' := ?_) #[true, true, false, false, false] rfl rfl (by kernel_rfl) (fun _ _ _ h => h) (Or.inl ⟨by rfl, ?_⟩) hHeld ?_ ?_
                rotate_left
                · rintro w' ⟨s0, s1, s2, s3⟩
                  go_simp
                  with_reducible rfl
                rotate_left
                · simp only [Act.put, List.setIfInBounds_toArray, List.set_cons_zero, List.set_cons_succ, i64_w, i32_w]
                  rfl
                refine one_ (i := 2) (N := some 54) #[true, true, true, false, false] rfl rfl (by kernel_rfl) (by decide) (fun K hK => ?_)
                refine goes_ Try.func20 (by kernel_rfl) rfl #[.agg #[.int .i64 a0_0, .slice A0_1 l0_1.length c0_1]] (by rfl) rfl rfl (by (try simp only [List.map_toArray, List.map_cons, List.map_nil]); first | done | rfl | (simp only [List.length_drop, List.length_take]; rfl)) ?_
                with_reducible refine (laws_toOrder.calls kj15 a0_0 _ _ l0_1 t613 t614 _ ?side1 ?side2 A66.out).mono ?_
                (case side1 => repeat (first | exact (Kd.C_below HR0_1.out HB.out) | (with_reducible refine Kd.C_alloc ?_ _) | (with_reducible refine Kd.C_drewN ?_ _) | (with_reducible refine Kd.C_drew ?_)))
                (case side2 => exact HC0_1.out)
                rintro e w196 ⟨v615, rfl, ho0, hb⟩
                refine ⟨_, rfl, ?_⟩
                have n0_ := Aside0.mk (Kd.R_elder' (by (with_reducible repeat (first | apply Kd.R_alloc | apply Kd.R_drewN | apply Kd.R_drew)); exact HO_9.out) (Kd.R_base ho0) hb)
                have n1_ := Aside0.mk (Kd.R_elder' (by (with_reducible repeat (first | apply Kd.R_alloc | apply Kd.R_drewN | apply Kd.R_drew)); exact HO_598001.out) (Kd.R_base ho0) hb)
                have n2_ := Aside0.mk (Kd.R_elder' (by (with_reducible repeat (first | apply Kd.R_alloc | apply Kd.R_drewN | apply Kd.R_drew)); exact HO_603001.out) (Kd.R_base ho0) hb)
                have n3_ := Aside0.mk (Kd.R_elder' (by (with_reducible repeat (first | apply Kd.R_alloc | apply Kd.R_drewN | apply Kd.R_drew)); exact HO_612001.out) (Kd.R_base ho0) hb)
                have n4_ := Aside0.mk (Kd.R_lower (Kd.R_new' (Kd.R_new' (Kd.R_new' (Kd.R_new' ho0 (Kd.R_lt (by (with_reducible repeat (first | apply Kd.R_alloc | apply Kd.R_drewN | apply Kd.R_drew)); exact HO_9.out))) (Kd.R_lt (by (with_reducible repeat (first | apply Kd.R_alloc | apply Kd.R_drewN | apply Kd.R_drew)); exact HO_598001.out))) (Kd.R_lt (by (with_reducible repeat (first | apply Kd.R_alloc | apply Kd.R_drewN | apply Kd.R_drew)); exact HO_603001.out))) (Kd.R_lt (by (with_reducible repeat (first | apply Kd.R_alloc | apply Kd.R_drewN | apply Kd.R_drew)); exact HO_612001.out))) (below_size (by repeat (first | (with_reducible first | exact HB.out | apply below_alloc | apply pw_below_drewN | apply below_drew1 | refine below_set ?_ GE583.out | refine below_set ?_ GE597.out | refine below_set ?_ GE602.out | refine below_set ?_ GE611.out) | exact HB.out))))
                have n5_ := Aside0.mk (blk_below (g := gb583) (o := .cells #[.int .i64 a0_0, .slice A0_1 l0_1.length c0_1] 33 (0, 0)) (by (with_reducible repeat (first | refine blk_drewN ?_ _ | refine blk_drew ?_ | refine blk_alloc ?_ _)); exact BK583.out) hb)
                have n6_ := Aside0.mk (blk_below (g := gb597) (o := .cells #[.int .i64 t592, .slice Ao29 t593.length co29] 37 (0, 0)) (by (with_reducible repeat (first | refine blk_drewN ?_ _ | refine blk_drew ?_ | refine blk_alloc ?_ _)); exact BK597.out) hb)
                have n7_ := Aside0.mk (blk_below (g := gb602) (o := .cells #[.int .i64 t598, .slice Ao36 t599.length co36] 37 (0, 0)) (by (with_reducible repeat (first | refine blk_drewN ?_ _ | refine blk_drew ?_ | refine blk_alloc ?_ _)); exact BK602.out) hb)
                have n8_ := Aside0.mk (blk_below (g := gb611) (o := .cells #[.int .i64 t606, .slice Ao46 t607.length co46] 37 (0, 0)) (by (with_reducible repeat (first | refine blk_drewN ?_ _ | refine blk_drew ?_ | refine blk_alloc ?_ _)); exact BK611.out) hb)
                have n9_ := Aside0.mk (below_step (by repeat (first | (with_reducible first | exact HB.out | apply below_alloc | apply pw_below_drewN | apply below_drew1 | refine below_set ?_ GE583.out | refine below_set ?_ GE597.out | refine below_set ?_ GE602.out | refine below_set ?_ GE611.out) | exact HB.out)) hb)
                clear HO_9
                clear HO_598001
                clear HO_603001
                clear HO_612001
                clear BK583
                clear BK597
                clear BK602
                clear BK611
                clear HB
                have HO_9 := n0_
                have HO_598001 := n1_
                have HO_603001 := n2_
                have HO_612001 := n3_
                have HO616 := n4_
                have BK583 := n5_
                have BK597 := n6_
                have BK602 := n7_
                have BK611 := n8_
                have HB := n9_
                clear n0_ n1_ n2_ n3_ n4_ n5_ n6_ n7_ n8_ n9_
                (try clear hb)
                (try clear hb2)
                (try clear hk)
                (try clear hi)
                (try clear ho0)
                obtain ⟨Ao197, co197, eo197⟩ := Kd.R_slice HO616.out
                (first | subst eo197 | (injection eo197 with f1_ f2_ f3_; have f4_ := f1_.symm; have f5_ := f3_.symm; clear f1_ f2_ f3_; subst f4_; subst f5_))
                refine hK.out _ _ ⟨(blk_cell BK602.out 0).trans rfl, (blk_cell BK602.out 1).trans rfl, (blk_cell BK583.out 0).trans rfl, (blk_cell BK583.out 1).trans rfl⟩ (fun hHeld => ?_)
                clear hK K
                refine norm_ (a' := ?_) ?_ ?_
                rotate_left
                · show Act.put _ (some 54) _ = _
                  simp only [Act.put, List.setIfInBounds_toArray, List.set_cons_zero, List.set_cons_succ, i64_w, i32_w]
                  rfl
                refine one_ (i := 3) (N := some 55) #[true, true, true, true, false] rfl rfl (by kernel_rfl) (by decide) (fun K hK => ?_)
                refine goes_ Try.func22 (by kernel_rfl) rfl #[.agg #[.int .i64 t598, .slice Ao36 t599.length co36], .agg #[.int .i64 t613, .slice Ao197 t614.length co197]] (by rfl) rfl rfl (by (try simp only [List.map_toArray, List.map_cons, List.map_nil]); first | done | rfl | (simp only [List.length_drop, List.length_take]; rfl)) ?_
                with_reducible refine (laws_eqOrder.calls kj15 t598 _ _ t599 t613 _ _ t614 true _ ?side1 ?side2 ?side3 ?side4 A67.out).mono ?_
                (case side1 => repeat (first | exact (Kd.R_reads' HO_603001.out).2.2 | (with_reducible refine Kd.C_alloc ?_ _) | (with_reducible refine Kd.C_drewN ?_ _) | (with_reducible refine Kd.C_drew ?_)))
                (case side2 => exact (Kd.R_reads' HO_603001.out).2.1)
                (case side3 => repeat (first | exact (Kd.R_reads' HO616.out).2.2 | (with_reducible refine Kd.C_alloc ?_ _) | (with_reducible refine Kd.C_drewN ?_ _) | (with_reducible refine Kd.C_drew ?_)))
                (case side4 => exact (Kd.R_reads' HO616.out).2.1)
                rintro e w198 ⟨rfl, hb⟩
                refine ⟨_, rfl, ?_⟩
                have n0_ := Aside0.mk (Kd.R_below (by (with_reducible repeat (first | apply Kd.R_alloc | apply Kd.R_drewN | apply Kd.R_drew)); exact HO_9.out) hb)
                have n1_ := Aside0.mk (Kd.R_below (by (with_reducible repeat (first | apply Kd.R_alloc | apply Kd.R_drewN | apply Kd.R_drew)); exact HO_598001.out) hb)
                have n2_ := Aside0.mk (Kd.R_below (by (with_reducible repeat (first | apply Kd.R_alloc | apply Kd.R_drewN | apply Kd.R_drew)); exact HO_603001.out) hb)
                have n3_ := Aside0.mk (Kd.R_below (by (with_reducible repeat (first | apply Kd.R_alloc | apply Kd.R_drewN | apply Kd.R_drew)); exact HO_612001.out) hb)
                have n4_ := Aside0.mk (Kd.R_below (by (with_reducible repeat (first | apply Kd.R_alloc | apply Kd.R_drewN | apply Kd.R_drew)); exact HO616.out) hb)
                have n5_ := Aside0.mk (blk_below (g := gb583) (o := .cells #[.int .i64 a0_0, .slice A0_1 l0_1.length c0_1] 33 (0, 0)) (by (with_reducible repeat (first | refine blk_drewN ?_ _ | refine blk_drew ?_ | refine blk_alloc ?_ _)); exact BK583.out) hb)
                have n6_ := Aside0.mk (blk_below (g := gb597) (o := .cells #[.int .i64 t592, .slice Ao29 t593.length co29] 37 (0, 0)) (by (with_reducible repeat (first | refine blk_drewN ?_ _ | refine blk_drew ?_ | refine blk_alloc ?_ _)); exact BK597.out) hb)
                have n7_ := Aside0.mk (blk_below (g := gb602) (o := .cells #[.int .i64 t598, .slice Ao36 t599.length co36] 37 (0, 0)) (by (with_reducible repeat (first | refine blk_drewN ?_ _ | refine blk_drew ?_ | refine blk_alloc ?_ _)); exact BK602.out) hb)
                have n8_ := Aside0.mk (blk_below (g := gb611) (o := .cells #[.int .i64 t606, .slice Ao46 t607.length co46] 37 (0, 0)) (by (with_reducible repeat (first | refine blk_drewN ?_ _ | refine blk_drew ?_ | refine blk_alloc ?_ _)); exact BK611.out) hb)
                have n9_ := Aside0.mk (below_step (by repeat (first | (with_reducible first | exact HB.out | apply below_alloc | apply pw_below_drewN | apply below_drew1 | refine below_set ?_ GE583.out | refine below_set ?_ GE597.out | refine below_set ?_ GE602.out | refine below_set ?_ GE611.out) | exact HB.out)) hb)
                clear HO_9
                clear HO_598001
                clear HO_603001
                clear HO_612001
                clear HO616
                clear BK583
                clear BK597
                clear BK602
                clear BK611
                clear HB
                have HO_9 := n0_
                have HO_598001 := n1_
                have HO_603001 := n2_
                have HO_612001 := n3_
                have HO616 := n4_
                have BK583 := n5_
                have BK597 := n6_
                have BK602 := n7_
                have BK611 := n8_
                have HB := n9_
                clear n0_ n1_ n2_ n3_ n4_ n5_ n6_ n7_ n8_ n9_
                (try clear hb)
                (try clear hb2)
                (try clear hk)
                (try clear hi)
                refine hK.out _ _ ⟨(blk_cell BK602.out 0).trans rfl, (blk_cell BK602.out 1).trans rfl, (blk_cell BK583.out 0).trans rfl, (blk_cell BK583.out 1).trans rfl⟩ (fun hHeld => ?_)
                clear hK K
                refine norm_ (a' := ?_) ?_ ?_
                rotate_left
                · show Act.put _ (some 55) _ = _
                  simp only [Act.put, List.setIfInBounds_toArray, List.set_cons_zero, List.set_cons_succ, i64_w, i32_w]
                  rfl
                refine pure_ (i := 4) (N := some 56) (v := ?_) (a' := ?_) #[true, true, true, true, true] rfl rfl (by kernel_rfl) (fun _ _ _ h => h) (Or.inl ⟨by rfl, ?_⟩) ?_ ?_
                rotate_left
                · intro w'
                  go_simp
                  with_reducible rfl
                rotate_left
                · simp only [Act.put, List.setIfInBounds_toArray, List.set_cons_zero, List.set_cons_succ, i64_w, i32_w]
                  rfl
                refine done_ (by kernel_rfl) ?_
                try go_wp2_with (first | ((with_reducible refine gate_callee (f := 34) rfl ?_); refine goesL_ (some 59) rfl rfl Try.func34 (by kernel_rfl) rfl #[.slice A1 l1.length c1] rfl (by (try simp only [List.map_toArray, List.map_cons, List.map_nil]); first | done | rfl | (simp only [List.length_drop, List.length_take]; rfl)) ?_; (with_reducible refine (laws_toIntS.calls kj15 _ _ l1 t618 _ ?side1 ?side2 A69.out).mono ?_); (case side1 => repeat (first | exact (Kd.C_below HR1.out HB.out) | (with_reducible refine Kd.C_alloc ?_ _) | (with_reducible refine Kd.C_drewN ?_ _) | (with_reducible refine Kd.C_drew ?_))); (case side2 => exact HC1.out); rintro e w199 ⟨v619, rfl, ho0, hb⟩; refine ⟨_, rfl, ?_⟩; have n0_ := Aside0.mk (Kd.R_elder' (by (with_reducible repeat (first | apply Kd.R_alloc | apply Kd.R_drewN | apply Kd.R_drew)); exact HO_9.out) (Kd.R_base ho0) hb); have n1_ := Aside0.mk (Kd.R_elder' (by (with_reducible repeat (first | apply Kd.R_alloc | apply Kd.R_drewN | apply Kd.R_drew)); exact HO_598001.out) (Kd.R_base ho0) hb); have n2_ := Aside0.mk (Kd.R_elder' (by (with_reducible repeat (first | apply Kd.R_alloc | apply Kd.R_drewN | apply Kd.R_drew)); exact HO_603001.out) (Kd.R_base ho0) hb); have n3_ := Aside0.mk (Kd.R_elder' (by (with_reducible repeat (first | apply Kd.R_alloc | apply Kd.R_drewN | apply Kd.R_drew)); exact HO_612001.out) (Kd.R_base ho0) hb); have n4_ := Aside0.mk (Kd.R_elder' (by (with_reducible repeat (first | apply Kd.R_alloc | apply Kd.R_drewN | apply Kd.R_drew)); exact HO616.out) (Kd.R_base ho0) hb); have n5_ := Aside0.mk (Kd.R_lower (Kd.R_new' (Kd.R_new' (Kd.R_new' (Kd.R_new' (Kd.R_new' ho0 (Kd.R_lt (by (with_reducible repeat (first | apply Kd.R_alloc | apply Kd.R_drewN | apply Kd.R_drew)); exact HO_9.out))) (Kd.R_lt (by (with_reducible repeat (first | apply Kd.R_alloc | apply Kd.R_drewN | apply Kd.R_drew)); exact HO_598001.out))) (Kd.R_lt (by (with_reducible repeat (first | apply Kd.R_alloc | apply Kd.R_drewN | apply Kd.R_drew)); exact HO_603001.out))) (Kd.R_lt (by (with_reducible repeat (first | apply Kd.R_alloc | apply Kd.R_drewN | apply Kd.R_drew)); exact HO_612001.out))) (Kd.R_lt (by (with_reducible repeat (first | apply Kd.R_alloc | apply Kd.R_drewN | apply Kd.R_drew)); exact HO616.out))) (below_size (by repeat (first | (with_reducible first | exact HB.out | apply below_alloc | apply pw_below_drewN | apply below_drew1 | refine below_set ?_ GE583.out | refine below_set ?_ GE597.out | refine below_set ?_ GE602.out | refine below_set ?_ GE611.out) | exact HB.out)))); have n6_ := Aside0.mk (blk_below (g := gb583) (o := .cells #[.int .i64 a0_0, .slice A0_1 l0_1.length c0_1] 33 (0, 0)) (by (with_reducible repeat (first | refine blk_drewN ?_ _ | refine blk_drew ?_ | refine blk_alloc ?_ _)); exact BK583.out) hb); have n7_ := Aside0.mk (blk_below (g := gb597) (o := .cells #[.int .i64 t592, .slice Ao29 t593.length co29] 37 (0, 0)) (by (with_reducible repeat (first | refine blk_drewN ?_ _ | refine blk_drew ?_ | refine blk_alloc ?_ _)); exact BK597.out) hb); have n8_ := Aside0.mk (blk_below (g := gb602) (o := .cells #[.int .i64 t598, .slice Ao36 t599.length co36] 37 (0, 0)) (by (with_reducible repeat (first | refine blk_drewN ?_ _ | refine blk_drew ?_ | refine blk_alloc ?_ _)); exact BK602.out) hb); have n9_ := Aside0.mk (blk_below (g := gb611) (o := .cells #[.int .i64 t606, .slice Ao46 t607.length co46] 37 (0, 0)) (by (with_reducible repeat (first | refine blk_drewN ?_ _ | refine blk_drew ?_ | refine blk_alloc ?_ _)); exact BK611.out) hb); have n10_ := Aside0.mk (below_step (by repeat (first | (with_reducible first | exact HB.out | apply below_alloc | apply pw_below_drewN | apply below_drew1 | refine below_set ?_ GE583.out | refine below_set ?_ GE597.out | refine below_set ?_ GE602.out | refine below_set ?_ GE611.out) | exact HB.out)) hb); clear HO_9; clear HO_598001; clear HO_603001; clear HO_612001; clear HO616; clear BK583; clear BK597; clear BK602; clear BK611; clear HB; have HO_9 := n0_; have HO_598001 := n1_; have HO_603001 := n2_; have HO_612001 := n3_; have HO616 := n4_; have HO620 := n5_; have BK583 := n6_; have BK597 := n7_; have BK602 := n8_; have BK611 := n9_; have HB := n10_; clear n0_ n1_ n2_ n3_ n4_ n5_ n6_ n7_ n8_ n9_ n10_; (try clear hb); (try clear hb2); (try clear hk); (try clear hi); (try clear ho0); obtain ⟨Ao200, co200, eo200⟩ := Kd.R_slice HO620.out; subst eo200) | ((with_reducible refine gate_callee (f := 36) rfl ?_); refine goesL_ (some 60) rfl rfl Try.func36 (by kernel_rfl) rfl #[.slice Ao39 t603.length co39, .slice Ao200 t618.length co200] rfl (by (try simp only [List.map_toArray, List.map_cons, List.map_nil]); first | done | rfl | (simp only [List.length_drop, List.length_take]; rfl)) ?_; (with_reducible refine (laws_eqIntS.calls kj15 _ _ t603 _ _ t618 false _ ?side1 ?side2 ?side3 ?side4 A70.out).mono ?_); (case side1 => repeat (first | exact (Kd.R_reads' HO_9.out).2.2 | (with_reducible refine Kd.C_alloc ?_ _) | (with_reducible refine Kd.C_drewN ?_ _) | (with_reducible refine Kd.C_drew ?_))); (case side2 => exact (Kd.R_reads' HO_9.out).2.1); (case side3 => repeat (first | exact (Kd.R_reads' HO620.out).2.2 | (with_reducible refine Kd.C_alloc ?_ _) | (with_reducible refine Kd.C_drewN ?_ _) | (with_reducible refine Kd.C_drew ?_))); (case side4 => exact (Kd.R_reads' HO620.out).2.1); rintro e w' ⟨rfl, ⟨nd, rfl⟩⟩; refine ⟨_, rfl, ?_⟩))
                go_ret
                exact ⟨by first | rfl | (simp [errW_none, errW_some] <;> rfl) | (simp [*, errW_none, errW_some] <;> rfl), by repeat (first | (with_reducible first | exact HB.out | apply below_alloc | apply pw_below_drewN | apply below_drew1 | refine below_set ?_ GE583.out | refine below_set ?_ GE597.out | refine below_set ?_ GE602.out | refine below_set ?_ GE611.out) | exact HB.out)⟩
            · replace c68 := Bool.eq_false_iff.mpr c68
              subst c68
              have H1 : (some false) = some r := by rw [if_neg (show ¬ (false = true) by decide)] at H; exact H
              clear H
              have H := H1
              clear H1
              obtain rfl := Option.some.inj H
              try go_wp2
              have n0_ := Aside0.mk (Kd.R_drew HO_9.out)
              have n1_ := Aside0.mk (Kd.R_drew HO_598001.out)
              have n2_ := Aside0.mk (Kd.R_drew HO_603001.out)
              have n3_ := Aside0.mk (Kd.R_drew HO_612001.out)
              have n4_ := Aside0.mk (blk_drew BK583.out)
              have n5_ := Aside0.mk (blk_drew BK597.out)
              have n6_ := Aside0.mk (blk_drew BK602.out)
              have n7_ := Aside0.mk (blk_drew BK611.out)
              have n8_ := Aside0.mk (below_drew1 HB.out)
              clear HO_9
              clear HO_598001
              clear HO_603001
              clear HO_612001
              clear BK583
              clear BK597
              clear BK602
              clear BK611
              clear HB
              have HO_9 := n0_
              have HO_598001 := n1_
              have HO_603001 := n2_
              have HO_612001 := n3_
              have BK583 := n4_
              have BK597 := n5_
              have BK602 := n6_
              have BK611 := n7_
              have HB := n8_
              clear n0_ n1_ n2_ n3_ n4_ n5_ n6_ n7_ n8_
              refine start_ (n := 5) (S := fun w' => w'.cell? ⟨gb602, 0, none⟩ = some (.int .i64 t598) ∧ w'.cell? ⟨gb602, 1, none⟩ = some (.slice Ao36 t599.length co36) ∧ w'.cell? ⟨gb583, 0, none⟩ = some (.int .i64 a0_0) ∧ w'.cell? ⟨gb583, 1, none⟩ = some (.slice A0_1 l0_1.length c0_1)) (ds := []) #[false, false, false, false, false] (by kernel_rfl) rfl rfl ⟨(blk_cell BK602.out 0).trans rfl, (blk_cell BK602.out 1).trans rfl, (blk_cell BK583.out 0).trans rfl, (blk_cell BK583.out 1).trans rfl⟩ (fun hHeld => ?_)
              generalize wc.drew = w201 at HO_9 HO_598001 HO_603001 HO_612001 BK583 BK597 BK602 BK611 HB hHeld ⊢
              refine take_ (i := 0) (N := some 52) (v := ?_) (a' := ?_) #[true, false, false, false, false] rfl rfl (by kernel_rfl) (fun _ _ _ h => h) (Or.inl ⟨by rfl, ?_⟩) hHeld ?_ ?_
              rotate_left
              · rintro w' ⟨s0, s1, s2, s3⟩
                go_simp
                with_reducible rfl
              rotate_left
              · simp only [Act.put, List.setIfInBounds_toArray, List.set_cons_zero, List.set_cons_succ, i64_w, i32_w]
                rfl
              refine take_ (i := 1) (N := some 53) (v := ?_) (a' := ?_) #[true, true, false, false, false] rfl rfl (by kernel_rfl) (fun _ _ _ h => h) (Or.inl ⟨by rfl, ?_⟩) hHeld ?_ ?_
              rotate_left
              · rintro w' ⟨s0, s1, s2, s3⟩
                go_simp
                with_reducible rfl
              rotate_left
              · simp only [Act.put, List.setIfInBounds_toArray, List.set_cons_zero, List.set_cons_succ, i64_w, i32_w]
                rfl
              refine one_ (i := 2) (N := some 54) #[true, true, true, false, false] rfl rfl (by kernel_rfl) (by decide) (fun K hK => ?_)
              refine goes_ Try.func20 (by kernel_rfl) rfl #[.agg #[.int .i64 a0_0, .slice A0_1 l0_1.length c0_1]] (by rfl) rfl rfl (by (try simp only [List.map_toArray, List.map_cons, List.map_nil]); first | done | rfl | (simp only [List.length_drop, List.length_take]; rfl)) ?_
              with_reducible refine (laws_toOrder.calls kj15 a0_0 _ _ l0_1 t613 t614 _ ?side1 ?side2 A66.out).mono ?_
              (case side1 => repeat (first | exact (Kd.C_below HR0_1.out HB.out) | (with_reducible refine Kd.C_alloc ?_ _) | (with_reducible refine Kd.C_drewN ?_ _) | (with_reducible refine Kd.C_drew ?_)))
              (case side2 => exact HC0_1.out)
              rintro e w202 ⟨v615, rfl, ho0, hb⟩
              refine ⟨_, rfl, ?_⟩
              have n0_ := Aside0.mk (Kd.R_elder' (by (with_reducible repeat (first | apply Kd.R_alloc | apply Kd.R_drewN | apply Kd.R_drew)); exact HO_9.out) (Kd.R_base ho0) hb)
              have n1_ := Aside0.mk (Kd.R_elder' (by (with_reducible repeat (first | apply Kd.R_alloc | apply Kd.R_drewN | apply Kd.R_drew)); exact HO_598001.out) (Kd.R_base ho0) hb)
              have n2_ := Aside0.mk (Kd.R_elder' (by (with_reducible repeat (first | apply Kd.R_alloc | apply Kd.R_drewN | apply Kd.R_drew)); exact HO_603001.out) (Kd.R_base ho0) hb)
              have n3_ := Aside0.mk (Kd.R_elder' (by (with_reducible repeat (first | apply Kd.R_alloc | apply Kd.R_drewN | apply Kd.R_drew)); exact HO_612001.out) (Kd.R_base ho0) hb)
              have n4_ := Aside0.mk (Kd.R_lower (Kd.R_new' (Kd.R_new' (Kd.R_new' (Kd.R_new' ho0 (Kd.R_lt (by (with_reducible repeat (first | apply Kd.R_alloc | apply Kd.R_drewN | apply Kd.R_drew)); exact HO_9.out))) (Kd.R_lt (by (with_reducible repeat (first | apply Kd.R_alloc | apply Kd.R_drewN | apply Kd.R_drew)); exact HO_598001.out))) (Kd.R_lt (by (with_reducible repeat (first | apply Kd.R_alloc | apply Kd.R_drewN | apply Kd.R_drew)); exact HO_603001.out))) (Kd.R_lt (by (with_reducible repeat (first | apply Kd.R_alloc | apply Kd.R_drewN | apply Kd.R_drew)); exact HO_612001.out))) (below_size (by repeat (first | (with_reducible first | exact HB.out | apply below_alloc | apply pw_below_drewN | apply below_drew1 | refine below_set ?_ GE583.out | refine below_set ?_ GE597.out | refine below_set ?_ GE602.out | refine below_set ?_ GE611.out) | exact HB.out))))
              have n5_ := Aside0.mk (blk_below (g := gb583) (o := .cells #[.int .i64 a0_0, .slice A0_1 l0_1.length c0_1] 33 (0, 0)) (by (with_reducible repeat (first | refine blk_drewN ?_ _ | refine blk_drew ?_ | refine blk_alloc ?_ _)); exact BK583.out) hb)
              have n6_ := Aside0.mk (blk_below (g := gb597) (o := .cells #[.int .i64 t592, .slice Ao29 t593.length co29] 37 (0, 0)) (by (with_reducible repeat (first | refine blk_drewN ?_ _ | refine blk_drew ?_ | refine blk_alloc ?_ _)); exact BK597.out) hb)
              have n7_ := Aside0.mk (blk_below (g := gb602) (o := .cells #[.int .i64 t598, .slice Ao36 t599.length co36] 37 (0, 0)) (by (with_reducible repeat (first | refine blk_drewN ?_ _ | refine blk_drew ?_ | refine blk_alloc ?_ _)); exact BK602.out) hb)
              have n8_ := Aside0.mk (blk_below (g := gb611) (o := .cells #[.int .i64 t606, .slice Ao46 t607.length co46] 37 (0, 0)) (by (with_reducible repeat (first | refine blk_drewN ?_ _ | refine blk_drew ?_ | refine blk_alloc ?_ _)); exact BK611.out) hb)
              have n9_ := Aside0.mk (below_step (by repeat (first | (with_reducible first | exact HB.out | apply below_alloc | apply pw_below_drewN | apply below_drew1 | refine below_set ?_ GE583.out | refine below_set ?_ GE597.out | refine below_set ?_ GE602.out | refine below_set ?_ GE611.out) | exact HB.out)) hb)
              clear HO_9
              clear HO_598001
              clear HO_603001
              clear HO_612001
              clear BK583
              clear BK597
              clear BK602
              clear BK611
              clear HB
              have HO_9 := n0_
              have HO_598001 := n1_
              have HO_603001 := n2_
              have HO_612001 := n3_
              have HO616 := n4_
              have BK583 := n5_
              have BK597 := n6_
              have BK602 := n7_
              have BK611 := n8_
              have HB := n9_
              clear n0_ n1_ n2_ n3_ n4_ n5_ n6_ n7_ n8_ n9_
              (try clear hb)
              (try clear hb2)
              (try clear hk)
              (try clear hi)
              (try clear ho0)
              obtain ⟨Ao203, co203, eo203⟩ := Kd.R_slice HO616.out
              (first | subst eo203 | (injection eo203 with f1_ f2_ f3_; have f4_ := f1_.symm; have f5_ := f3_.symm; clear f1_ f2_ f3_; subst f4_; subst f5_))
              refine hK.out _ _ ⟨(blk_cell BK602.out 0).trans rfl, (blk_cell BK602.out 1).trans rfl, (blk_cell BK583.out 0).trans rfl, (blk_cell BK583.out 1).trans rfl⟩ (fun hHeld => ?_)
              clear hK K
              refine norm_ (a' := ?_) ?_ ?_
              rotate_left
              · show Act.put _ (some 54) _ = _
                simp only [Act.put, List.setIfInBounds_toArray, List.set_cons_zero, List.set_cons_succ, i64_w, i32_w]
                rfl
              refine one_ (i := 3) (N := some 55) #[true, true, true, true, false] rfl rfl (by kernel_rfl) (by decide) (fun K hK => ?_)
              refine goes_ Try.func22 (by kernel_rfl) rfl #[.agg #[.int .i64 t598, .slice Ao36 t599.length co36], .agg #[.int .i64 t613, .slice Ao203 t614.length co203]] (by rfl) rfl rfl (by (try simp only [List.map_toArray, List.map_cons, List.map_nil]); first | done | rfl | (simp only [List.length_drop, List.length_take]; rfl)) ?_
              with_reducible refine (laws_eqOrder.calls kj15 t598 _ _ t599 t613 _ _ t614 false _ ?side1 ?side2 ?side3 ?side4 A67.out).mono ?_
              (case side1 => repeat (first | exact (Kd.R_reads' HO_603001.out).2.2 | (with_reducible refine Kd.C_alloc ?_ _) | (with_reducible refine Kd.C_drewN ?_ _) | (with_reducible refine Kd.C_drew ?_)))
              (case side2 => exact (Kd.R_reads' HO_603001.out).2.1)
              (case side3 => repeat (first | exact (Kd.R_reads' HO616.out).2.2 | (with_reducible refine Kd.C_alloc ?_ _) | (with_reducible refine Kd.C_drewN ?_ _) | (with_reducible refine Kd.C_drew ?_)))
              (case side4 => exact (Kd.R_reads' HO616.out).2.1)
              rintro e w204 ⟨rfl, hb⟩
              refine ⟨_, rfl, ?_⟩
              have n0_ := Aside0.mk (Kd.R_below (by (with_reducible repeat (first | apply Kd.R_alloc | apply Kd.R_drewN | apply Kd.R_drew)); exact HO_9.out) hb)
              have n1_ := Aside0.mk (Kd.R_below (by (with_reducible repeat (first | apply Kd.R_alloc | apply Kd.R_drewN | apply Kd.R_drew)); exact HO_598001.out) hb)
              have n2_ := Aside0.mk (Kd.R_below (by (with_reducible repeat (first | apply Kd.R_alloc | apply Kd.R_drewN | apply Kd.R_drew)); exact HO_603001.out) hb)
              have n3_ := Aside0.mk (Kd.R_below (by (with_reducible repeat (first | apply Kd.R_alloc | apply Kd.R_drewN | apply Kd.R_drew)); exact HO_612001.out) hb)
              have n4_ := Aside0.mk (Kd.R_below (by (with_reducible repeat (first | apply Kd.R_alloc | apply Kd.R_drewN | apply Kd.R_drew)); exact HO616.out) hb)
              have n5_ := Aside0.mk (blk_below (g := gb583) (o := .cells #[.int .i64 a0_0, .slice A0_1 l0_1.length c0_1] 33 (0, 0)) (by (with_reducible repeat (first | refine blk_drewN ?_ _ | refine blk_drew ?_ | refine blk_alloc ?_ _)); exact BK583.out) hb)
              have n6_ := Aside0.mk (blk_below (g := gb597) (o := .cells #[.int .i64 t592, .slice Ao29 t593.length co29] 37 (0, 0)) (by (with_reducible repeat (first | refine blk_drewN ?_ _ | refine blk_drew ?_ | refine blk_alloc ?_ _)); exact BK597.out) hb)
              have n7_ := Aside0.mk (blk_below (g := gb602) (o := .cells #[.int .i64 t598, .slice Ao36 t599.length co36] 37 (0, 0)) (by (with_reducible repeat (first | refine blk_drewN ?_ _ | refine blk_drew ?_ | refine blk_alloc ?_ _)); exact BK602.out) hb)
              have n8_ := Aside0.mk (blk_below (g := gb611) (o := .cells #[.int .i64 t606, .slice Ao46 t607.length co46] 37 (0, 0)) (by (with_reducible repeat (first | refine blk_drewN ?_ _ | refine blk_drew ?_ | refine blk_alloc ?_ _)); exact BK611.out) hb)
              have n9_ := Aside0.mk (below_step (by repeat (first | (with_reducible first | exact HB.out | apply below_alloc | apply pw_below_drewN | apply below_drew1 | refine below_set ?_ GE583.out | refine below_set ?_ GE597.out | refine below_set ?_ GE602.out | refine below_set ?_ GE611.out) | exact HB.out)) hb)
              clear HO_9
              clear HO_598001
              clear HO_603001
              clear HO_612001
              clear HO616
              clear BK583
              clear BK597
              clear BK602
              clear BK611
              clear HB
              have HO_9 := n0_
              have HO_598001 := n1_
              have HO_603001 := n2_
              have HO_612001 := n3_
              have HO616 := n4_
              have BK583 := n5_
              have BK597 := n6_
              have BK602 := n7_
              have BK611 := n8_
              have HB := n9_
              clear n0_ n1_ n2_ n3_ n4_ n5_ n6_ n7_ n8_ n9_
              (try clear hb)
              (try clear hb2)
              (try clear hk)
              (try clear hi)
              refine hK.out _ _ ⟨(blk_cell BK602.out 0).trans rfl, (blk_cell BK602.out 1).trans rfl, (blk_cell BK583.out 0).trans rfl, (blk_cell BK583.out 1).trans rfl⟩ (fun hHeld => ?_)
              clear hK K
              refine norm_ (a' := ?_) ?_ ?_
              rotate_left
              · show Act.put _ (some 55) _ = _
                simp only [Act.put, List.setIfInBounds_toArray, List.set_cons_zero, List.set_cons_succ, i64_w, i32_w]
                rfl
              refine pure_ (i := 4) (N := some 56) (v := ?_) (a' := ?_) #[true, true, true, true, true] rfl rfl (by kernel_rfl) (fun _ _ _ h => h) (Or.inl ⟨by rfl, ?_⟩) ?_ ?_
              rotate_left
              · intro w'
                go_simp
                with_reducible rfl
              rotate_left
              · simp only [Act.put, List.setIfInBounds_toArray, List.set_cons_zero, List.set_cons_succ, i64_w, i32_w]
                rfl
              refine done_ (by kernel_rfl) ?_
              try go_wp2
              go_ret
              exact ⟨by first | rfl | (simp [errW_none, errW_some] <;> rfl) | (simp [*, errW_none, errW_some] <;> rfl), by repeat (first | (with_reducible first | exact HB.out | apply below_alloc | apply pw_below_drewN | apply below_drew1 | refine below_set ?_ GE583.out | refine below_set ?_ GE597.out | refine below_set ?_ GE602.out | refine below_set ?_ GE611.out) | exact HB.out)⟩

end Go.Proofs.Ytjeghlmkipcihaa.P
