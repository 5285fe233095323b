-- Written by wip/myprint.py of this session (a driver of the kit's print); Lean checks it.
import Derived.Test.YtjbloapoaphgjaaDoorPx0
import Derived.Test.YtjbloapoaphgjaaDoorPx1
import Derived.Test.YtjbloapoaphgjaaDoorPx2
import Derived.Test.YtjbloapoaphgjaaDoorPx11
import Derived.Test.YtjbloapoaphgjaaDoorPx38
import Derived.Test.YtjbloapoaphgjaaDoorPx40
namespace Go.Proofs.YtjbloapoaphgjaaDoor.P
open Go.RowKit Go.Proofs.YtjbloapoaphgjaaDoorW.PrintWords Go.Proofs.YtjbloapoaphgjaaDoorW.PrintLast Go.Proofs.YtjbloapoaphgjaaDoorW.PrintMore
attribute [local go_sem] max2_int min2_int max_two min_two max_three min_three max_four min_four   -- for this text's walks alone
set_option linter.unusedVariables false
set_option linter.unusedSimpArgs false

/-! ### laws_FnExactRenameOf: function 3 -/
mutual
def laws_FnExactRenameOf.j0 : Nat → List Int → Bool → List Int → Bool → Bool → Int → List Int → Int → List Int → Int → List Int → Int → List Int → Option (Bool)
  | 0, _, _, _, _, _, _, _, _, _, _, _, _, _ => none
  | k + 1, x1, x7, x9, x11, x51, x657000, x657001, x671000, x671001, x676000, x676001, x685000, x685001 => if x51 = true then (some false) else ((laws_toOrder.f k x657000 x657001).bind fun bt686 => ((laws_eqOrder.f k x676000 x676001 bt686.1 bt686.2).bind fun t690 => (if t690 = true then ((laws_toIntS.f k x1).bind fun t691 => ((laws_eqIntS.f k x9 t691).bind fun t694 => (if t694 = true then ((laws_markOrder.f k x676000 x676001 1).bind fun bt695 => ((laws_markIntS.f k x9 bt695.1).bind fun bt697 => (if bt697.1 < 0 then (laws_FnExactRenameOf.j1 k x1 x7 true x657000 x657001 x671000 x671001 x685000 x685001) else ((laws_eqOrder.f k x685000 x685001 x671000 x671001).bind fun t699 => (if t699 = true then (laws_FnExactRenameOf.j1 k x1 x7 (x11 != x7) x657000 x657001 x671000 x671001 x685000 x685001) else (laws_FnExactRenameOf.j1 k x1 x7 true x657000 x657001 x671000 x671001 x685000 x685001)))))) else (some false)))) else (some false))))
def laws_FnExactRenameOf.j1 : Nat → List Int → Bool → Bool → Int → List Int → Int → List Int → Int → List Int → Option (Bool)
  | 0, _, _, _, _, _, _, _, _, _ => none
  | k + 1, x1, x7, x80, x657000, x657001, x671000, x671001, x685000, x685001 => if x80 = true then (some false) else ((laws_markOrder.f k x685000 x685001 1).bind fun bt700 => ((laws_heldOrder.f k x685000 bt700.2 1).bind fun t702 => (if t702 < 0 then (some false) else (if t702 = bt700.1 then ((laws_toOrder.f k x657000 x657001).bind fun bt703 => ((laws_toIntS.f k x1).bind fun t707 => ((impl_RenameOf.f k bt703.1 bt703.2 t707).bind fun bt710 => ((laws_eqOrder.f k bt710.1 bt710.2.1 x671000 x671001).bind fun t716 => (if t716 = true then (laws_FnExactRenameOf.j2 k bt700.1 (bt710.2.2 != x7) x685000 bt700.2) else (laws_FnExactRenameOf.j2 k bt700.1 true x685000 bt700.2)))))) else (some false)))))
def laws_FnExactRenameOf.j2 : Nat → Int → Bool → Int → List Int → Option (Bool)
  | 0, _, _, _, _ => none
  | k + 1, x13, x108, x685000, x685001 => if x108 = true then (some false) else ((laws_heldOrder.f k x685000 x685001 1).bind fun t717 => (if t717 < 0 then (some false) else (if t717 = x13 then (some true) else (some false))))
end
def laws_FnExactRenameOf.f (k : Nat) (a0_0 : Int) (l0_1 : List Int) (l1 : List Int) : Option (Bool) := if (l1.length : Int) > 1048576 then (some true) else ((laws_szOrder.f a0_0 l0_1 1048576).bind fun t657 => (if t657 < 0 then (some true) else ((laws_toOrder.f k a0_0 l0_1).bind fun bt658 => ((laws_toIntS.f k l1).bind fun t662 => ((spec_RenameOf.f k bt658.1 bt658.2 t662).bind fun bt665 => ((laws_toOrder.f k a0_0 l0_1).bind fun bt671 => ((laws_toIntS.f k l1).bind fun t676 => ((impl_RenameOf.f k bt671.1 bt671.2 t676).bind fun bt679 => ((laws_eqOrder.f k bt679.1 bt679.2.1 bt665.1 bt665.2.1).bind fun t685 => (if t685 = true then (laws_FnExactRenameOf.j0 k l1 bt665.2.2 t676 bt679.2.2 (bt679.2.2 != bt665.2.2) a0_0 l0_1 bt665.1 bt665.2.1 bt671.1 bt671.2 bt679.1 bt679.2.1) else (laws_FnExactRenameOf.j0 k l1 bt665.2.2 t676 bt679.2.2 true a0_0 l0_1 bt665.1 bt665.2.1 bt671.1 bt671.2 bt679.1 bt679.2.1)))))))))))
set_option maxHeartbeats 8000000 in
set_option maxRecDepth 100000 in
theorem laws_FnExactRenameOf.calls (k : Nat) (a0_0 : Int) (A0_1 : Option Addr) (c0_1 : Nat) (l0_1 : List Int) (A1 : Option Addr) (c1 : Nat) (l1 : List Int) (r : Bool) (w : World) (hr0_1 : Kd.C (Kd.int .i64) w A0_1 l0_1.length l0_1) (hc0_1 : l0_1.length ≤ c0_1) (hr1 : Kd.C (Kd.int .i64) w A1 l1.length l1) (hc1 : l1.length ≤ c1) (hT : TzW w) (h : laws_FnExactRenameOf.f k a0_0 l0_1 l1 = some r) :
    Calls Tryd.prog 3 #[.agg #[.int .i64 a0_0, .slice A0_1 l0_1.length c0_1], .slice A1 l1.length c1] w fun e w' => e = .returned (.bool r) ∧ Below w.heap.size w w' := by
  have hu24 := Tryd.underlying24
  have hu26 := Tryd.underlying26
  have HR0_1 := Aside0.mk hr0_1
  have HC0_1 := Aside0.mk hc0_1
  clear hr0_1 hc0_1
  have HR1 := Aside0.mk hr1
  have HC1 := Aside0.mk hc1
  clear hr1 hc1
  have HT := Aside0.mk hT
  clear hT
  have HB := Aside0.mk (Below.refl w.heap.size w)
  have H : (if (l1.length : Int) > 1048576 then (some true) else ((laws_szOrder.f a0_0 l0_1 1048576).bind fun t657 => (if t657 < 0 then (some true) else ((laws_toOrder.f k a0_0 l0_1).bind fun bt658 => ((laws_toIntS.f k l1).bind fun t662 => ((spec_RenameOf.f k bt658.1 bt658.2 t662).bind fun bt665 => ((laws_toOrder.f k a0_0 l0_1).bind fun bt671 => ((laws_toIntS.f k l1).bind fun t676 => ((impl_RenameOf.f k bt671.1 bt671.2 t676).bind fun bt679 => ((laws_eqOrder.f k bt679.1 bt679.2.1 bt665.1 bt665.2.1).bind fun t685 => (if t685 = true then (laws_FnExactRenameOf.j0 k l1 bt665.2.2 t676 bt679.2.2 (bt679.2.2 != bt665.2.2) a0_0 l0_1 bt665.1 bt665.2.1 bt671.1 bt671.2 bt679.1 bt679.2.1) else (laws_FnExactRenameOf.j0 k l1 bt665.2.2 t676 bt679.2.2 true a0_0 l0_1 bt665.1 bt665.2.1 bt671.1 bt671.2 bt679.1 bt679.2.1)))))))))))) = some r := h
  clear h
  by_cases c3 : (l1.length : Int) > 1048576
  · rw [if_pos c3] at H
    have c3b0 : decide (1048576 < (l1.length : Int)) = true := decide_eq_true c3
    have c3b1 : decide (1048576 < l1.length) = true := decide_eq_true (by omega)
    clear c3
    obtain rfl := Option.some.inj H
    go_enter Tryd.func3, Tryd.ntmps3
    go_wp2_with (first | ((with_reducible refine gate_dst (N := 2) rfl ?_); refine box_event ?hg (N := 2) ?hd (cs := #[.int .i64 a0_0, .slice A0_1 l0_1.length c0_1]) (t := 24) ?hr ?_; (case hd => rfl); (case hg => rfl); (case hr => first | (go_simp; done) | (go_simp; rfl)); intro gb656 hg w4 hbox hb; have n0_ := Aside0.mk (below_step (by repeat (first | (with_reducible first | exact HB.out | apply below_alloc | apply pw_below_drewN | apply below_drew1) | exact HB.out)) hb); have n1_ := Aside0.mk (hbox); have n2_ := Aside0.mk ((by rw [hg]; exact (below_size (by repeat (first | (with_reducible first | exact HB.out | apply below_alloc | apply pw_below_drewN | apply below_drew1) | exact HB.out))) : w.heap.size ≤ gb656)); have n3_ := Aside0.mk ((by rw [hg]; exact (below_size (by repeat (first | (with_reducible first | exact HB.out | apply below_alloc | apply pw_below_drewN | apply below_drew1) | exact HB.out))) : w.heap.size ≤ gb656)); clear HB; have HB := n0_; have BK656 := n1_; have GW656 := n2_; have GE656 := n3_; clear n0_ n1_ n2_ n3_; clear hb hbox hg))
    go_ret
    exact ⟨by first | rfl | (simp [errW_none, errW_some] <;> rfl) | (simp [*, errW_none, errW_some] <;> rfl), by repeat (first | (with_reducible first | exact HB.out | apply below_alloc | apply pw_below_drewN | apply below_drew1 | refine below_set ?_ GE656.out) | exact HB.out)⟩
  · rw [if_neg c3] at H
    have c3b0 : decide (1048576 < (l1.length : Int)) = false := decide_eq_false c3
    have c3b1 : decide (1048576 < l1.length) = false := decide_eq_false (by omega)
    clear c3
    replace H := Option.bind_eq_some_iff.mp H
    obtain ⟨t657, A50, H⟩ := H
    replace H : (if t657 < 0 then (some true) else ((laws_toOrder.f k a0_0 l0_1).bind fun bt658 => ((laws_toIntS.f k l1).bind fun t662 => ((spec_RenameOf.f k bt658.1 bt658.2 t662).bind fun bt665 => ((laws_toOrder.f k a0_0 l0_1).bind fun bt671 => ((laws_toIntS.f k l1).bind fun t676 => ((impl_RenameOf.f k bt671.1 bt671.2 t676).bind fun bt679 => ((laws_eqOrder.f k bt679.1 bt679.2.1 bt665.1 bt665.2.1).bind fun t685 => (if t685 = true then (laws_FnExactRenameOf.j0 k l1 bt665.2.2 t676 bt679.2.2 (bt679.2.2 != bt665.2.2) a0_0 l0_1 bt665.1 bt665.2.1 bt671.1 bt671.2 bt679.1 bt679.2.1) else (laws_FnExactRenameOf.j0 k l1 bt665.2.2 t676 bt679.2.2 true a0_0 l0_1 bt665.1 bt665.2.1 bt671.1 bt671.2 bt679.1 bt679.2.1)))))))))) = some r := H
    have A5 := Aside0.mk A50
    clear A50
    by_cases c6 : t657 < 0
    · rw [if_pos c6] at H
      have c6b0 : decide (t657 < 0) = true := decide_eq_true c6
      clear c6
      obtain rfl := Option.some.inj H
      go_enter Tryd.func3, Tryd.ntmps3
      go_wp2_with (first | ((with_reducible refine gate_dst (N := 2) rfl ?_); refine box_event ?hg (N := 2) ?hd (cs := #[.int .i64 a0_0, .slice A0_1 l0_1.length c0_1]) (t := 24) ?hr ?_; (case hd => rfl); (case hg => rfl); (case hr => first | (go_simp; done) | (go_simp; rfl)); intro gb656 hg w7 hbox hb; have n0_ := Aside0.mk (below_step (by repeat (first | (with_reducible first | exact HB.out | apply below_alloc | apply pw_below_drewN | apply below_drew1) | exact HB.out)) hb); have n1_ := Aside0.mk (hbox); have n2_ := Aside0.mk ((by rw [hg]; exact (below_size (by repeat (first | (with_reducible first | exact HB.out | apply below_alloc | apply pw_below_drewN | apply below_drew1) | exact HB.out))) : w.heap.size ≤ gb656)); have n3_ := Aside0.mk ((by rw [hg]; exact (below_size (by repeat (first | (with_reducible first | exact HB.out | apply below_alloc | apply pw_below_drewN | apply below_drew1) | exact HB.out))) : w.heap.size ≤ gb656)); clear HB; have HB := n0_; have BK656 := n1_; have GW656 := n2_; have GE656 := n3_; clear n0_ n1_ n2_ n3_; clear hb hbox hg; have hcz8_0 : w7.cell? ⟨gb656, 0, none⟩ = some (.int .i64 a0_0) := (blk_cell BK656.out 0).trans rfl; have hcz8_1 : w7.cell? ⟨gb656, 1, none⟩ = some (.slice A0_1 l0_1.length c0_1) := (blk_cell BK656.out 1).trans rfl; have hfz8_0 := blk_frozen BK656.out 0; have hfz8_1 := blk_frozen BK656.out 1) | ((with_reducible refine gate_callee (f := 11) rfl ?_); refine goesL_ (some 22) rfl rfl Tryd.func11 (by kernel_rfl) rfl #[.agg #[.int .i64 a0_0, .slice A0_1 l0_1.length c0_1], .int .i64 1048576] rfl (by (try simp only [List.map_toArray, List.map_cons, List.map_nil]); first | done | rfl | (simp only [List.length_drop, List.length_take]; rfl)) ?_; (with_reducible refine (laws_szOrder.calls a0_0 _ _ l0_1 1048576 t657 _ ?side1 ?side2 A5.out).mono ?_); (case side1 => repeat (first | exact (Kd.C_below HR0_1.out HB.out) | (with_reducible refine Kd.C_alloc ?_ _) | (with_reducible refine Kd.C_drewN ?_ _) | (with_reducible refine Kd.C_drew ?_))); (case side2 => exact HC0_1.out); rintro e w9 ⟨rfl, hb⟩; refine ⟨_, rfl, ?_⟩; have n0_ := Aside0.mk (blk_below (g := gb656) (o := .cells #[.int .i64 a0_0, .slice A0_1 l0_1.length c0_1] 24 (0, 0)) (by (with_reducible repeat (first | refine blk_drewN ?_ _ | refine blk_drew ?_ | refine blk_alloc ?_ _)); exact BK656.out) hb); have n1_ := Aside0.mk (below_step (by repeat (first | (with_reducible first | exact HB.out | apply below_alloc | apply pw_below_drewN | apply below_drew1 | refine below_set ?_ GE656.out) | exact HB.out)) hb); clear BK656; clear HB; have BK656 := n0_; have HB := n1_; clear n0_ n1_; (try clear hb); (try clear hb2); (try clear hk); (try clear hi)))
      go_ret
      exact ⟨by first | rfl | (simp [errW_none, errW_some] <;> rfl) | (simp [*, errW_none, errW_some] <;> rfl), by repeat (first | (with_reducible first | exact HB.out | apply below_alloc | apply pw_below_drewN | apply below_drew1 | refine below_set ?_ GE656.out) | exact HB.out)⟩
    · rw [if_neg c6] at H
      have c6b0 : decide (t657 < 0) = false := decide_eq_false c6
      clear c6
      replace H := Option.bind_eq_some_iff.mp H
      obtain ⟨⟨t658, t659⟩, A100, H⟩ := H
      replace H : ((laws_toIntS.f k l1).bind fun t662 => ((spec_RenameOf.f k t658 t659 t662).bind fun bt665 => ((laws_toOrder.f k a0_0 l0_1).bind fun bt671 => ((laws_toIntS.f k l1).bind fun t676 => ((impl_RenameOf.f k bt671.1 bt671.2 t676).bind fun bt679 => ((laws_eqOrder.f k bt679.1 bt679.2.1 bt665.1 bt665.2.1).bind fun t685 => (if t685 = true then (laws_FnExactRenameOf.j0 k l1 bt665.2.2 t676 bt679.2.2 (bt679.2.2 != bt665.2.2) a0_0 l0_1 bt665.1 bt665.2.1 bt671.1 bt671.2 bt679.1 bt679.2.1) else (laws_FnExactRenameOf.j0 k l1 bt665.2.2 t676 bt679.2.2 true a0_0 l0_1 bt665.1 bt665.2.1 bt671.1 bt671.2 bt679.1 bt679.2.1)))))))) = some r := H
      have A10 := Aside0.mk A100
      clear A100
      replace H := Option.bind_eq_some_iff.mp H
      obtain ⟨t662, A110, H⟩ := H
      replace H : ((spec_RenameOf.f k t658 t659 t662).bind fun bt665 => ((laws_toOrder.f k a0_0 l0_1).bind fun bt671 => ((laws_toIntS.f k l1).bind fun t676 => ((impl_RenameOf.f k bt671.1 bt671.2 t676).bind fun bt679 => ((laws_eqOrder.f k bt679.1 bt679.2.1 bt665.1 bt665.2.1).bind fun t685 => (if t685 = true then (laws_FnExactRenameOf.j0 k l1 bt665.2.2 t676 bt679.2.2 (bt679.2.2 != bt665.2.2) a0_0 l0_1 bt665.1 bt665.2.1 bt671.1 bt671.2 bt679.1 bt679.2.1) else (laws_FnExactRenameOf.j0 k l1 bt665.2.2 t676 bt679.2.2 true a0_0 l0_1 bt665.1 bt665.2.1 bt671.1 bt671.2 bt679.1 bt679.2.1))))))) = some r := H
      have A11 := Aside0.mk A110
      clear A110
      replace H := Option.bind_eq_some_iff.mp H
      obtain ⟨⟨t665, t666, t669⟩, A120, H⟩ := H
      replace H : ((laws_toOrder.f k a0_0 l0_1).bind fun bt671 => ((laws_toIntS.f k l1).bind fun t676 => ((impl_RenameOf.f k bt671.1 bt671.2 t676).bind fun bt679 => ((laws_eqOrder.f k bt679.1 bt679.2.1 t665 t666).bind fun t685 => (if t685 = true then (laws_FnExactRenameOf.j0 k l1 t669 t676 bt679.2.2 (bt679.2.2 != t669) a0_0 l0_1 t665 t666 bt671.1 bt671.2 bt679.1 bt679.2.1) else (laws_FnExactRenameOf.j0 k l1 t669 t676 bt679.2.2 true a0_0 l0_1 t665 t666 bt671.1 bt671.2 bt679.1 bt679.2.1)))))) = some r := H
      have A12 := Aside0.mk A120
      clear A120
      replace H := Option.bind_eq_some_iff.mp H
      obtain ⟨⟨t671, t672⟩, A130, H⟩ := H
      replace H : ((laws_toIntS.f k l1).bind fun t676 => ((impl_RenameOf.f k t671 t672 t676).bind fun bt679 => ((laws_eqOrder.f k bt679.1 bt679.2.1 t665 t666).bind fun t685 => (if t685 = true then (laws_FnExactRenameOf.j0 k l1 t669 t676 bt679.2.2 (bt679.2.2 != t669) a0_0 l0_1 t665 t666 t671 t672 bt679.1 bt679.2.1) else (laws_FnExactRenameOf.j0 k l1 t669 t676 bt679.2.2 true a0_0 l0_1 t665 t666 t671 t672 bt679.1 bt679.2.1))))) = some r := H
      have A13 := Aside0.mk A130
      clear A130
      replace H := Option.bind_eq_some_iff.mp H
      obtain ⟨t676, A140, H⟩ := H
      replace H : ((impl_RenameOf.f k t671 t672 t676).bind fun bt679 => ((laws_eqOrder.f k bt679.1 bt679.2.1 t665 t666).bind fun t685 => (if t685 = true then (laws_FnExactRenameOf.j0 k l1 t669 t676 bt679.2.2 (bt679.2.2 != t669) a0_0 l0_1 t665 t666 t671 t672 bt679.1 bt679.2.1) else (laws_FnExactRenameOf.j0 k l1 t669 t676 bt679.2.2 true a0_0 l0_1 t665 t666 t671 t672 bt679.1 bt679.2.1)))) = some r := H
      have A14 := Aside0.mk A140
      clear A140
      replace H := Option.bind_eq_some_iff.mp H
      obtain ⟨⟨t679, t680, t683⟩, A150, H⟩ := H
      replace H : ((laws_eqOrder.f k t679 t680 t665 t666).bind fun t685 => (if t685 = true then (laws_FnExactRenameOf.j0 k l1 t669 t676 t683 (t683 != t669) a0_0 l0_1 t665 t666 t671 t672 t679 t680) else (laws_FnExactRenameOf.j0 k l1 t669 t676 t683 true a0_0 l0_1 t665 t666 t671 t672 t679 t680))) = some r := H
      have A15 := Aside0.mk A150
      clear A150
      have HC16 := Aside0.mk H
      clear H
      go_enter Tryd.func3, Tryd.ntmps3
      go_upto_region 11 with (first | ((with_reducible refine gate_dst (N := 2) rfl ?_); refine box_event ?hg (N := 2) ?hd (cs := #[.int .i64 a0_0, .slice A0_1 l0_1.length c0_1]) (t := 24) ?hr ?_; (case hd => rfl); (case hg => rfl); (case hr => first | (go_simp; done) | (go_simp; rfl)); intro gb656 hg w17 hbox hb; have n0_ := Aside0.mk (below_step (by repeat (first | (with_reducible first | exact HB.out | apply below_alloc | apply pw_below_drewN | apply below_drew1) | exact HB.out)) hb); have n1_ := Aside0.mk (hbox); have n2_ := Aside0.mk ((by rw [hg]; exact (below_size (by repeat (first | (with_reducible first | exact HB.out | apply below_alloc | apply pw_below_drewN | apply below_drew1) | exact HB.out))) : w.heap.size ≤ gb656)); have n3_ := Aside0.mk ((by rw [hg]; exact (below_size (by repeat (first | (with_reducible first | exact HB.out | apply below_alloc | apply pw_below_drewN | apply below_drew1) | exact HB.out))) : w.heap.size ≤ gb656)); clear HB; have HB := n0_; have BK656 := n1_; have GW656 := n2_; have GE656 := n3_; clear n0_ n1_ n2_ n3_; clear hb hbox hg; have hcz18_0 : w17.cell? ⟨gb656, 0, none⟩ = some (.int .i64 a0_0) := (blk_cell BK656.out 0).trans rfl; have hcz18_1 : w17.cell? ⟨gb656, 1, none⟩ = some (.slice A0_1 l0_1.length c0_1) := (blk_cell BK656.out 1).trans rfl; have hfz18_0 := blk_frozen BK656.out 0; have hfz18_1 := blk_frozen BK656.out 1) | ((with_reducible refine gate_callee (f := 11) rfl ?_); refine goesL_ (some 22) rfl rfl Tryd.func11 (by kernel_rfl) rfl #[.agg #[.int .i64 a0_0, .slice A0_1 l0_1.length c0_1], .int .i64 1048576] rfl (by (try simp only [List.map_toArray, List.map_cons, List.map_nil]); first | done | rfl | (simp only [List.length_drop, List.length_take]; rfl)) ?_; (with_reducible refine (laws_szOrder.calls a0_0 _ _ l0_1 1048576 t657 _ ?side1 ?side2 A5.out).mono ?_); (case side1 => repeat (first | exact (Kd.C_below HR0_1.out HB.out) | (with_reducible refine Kd.C_alloc ?_ _) | (with_reducible refine Kd.C_drewN ?_ _) | (with_reducible refine Kd.C_drew ?_))); (case side2 => exact HC0_1.out); rintro e w19 ⟨rfl, hb⟩; refine ⟨_, rfl, ?_⟩; have n0_ := Aside0.mk (blk_below (g := gb656) (o := .cells #[.int .i64 a0_0, .slice A0_1 l0_1.length c0_1] 24 (0, 0)) (by (with_reducible repeat (first | refine blk_drewN ?_ _ | refine blk_drew ?_ | refine blk_alloc ?_ _)); exact BK656.out) hb); have n1_ := Aside0.mk (below_step (by repeat (first | (with_reducible first | exact HB.out | apply below_alloc | apply pw_below_drewN | apply below_drew1 | refine below_set ?_ GE656.out) | exact HB.out)) hb); clear BK656; clear HB; have BK656 := n0_; have HB := n1_; clear n0_ n1_; (try clear hb); (try clear hb2); (try clear hk); (try clear hi); have hcz20_0 : w19.cell? ⟨gb656, 0, none⟩ = some (.int .i64 a0_0) := (blk_cell BK656.out 0).trans rfl; have hcz20_1 : w19.cell? ⟨gb656, 1, none⟩ = some (.slice A0_1 l0_1.length c0_1) := (blk_cell BK656.out 1).trans rfl; have hfz20_0 := blk_frozen BK656.out 0; have hfz20_1 := blk_frozen BK656.out 1) | ((with_reducible refine gate_callee (f := 13) rfl ?_); refine goesL_ (some 27) rfl rfl Tryd.func13 (by kernel_rfl) rfl #[.agg #[.int .i64 a0_0, .slice A0_1 l0_1.length c0_1]] rfl (by (try simp only [List.map_toArray, List.map_cons, List.map_nil]); first | done | rfl | (simp only [List.length_drop, List.length_take]; rfl)) ?_; (with_reducible refine (laws_toOrder.calls k a0_0 _ _ l0_1 t658 t659 _ ?side1 ?side2 A10.out).mono ?_); (case side1 => repeat (first | exact (Kd.C_below HR0_1.out HB.out) | (with_reducible refine Kd.C_alloc ?_ _) | (with_reducible refine Kd.C_drewN ?_ _) | (with_reducible refine Kd.C_drew ?_))); (case side2 => exact HC0_1.out); rintro e w21 ⟨v660, rfl, ho0, hb⟩; refine ⟨_, rfl, ?_⟩; have n0_ := Aside0.mk (Kd.R_lower ho0 (below_size (by repeat (first | (with_reducible first | exact HB.out | apply below_alloc | apply pw_below_drewN | apply below_drew1 | refine below_set ?_ GE656.out) | exact HB.out)))); have n1_ := Aside0.mk (blk_below (g := gb656) (o := .cells #[.int .i64 a0_0, .slice A0_1 l0_1.length c0_1] 24 (0, 0)) (by (with_reducible repeat (first | refine blk_drewN ?_ _ | refine blk_drew ?_ | refine blk_alloc ?_ _)); exact BK656.out) hb); have n2_ := Aside0.mk (below_step (by repeat (first | (with_reducible first | exact HB.out | apply below_alloc | apply pw_below_drewN | apply below_drew1 | refine below_set ?_ GE656.out) | exact HB.out)) hb); clear BK656; clear HB; have HO661 := n0_; have BK656 := n1_; have HB := n2_; clear n0_ n1_ n2_; (try clear hb); (try clear hb2); (try clear hk); (try clear hi); (try clear ho0)) | ((with_reducible refine gate_callee (f := 14) rfl ?_); refine goesL_ (some 29) rfl rfl Tryd.func14 (by kernel_rfl) rfl #[.slice A1 l1.length c1] rfl (by (try simp only [List.map_toArray, List.map_cons, List.map_nil]); first | done | rfl | (simp only [List.length_drop, List.length_take]; rfl)) ?_; (with_reducible refine (laws_toIntS.calls k _ _ l1 t662 _ ?side1 ?side2 A11.out).mono ?_); (case side1 => repeat (first | exact (Kd.C_below HR1.out HB.out) | (with_reducible refine Kd.C_alloc ?_ _) | (with_reducible refine Kd.C_drewN ?_ _) | (with_reducible refine Kd.C_drew ?_))); (case side2 => exact HC1.out); rintro e w22 ⟨v663, rfl, ho0, hb⟩; refine ⟨_, rfl, ?_⟩; have n0_ := Aside0.mk (Kd.R_elder' (by (with_reducible repeat (first | apply Kd.R_alloc | apply Kd.R_drewN | apply Kd.R_drew)); exact HO661.out) (Kd.R_base ho0) hb); have n1_ := Aside0.mk (Kd.R_lower (Kd.R_new' ho0 (Kd.R_lt (by (with_reducible repeat (first | apply Kd.R_alloc | apply Kd.R_drewN | apply Kd.R_drew)); exact HO661.out))) (below_size (by repeat (first | (with_reducible first | exact HB.out | apply below_alloc | apply pw_below_drewN | apply below_drew1 | refine below_set ?_ GE656.out) | exact HB.out)))); have n2_ := Aside0.mk (blk_below (g := gb656) (o := .cells #[.int .i64 a0_0, .slice A0_1 l0_1.length c0_1] 24 (0, 0)) (by (with_reducible repeat (first | refine blk_drewN ?_ _ | refine blk_drew ?_ | refine blk_alloc ?_ _)); exact BK656.out) hb); have n3_ := Aside0.mk (below_step (by repeat (first | (with_reducible first | exact HB.out | apply below_alloc | apply pw_below_drewN | apply below_drew1 | refine below_set ?_ GE656.out) | exact HB.out)) hb); clear HO661; clear BK656; clear HB; have HO661 := n0_; have HO664 := n1_; have BK656 := n2_; have HB := n3_; clear n0_ n1_ n2_ n3_; (try clear hb); (try clear hb2); (try clear hk); (try clear hi); (try clear ho0); obtain ⟨Ao23, co23, eo23⟩ := Kd.R_slice HO661.out; subst eo23; obtain ⟨Ao24, co24, eo24⟩ := Kd.R_slice HO664.out; subst eo24) | ((with_reducible refine gate_callee (f := 12) rfl ?_); refine goesL_ (some 30) rfl rfl Tryd.func12 (by kernel_rfl) rfl #[.agg #[.int .i64 t658, .slice Ao23 t659.length co23], .slice Ao24 t662.length co24] rfl (by (try simp only [List.map_toArray, List.map_cons, List.map_nil]); first | done | rfl | (simp only [List.length_drop, List.length_take]; rfl)) ?_; (with_reducible refine (spec_RenameOf.calls k t658 _ _ t659 _ _ t662 t665 t666 t669 _ ?side1 ?side2 ?side3 ?side4 A12.out).mono ?_); (case side1 => repeat (first | exact (Kd.R_reads' HO661.out).2.2 | (with_reducible refine Kd.C_alloc ?_ _) | (with_reducible refine Kd.C_drewN ?_ _) | (with_reducible refine Kd.C_drew ?_))); (case side2 => exact (Kd.R_reads' HO661.out).2.1); (case side3 => repeat (first | exact (Kd.R_reads' HO664.out).2.2 | (with_reducible refine Kd.C_alloc ?_ _) | (with_reducible refine Kd.C_drewN ?_ _) | (with_reducible refine Kd.C_drew ?_))); (case side4 => exact (Kd.R_reads' HO664.out).2.1); rintro e w25 ⟨v667, rfl, ho0, hb⟩; refine ⟨_, rfl, ?_⟩; have n0_ := Aside0.mk (Kd.R_elder' (by (with_reducible repeat (first | apply Kd.R_alloc | apply Kd.R_drewN | apply Kd.R_drew)); exact HO661.out) (Kd.R_base ho0) hb); have n1_ := Aside0.mk (Kd.R_elder' (by (with_reducible repeat (first | apply Kd.R_alloc | apply Kd.R_drewN | apply Kd.R_drew)); exact HO664.out) (Kd.R_base ho0) hb); have n2_ := Aside0.mk (Kd.R_lower (Kd.R_new' (Kd.R_new' ho0 (Kd.R_lt (by (with_reducible repeat (first | apply Kd.R_alloc | apply Kd.R_drewN | apply Kd.R_drew)); exact HO661.out))) (Kd.R_lt (by (with_reducible repeat (first | apply Kd.R_alloc | apply Kd.R_drewN | apply Kd.R_drew)); exact HO664.out))) (below_size (by repeat (first | (with_reducible first | exact HB.out | apply below_alloc | apply pw_below_drewN | apply below_drew1 | refine below_set ?_ GE656.out) | exact HB.out)))); have n3_ := Aside0.mk (blk_below (g := gb656) (o := .cells #[.int .i64 a0_0, .slice A0_1 l0_1.length c0_1] 24 (0, 0)) (by (with_reducible repeat (first | refine blk_drewN ?_ _ | refine blk_drew ?_ | refine blk_alloc ?_ _)); exact BK656.out) hb); have n4_ := Aside0.mk (below_step (by repeat (first | (with_reducible first | exact HB.out | apply below_alloc | apply pw_below_drewN | apply below_drew1 | refine below_set ?_ GE656.out) | exact HB.out)) hb); clear HO661; clear HO664; clear BK656; clear HB; have HO661 := n0_; have HO664 := n1_; have HO668 := n2_; have BK656 := n3_; have HB := n4_; clear n0_ n1_ n2_ n3_ n4_; (try clear hb); (try clear hb2); (try clear hk); (try clear hi); (try clear ho0)) | ((with_reducible refine gate_dst (N := 6) rfl ?_); refine box_event ?hg (N := 6) ?hd (cs := #[.int .i64 0, .slice none 0 0]) (t := 26) ?hr ?_; (case hd => rfl); (case hg => rfl); (case hr => first | (go_simp; done) | (go_simp; rfl)); intro gb670 hg w26 hbox hb; have n0_ := Aside0.mk (Kd.R_below (by (with_reducible repeat (first | apply Kd.R_alloc | apply Kd.R_drewN | apply Kd.R_drew)); exact HO661.out) hb); have n1_ := Aside0.mk (Kd.R_below (by (with_reducible repeat (first | apply Kd.R_alloc | apply Kd.R_drewN | apply Kd.R_drew)); exact HO664.out) hb); have n2_ := Aside0.mk (Kd.R_below (by (with_reducible repeat (first | apply Kd.R_alloc | apply Kd.R_drewN | apply Kd.R_drew)); exact HO668.out) hb); have n3_ := Aside0.mk (blk_below (g := gb656) (o := .cells #[.int .i64 a0_0, .slice A0_1 l0_1.length c0_1] 24 (0, 0)) (by (with_reducible repeat (first | refine blk_drewN ?_ _ | refine blk_drew ?_ | refine blk_alloc ?_ _)); exact BK656.out) hb); have n4_ := Aside0.mk (below_step (by repeat (first | (with_reducible first | exact HB.out | apply below_alloc | apply pw_below_drewN | apply below_drew1 | refine below_set ?_ GE656.out) | exact HB.out)) hb); have n5_ := Aside0.mk (hbox); have n6_ := Aside0.mk ((by rw [hg]; exact (below_size (by repeat (first | (with_reducible first | exact HB.out | apply below_alloc | apply pw_below_drewN | apply below_drew1 | refine below_set ?_ GE656.out) | exact HB.out))) : w.heap.size ≤ gb670)); have n7_ := Aside0.mk ((by rw [hg]; exact (below_size (by repeat (first | (with_reducible first | exact HB.out | apply below_alloc | apply pw_below_drewN | apply below_drew1 | refine below_set ?_ GE656.out) | exact HB.out))) : w.heap.size ≤ gb670)); have n8_ := Aside0.mk ((by rw [hg]; exact Nat.ne_of_lt (blk_lt (g := gb656) (o := .cells #[.int .i64 a0_0, .slice A0_1 l0_1.length c0_1] 24 (0, 0)) (by (with_reducible repeat (first | refine blk_drewN ?_ _ | refine blk_drew ?_ | refine blk_alloc ?_ _)); exact BK656.out)) : gb656 ≠ gb670)); have n9_ := Aside0.mk ((by rw [hg]; exact Nat.ne_of_gt (blk_lt (g := gb656) (o := .cells #[.int .i64 a0_0, .slice A0_1 l0_1.length c0_1] 24 (0, 0)) (by (with_reducible repeat (first | refine blk_drewN ?_ _ | refine blk_drew ?_ | refine blk_alloc ?_ _)); exact BK656.out)) : gb670 ≠ gb656)); clear HO661; clear HO664; clear HO668; clear BK656; clear HB; have HO661 := n0_; have HO664 := n1_; have HO668 := n2_; have BK656 := n3_; have HB := n4_; have BK670 := n5_; have GW670 := n6_; have GE670 := n7_; have NB656_670 := n8_; have NB670_656 := n9_; clear n0_ n1_ n2_ n3_ n4_ n5_ n6_ n7_ n8_ n9_; clear hb hbox hg; have hnb27 := NB670_656.out; have hnc27 := NB656_670.out; have hcz28_0 : w26.cell? ⟨gb670, 0, none⟩ = some (.int .i64 0) := (blk_cell BK670.out 0).trans rfl; have hcz28_1 : w26.cell? ⟨gb670, 1, none⟩ = some (.slice none 0 0) := (blk_cell BK670.out 1).trans rfl; have hfz28_0 := blk_frozen BK670.out 0; have hfz28_1 := blk_frozen BK670.out 1; obtain ⟨Ao29, co29, eo29⟩ := Kd.R_slice HO668.out; subst eo29; have hcz30_0 : w26.cell? ⟨gb656, 0, none⟩ = some (.int .i64 a0_0) := (blk_cell BK656.out 0).trans rfl; have hcz30_1 : w26.cell? ⟨gb656, 1, none⟩ = some (.slice A0_1 l0_1.length c0_1) := (blk_cell BK656.out 1).trans rfl; have hfz30_0 := blk_frozen BK656.out 0; have hfz30_1 := blk_frozen BK656.out 1) | ((with_reducible refine gate_callee (f := 13) rfl ?_); refine goesL_ (some 34) rfl rfl Tryd.func13 (by kernel_rfl) rfl #[.agg #[.int .i64 a0_0, .slice A0_1 l0_1.length c0_1]] rfl (by (try simp only [List.map_toArray, List.map_cons, List.map_nil]); first | done | rfl | (simp only [List.length_drop, List.length_take]; rfl)) ?_; (with_reducible refine (laws_toOrder.calls k a0_0 _ _ l0_1 t671 t672 _ ?side1 ?side2 A13.out).mono ?_); (case side1 => exact Kd.C_below HR0_1.out (by repeat (first | (with_reducible first | exact HB.out | apply below_alloc | apply pw_below_drewN | apply below_drew1 | refine below_set ?_ GE656.out | refine below_set ?_ GE670.out) | exact HB.out))); (case side2 => exact HC0_1.out); rintro e w31 ⟨v673, rfl, ho0, hb⟩; refine ⟨_, rfl, ?_⟩; have n0_ := Aside0.mk (Kd.R_elder' (by (with_reducible repeat (first | apply Kd.R_alloc | apply Kd.R_drewN | apply Kd.R_drew)); exact (Kd.R_mono (Kd.R_far (p := ⟨gb670, 1, none⟩) (Kd.R_far (p := ⟨gb670, 0, none⟩) (Kd.R_types HO661.out BK670.out (by decide)) (fun _ hk => hk.2) (.int .i64 t665)) (fun _ hk => hk.2) (.slice Ao29 t666.length co29)) (fun _ h_ => h_.1))) (Kd.R_base ho0) hb); have n1_ := Aside0.mk (Kd.R_elder' (by (with_reducible repeat (first | apply Kd.R_alloc | apply Kd.R_drewN | apply Kd.R_drew)); exact (Kd.R_mono (Kd.R_far (p := ⟨gb670, 1, none⟩) (Kd.R_far (p := ⟨gb670, 0, none⟩) (Kd.R_types HO664.out BK670.out (by decide)) (fun _ hk => hk.2) (.int .i64 t665)) (fun _ hk => hk.2) (.slice Ao29 t666.length co29)) (fun _ h_ => h_.1))) (Kd.R_base ho0) hb); have n2_ := Aside0.mk (Kd.R_elder' (by (with_reducible repeat (first | apply Kd.R_alloc | apply Kd.R_drewN | apply Kd.R_drew)); exact (Kd.R_mono (Kd.R_far (p := ⟨gb670, 1, none⟩) (Kd.R_far (p := ⟨gb670, 0, none⟩) (Kd.R_types HO668.out BK670.out (by decide)) (fun _ hk => hk.2) (.int .i64 t665)) (fun _ hk => hk.2) (.slice Ao29 t666.length co29)) (fun _ h_ => h_.1))) (Kd.R_base ho0) hb); have n3_ := Aside0.mk (Kd.R_lower (Kd.R_new' (Kd.R_new' (Kd.R_new' ho0 (Kd.R_lt (by (with_reducible repeat (first | apply Kd.R_alloc | apply Kd.R_drewN | apply Kd.R_drew)); exact (Kd.R_mono (Kd.R_far (p := ⟨gb670, 1, none⟩) (Kd.R_far (p := ⟨gb670, 0, none⟩) (Kd.R_types HO661.out BK670.out (by decide)) (fun _ hk => hk.2) (.int .i64 t665)) (fun _ hk => hk.2) (.slice Ao29 t666.length co29)) (fun _ h_ => h_.1))))) (Kd.R_lt (by (with_reducible repeat (first | apply Kd.R_alloc | apply Kd.R_drewN | apply Kd.R_drew)); exact (Kd.R_mono (Kd.R_far (p := ⟨gb670, 1, none⟩) (Kd.R_far (p := ⟨gb670, 0, none⟩) (Kd.R_types HO664.out BK670.out (by decide)) (fun _ hk => hk.2) (.int .i64 t665)) (fun _ hk => hk.2) (.slice Ao29 t666.length co29)) (fun _ h_ => h_.1))))) (Kd.R_lt (by (with_reducible repeat (first | apply Kd.R_alloc | apply Kd.R_drewN | apply Kd.R_drew)); exact (Kd.R_mono (Kd.R_far (p := ⟨gb670, 1, none⟩) (Kd.R_far (p := ⟨gb670, 0, none⟩) (Kd.R_types HO668.out BK670.out (by decide)) (fun _ hk => hk.2) (.int .i64 t665)) (fun _ hk => hk.2) (.slice Ao29 t666.length co29)) (fun _ h_ => h_.1))))) (below_size (by repeat (first | (with_reducible first | exact HB.out | apply below_alloc | apply pw_below_drewN | apply below_drew1 | refine below_set ?_ GE656.out | refine below_set ?_ GE670.out) | exact HB.out)))); have n4_ := Aside0.mk (blk_below (g := gb656) (o := .cells #[.int .i64 a0_0, .slice A0_1 l0_1.length c0_1] 24 (0, 0)) (by (with_reducible repeat (first | refine blk_drewN ?_ _ | refine blk_drew ?_ | refine blk_alloc ?_ _)); refine blk_far ?_ NB656_670.out _; (with_reducible repeat (first | refine blk_drewN ?_ _ | refine blk_drew ?_ | refine blk_alloc ?_ _)); refine blk_far ?_ NB656_670.out _; (with_reducible repeat (first | refine blk_drewN ?_ _ | refine blk_drew ?_ | refine blk_alloc ?_ _)); exact BK656.out) hb); have n5_ := Aside0.mk (blk_below (g := gb670) (o := .cells #[.int .i64 t665, .slice Ao29 t666.length co29] 26 (0, 0)) (by (with_reducible repeat (first | refine blk_drewN ?_ _ | refine blk_drew ?_ | refine blk_alloc ?_ _)); refine blk_put (cs := #[.int .i64 t665, .slice none 0 0]) ?_ 1 _ rfl; (with_reducible repeat (first | refine blk_drewN ?_ _ | refine blk_drew ?_ | refine blk_alloc ?_ _)); refine blk_put (cs := #[.int .i64 0, .slice none 0 0]) ?_ 0 _ rfl; (with_reducible repeat (first | refine blk_drewN ?_ _ | refine blk_drew ?_ | refine blk_alloc ?_ _)); exact BK670.out) hb); have n6_ := Aside0.mk (below_step (by repeat (first | (with_reducible first | exact HB.out | apply below_alloc | apply pw_below_drewN | apply below_drew1 | refine below_set ?_ GE656.out | refine below_set ?_ GE670.out) | exact HB.out)) hb); clear HO661; clear HO664; clear HO668; clear BK656; clear BK670; clear HB; have HO661 := n0_; have HO664 := n1_; have HO668 := n2_; have HO674 := n3_; have BK656 := n4_; have BK670 := n5_; have HB := n6_; clear n0_ n1_ n2_ n3_ n4_ n5_ n6_; (try clear hb); (try clear hb2); (try clear hk); (try clear hi); (try clear ho0)) | ((with_reducible refine gate_dst (N := 8) rfl ?_); refine box_event ?hg (N := 8) ?hd (cs := #[.int .i64 0, .slice none 0 0]) (t := 26) ?hr ?_; (case hd => rfl); (case hg => rfl); (case hr => first | (go_simp; done) | (go_simp; rfl)); intro gb675 hg w32 hbox hb; have n0_ := Aside0.mk (Kd.R_below (by (with_reducible repeat (first | apply Kd.R_alloc | apply Kd.R_drewN | apply Kd.R_drew)); exact HO661.out) hb); have n1_ := Aside0.mk (Kd.R_below (by (with_reducible repeat (first | apply Kd.R_alloc | apply Kd.R_drewN | apply Kd.R_drew)); exact HO664.out) hb); have n2_ := Aside0.mk (Kd.R_below (by (with_reducible repeat (first | apply Kd.R_alloc | apply Kd.R_drewN | apply Kd.R_drew)); exact HO668.out) hb); have n3_ := Aside0.mk (Kd.R_below (by (with_reducible repeat (first | apply Kd.R_alloc | apply Kd.R_drewN | apply Kd.R_drew)); exact HO674.out) hb); have n4_ := Aside0.mk (blk_below (g := gb656) (o := .cells #[.int .i64 a0_0, .slice A0_1 l0_1.length c0_1] 24 (0, 0)) (by (with_reducible repeat (first | refine blk_drewN ?_ _ | refine blk_drew ?_ | refine blk_alloc ?_ _)); exact BK656.out) hb); have n5_ := Aside0.mk (blk_below (g := gb670) (o := .cells #[.int .i64 t665, .slice Ao29 t666.length co29] 26 (0, 0)) (by (with_reducible repeat (first | refine blk_drewN ?_ _ | refine blk_drew ?_ | refine blk_alloc ?_ _)); exact BK670.out) hb); have n6_ := Aside0.mk (below_step (by repeat (first | (with_reducible first | exact HB.out | apply below_alloc | apply pw_below_drewN | apply below_drew1 | refine below_set ?_ GE656.out | refine below_set ?_ GE670.out) | exact HB.out)) hb); have n7_ := Aside0.mk (hbox); have n8_ := Aside0.mk ((by rw [hg]; exact (below_size (by repeat (first | (with_reducible first | exact HB.out | apply below_alloc | apply pw_below_drewN | apply below_drew1 | refine below_set ?_ GE656.out | refine below_set ?_ GE670.out) | exact HB.out))) : w.heap.size ≤ gb675)); have n9_ := Aside0.mk ((by rw [hg]; exact (below_size (by repeat (first | (with_reducible first | exact HB.out | apply below_alloc | apply pw_below_drewN | apply below_drew1 | refine below_set ?_ GE656.out | refine below_set ?_ GE670.out) | exact HB.out))) : w.heap.size ≤ gb675)); have n10_ := Aside0.mk ((by rw [hg]; exact Nat.ne_of_lt (blk_lt (g := gb656) (o := .cells #[.int .i64 a0_0, .slice A0_1 l0_1.length c0_1] 24 (0, 0)) (by (with_reducible repeat (first | refine blk_drewN ?_ _ | refine blk_drew ?_ | refine blk_alloc ?_ _)); exact BK656.out)) : gb656 ≠ gb675)); have n11_ := Aside0.mk ((by rw [hg]; exact Nat.ne_of_gt (blk_lt (g := gb656) (o := .cells #[.int .i64 a0_0, .slice A0_1 l0_1.length c0_1] 24 (0, 0)) (by (with_reducible repeat (first | refine blk_drewN ?_ _ | refine blk_drew ?_ | refine blk_alloc ?_ _)); exact BK656.out)) : gb675 ≠ gb656)); have n12_ := Aside0.mk ((by rw [hg]; exact Nat.ne_of_lt (blk_lt (g := gb670) (o := .cells #[.int .i64 t665, .slice Ao29 t666.length co29] 26 (0, 0)) (by (with_reducible repeat (first | refine blk_drewN ?_ _ | refine blk_drew ?_ | refine blk_alloc ?_ _)); exact BK670.out)) : gb670 ≠ gb675)); have n13_ := Aside0.mk ((by rw [hg]; exact Nat.ne_of_gt (blk_lt (g := gb670) (o := .cells #[.int .i64 t665, .slice Ao29 t666.length co29] 26 (0, 0)) (by (with_reducible repeat (first | refine blk_drewN ?_ _ | refine blk_drew ?_ | refine blk_alloc ?_ _)); exact BK670.out)) : gb675 ≠ gb670)); clear HO661; clear HO664; clear HO668; clear HO674; clear BK656; clear BK670; clear HB; have HO661 := n0_; have HO664 := n1_; have HO668 := n2_; have HO674 := n3_; have BK656 := n4_; have BK670 := n5_; have HB := n6_; have BK675 := n7_; have GW675 := n8_; have GE675 := n9_; have NB656_675 := n10_; have NB675_656 := n11_; have NB670_675 := n12_; have NB675_670 := n13_; clear n0_ n1_ n2_ n3_ n4_ n5_ n6_ n7_ n8_ n9_ n10_ n11_ n12_ n13_; clear hb hbox hg; have hnb33 := NB675_656.out; have hnc33 := NB656_675.out; have hnb34 := NB675_670.out; have hnc34 := NB670_675.out; have hcz35_0 : w32.cell? ⟨gb675, 0, none⟩ = some (.int .i64 0) := (blk_cell BK675.out 0).trans rfl; have hcz35_1 : w32.cell? ⟨gb675, 1, none⟩ = some (.slice none 0 0) := (blk_cell BK675.out 1).trans rfl; have hfz35_0 := blk_frozen BK675.out 0; have hfz35_1 := blk_frozen BK675.out 1; obtain ⟨Ao36, co36, eo36⟩ := Kd.R_slice HO674.out; subst eo36) | ((with_reducible refine gate_callee (f := 14) rfl ?_); refine goesL_ (some 36) rfl rfl Tryd.func14 (by kernel_rfl) rfl #[.slice A1 l1.length c1] rfl (by (try simp only [List.map_toArray, List.map_cons, List.map_nil]); first | done | rfl | (simp only [List.length_drop, List.length_take]; rfl)) ?_; (with_reducible refine (laws_toIntS.calls k _ _ l1 t676 _ ?side1 ?side2 A14.out).mono ?_); (case side1 => exact Kd.C_below HR1.out (by repeat (first | (with_reducible first | exact HB.out | apply below_alloc | apply pw_below_drewN | apply below_drew1 | refine below_set ?_ GE656.out | refine below_set ?_ GE670.out | refine below_set ?_ GE675.out) | exact HB.out))); (case side2 => exact HC1.out); rintro e w37 ⟨v677, rfl, ho0, hb⟩; refine ⟨_, rfl, ?_⟩; have n0_ := Aside0.mk (Kd.R_elder' (by (with_reducible repeat (first | apply Kd.R_alloc | apply Kd.R_drewN | apply Kd.R_drew)); exact (Kd.R_mono (Kd.R_far (p := ⟨gb675, 1, none⟩) (Kd.R_far (p := ⟨gb675, 0, none⟩) (Kd.R_types HO661.out BK675.out (by decide)) (fun _ hk => hk.2) (.int .i64 t671)) (fun _ hk => hk.2) (.slice Ao36 t672.length co36)) (fun _ h_ => h_.1))) (Kd.R_base ho0) hb); have n1_ := Aside0.mk (Kd.R_elder' (by (with_reducible repeat (first | apply Kd.R_alloc | apply Kd.R_drewN | apply Kd.R_drew)); exact (Kd.R_mono (Kd.R_far (p := ⟨gb675, 1, none⟩) (Kd.R_far (p := ⟨gb675, 0, none⟩) (Kd.R_types HO664.out BK675.out (by decide)) (fun _ hk => hk.2) (.int .i64 t671)) (fun _ hk => hk.2) (.slice Ao36 t672.length co36)) (fun _ h_ => h_.1))) (Kd.R_base ho0) hb); have n2_ := Aside0.mk (Kd.R_elder' (by (with_reducible repeat (first | apply Kd.R_alloc | apply Kd.R_drewN | apply Kd.R_drew)); exact (Kd.R_mono (Kd.R_far (p := ⟨gb675, 1, none⟩) (Kd.R_far (p := ⟨gb675, 0, none⟩) (Kd.R_types HO668.out BK675.out (by decide)) (fun _ hk => hk.2) (.int .i64 t671)) (fun _ hk => hk.2) (.slice Ao36 t672.length co36)) (fun _ h_ => h_.1))) (Kd.R_base ho0) hb); have n3_ := Aside0.mk (Kd.R_elder' (by (with_reducible repeat (first | apply Kd.R_alloc | apply Kd.R_drewN | apply Kd.R_drew)); exact (Kd.R_mono (Kd.R_far (p := ⟨gb675, 1, none⟩) (Kd.R_far (p := ⟨gb675, 0, none⟩) (Kd.R_types HO674.out BK675.out (by decide)) (fun _ hk => hk.2) (.int .i64 t671)) (fun _ hk => hk.2) (.slice Ao36 t672.length co36)) (fun _ h_ => h_.1))) (Kd.R_base ho0) hb); have n4_ := Aside0.mk (Kd.R_lower (Kd.R_new' (Kd.R_new' (Kd.R_new' (Kd.R_new' ho0 (Kd.R_lt (by (with_reducible repeat (first | apply Kd.R_alloc | apply Kd.R_drewN | apply Kd.R_drew)); exact (Kd.R_mono (Kd.R_far (p := ⟨gb675, 1, none⟩) (Kd.R_far (p := ⟨gb675, 0, none⟩) (Kd.R_types HO661.out BK675.out (by decide)) (fun _ hk => hk.2) (.int .i64 t671)) (fun _ hk => hk.2) (.slice Ao36 t672.length co36)) (fun _ h_ => h_.1))))) (Kd.R_lt (by (with_reducible repeat (first | apply Kd.R_alloc | apply Kd.R_drewN | apply Kd.R_drew)); exact (Kd.R_mono (Kd.R_far (p := ⟨gb675, 1, none⟩) (Kd.R_far (p := ⟨gb675, 0, none⟩) (Kd.R_types HO664.out BK675.out (by decide)) (fun _ hk => hk.2) (.int .i64 t671)) (fun _ hk => hk.2) (.slice Ao36 t672.length co36)) (fun _ h_ => h_.1))))) (Kd.R_lt (by (with_reducible repeat (first | apply Kd.R_alloc | apply Kd.R_drewN | apply Kd.R_drew)); exact (Kd.R_mono (Kd.R_far (p := ⟨gb675, 1, none⟩) (Kd.R_far (p := ⟨gb675, 0, none⟩) (Kd.R_types HO668.out BK675.out (by decide)) (fun _ hk => hk.2) (.int .i64 t671)) (fun _ hk => hk.2) (.slice Ao36 t672.length co36)) (fun _ h_ => h_.1))))) (Kd.R_lt (by (with_reducible repeat (first | apply Kd.R_alloc | apply Kd.R_drewN | apply Kd.R_drew)); exact (Kd.R_mono (Kd.R_far (p := ⟨gb675, 1, none⟩) (Kd.R_far (p := ⟨gb675, 0, none⟩) (Kd.R_types HO674.out BK675.out (by decide)) (fun _ hk => hk.2) (.int .i64 t671)) (fun _ hk => hk.2) (.slice Ao36 t672.length co36)) (fun _ h_ => h_.1))))) (below_size (by repeat (first | (with_reducible first | exact HB.out | apply below_alloc | apply pw_below_drewN | apply below_drew1 | refine below_set ?_ GE656.out | refine below_set ?_ GE670.out | refine below_set ?_ GE675.out) | exact HB.out)))); have n5_ := Aside0.mk (blk_below (g := gb656) (o := .cells #[.int .i64 a0_0, .slice A0_1 l0_1.length c0_1] 24 (0, 0)) (by (with_reducible repeat (first | refine blk_drewN ?_ _ | refine blk_drew ?_ | refine blk_alloc ?_ _)); refine blk_far ?_ NB656_675.out _; (with_reducible repeat (first | refine blk_drewN ?_ _ | refine blk_drew ?_ | refine blk_alloc ?_ _)); refine blk_far ?_ NB656_675.out _; (with_reducible repeat (first | refine blk_drewN ?_ _ | refine blk_drew ?_ | refine blk_alloc ?_ _)); exact BK656.out) hb); have n6_ := Aside0.mk (blk_below (g := gb670) (o := .cells #[.int .i64 t665, .slice Ao29 t666.length co29] 26 (0, 0)) (by (with_reducible repeat (first | refine blk_drewN ?_ _ | refine blk_drew ?_ | refine blk_alloc ?_ _)); refine blk_far ?_ NB670_675.out _; (with_reducible repeat (first | refine blk_drewN ?_ _ | refine blk_drew ?_ | refine blk_alloc ?_ _)); refine blk_far ?_ NB670_675.out _; (with_reducible repeat (first | refine blk_drewN ?_ _ | refine blk_drew ?_ | refine blk_alloc ?_ _)); exact BK670.out) hb); have n7_ := Aside0.mk (blk_below (g := gb675) (o := .cells #[.int .i64 t671, .slice Ao36 t672.length co36] 26 (0, 0)) (by (with_reducible repeat (first | refine blk_drewN ?_ _ | refine blk_drew ?_ | refine blk_alloc ?_ _)); refine blk_put (cs := #[.int .i64 t671, .slice none 0 0]) ?_ 1 _ rfl; (with_reducible repeat (first | refine blk_drewN ?_ _ | refine blk_drew ?_ | refine blk_alloc ?_ _)); refine blk_put (cs := #[.int .i64 0, .slice none 0 0]) ?_ 0 _ rfl; (with_reducible repeat (first | refine blk_drewN ?_ _ | refine blk_drew ?_ | refine blk_alloc ?_ _)); exact BK675.out) hb); have n8_ := Aside0.mk (below_step (by repeat (first | (with_reducible first | exact HB.out | apply below_alloc | apply pw_below_drewN | apply below_drew1 | refine below_set ?_ GE656.out | refine below_set ?_ GE670.out | refine below_set ?_ GE675.out) | exact HB.out)) hb); clear HO661; clear HO664; clear HO668; clear HO674; clear BK656; clear BK670; clear BK675; clear HB; have HO661 := n0_; have HO664 := n1_; have HO668 := n2_; have HO674 := n3_; have HO678 := n4_; have BK656 := n5_; have BK670 := n6_; have BK675 := n7_; have HB := n8_; clear n0_ n1_ n2_ n3_ n4_ n5_ n6_ n7_ n8_; (try clear hb); (try clear hb2); (try clear hk); (try clear hi); (try clear ho0); have hcz38_0 : w37.cell? ⟨gb675, 0, none⟩ = some (.int .i64 t671) := (blk_cell BK675.out 0).trans rfl; have hcz38_1 : w37.cell? ⟨gb675, 1, none⟩ = some (.slice Ao36 t672.length co36) := (blk_cell BK675.out 1).trans rfl; have hfz38_0 := blk_frozen BK675.out 0; have hfz38_1 := blk_frozen BK675.out 1; obtain ⟨Ao39, co39, eo39⟩ := Kd.R_slice HO678.out; subst eo39) | ((with_reducible refine gate_callee (f := 15) rfl ?_); refine goesL_ (some 40) rfl rfl Tryd.func15 (by kernel_rfl) rfl #[.agg #[.int .i64 t671, .slice Ao36 t672.length co36], .slice Ao39 t676.length co39] rfl (by (try simp only [List.map_toArray, List.map_cons, List.map_nil]); first | done | rfl | (simp only [List.length_drop, List.length_take]; rfl)) ?_; (with_reducible refine (impl_RenameOf.calls k t671 _ _ t672 _ _ t676 t679 t680 t683 _ ?side1 ?side2 ?side3 ?side4 ?side5 A15.out).mono ?_); (case side1 => repeat (first | exact (Kd.R_reads' HO674.out).2.2 | (with_reducible refine Kd.C_alloc ?_ _) | (with_reducible refine Kd.C_drewN ?_ _) | (with_reducible refine Kd.C_drew ?_))); (case side2 => exact (Kd.R_reads' HO674.out).2.1); (case side3 => repeat (first | exact (Kd.R_reads' HO678.out).2.2 | (with_reducible refine Kd.C_alloc ?_ _) | (with_reducible refine Kd.C_drewN ?_ _) | (with_reducible refine Kd.C_drew ?_))); (case side4 => exact (Kd.R_reads' HO678.out).2.1); (case side5 => exact TzW.below HT.out (by repeat (first | (with_reducible first | exact HB.out | apply below_alloc | apply pw_below_drewN | apply below_drew1 | refine below_set ?_ GE656.out | refine below_set ?_ GE670.out | refine below_set ?_ GE675.out) | exact HB.out))); rintro e w40 ⟨v681, rfl, ho0, hb⟩; refine ⟨_, rfl, ?_⟩; have n0_ := Aside0.mk (Kd.R_elder' (by (with_reducible repeat (first | apply Kd.R_alloc | apply Kd.R_drewN | apply Kd.R_drew)); exact HO661.out) (Kd.R_base ho0) hb); have n1_ := Aside0.mk (Kd.R_elder' (by (with_reducible repeat (first | apply Kd.R_alloc | apply Kd.R_drewN | apply Kd.R_drew)); exact HO664.out) (Kd.R_base ho0) hb); have n2_ := Aside0.mk (Kd.R_elder' (by (with_reducible repeat (first | apply Kd.R_alloc | apply Kd.R_drewN | apply Kd.R_drew)); exact HO668.out) (Kd.R_base ho0) hb); have n3_ := Aside0.mk (Kd.R_elder' (by (with_reducible repeat (first | apply Kd.R_alloc | apply Kd.R_drewN | apply Kd.R_drew)); exact HO674.out) (Kd.R_base ho0) hb); have n4_ := Aside0.mk (Kd.R_elder' (by (with_reducible repeat (first | apply Kd.R_alloc | apply Kd.R_drewN | apply Kd.R_drew)); exact HO678.out) (Kd.R_base ho0) hb); have n5_ := Aside0.mk (Kd.R_lower (Kd.R_new' (Kd.R_new' (Kd.R_new' (Kd.R_new' (Kd.R_new' ho0 (Kd.R_lt (by (with_reducible repeat (first | apply Kd.R_alloc | apply Kd.R_drewN | apply Kd.R_drew)); exact HO661.out))) (Kd.R_lt (by (with_reducible repeat (first | apply Kd.R_alloc | apply Kd.R_drewN | apply Kd.R_drew)); exact HO664.out))) (Kd.R_lt (by (with_reducible repeat (first | apply Kd.R_alloc | apply Kd.R_drewN | apply Kd.R_drew)); exact HO668.out))) (Kd.R_lt (by (with_reducible repeat (first | apply Kd.R_alloc | apply Kd.R_drewN | apply Kd.R_drew)); exact HO674.out))) (Kd.R_lt (by (with_reducible repeat (first | apply Kd.R_alloc | apply Kd.R_drewN | apply Kd.R_drew)); exact HO678.out))) (below_size (by repeat (first | (with_reducible first | exact HB.out | apply below_alloc | apply pw_below_drewN | apply below_drew1 | refine below_set ?_ GE656.out | refine below_set ?_ GE670.out | refine below_set ?_ GE675.out) | exact HB.out)))); have n6_ := Aside0.mk (blk_below (g := gb656) (o := .cells #[.int .i64 a0_0, .slice A0_1 l0_1.length c0_1] 24 (0, 0)) (by (with_reducible repeat (first | refine blk_drewN ?_ _ | refine blk_drew ?_ | refine blk_alloc ?_ _)); exact BK656.out) hb); have n7_ := Aside0.mk (blk_below (g := gb670) (o := .cells #[.int .i64 t665, .slice Ao29 t666.length co29] 26 (0, 0)) (by (with_reducible repeat (first | refine blk_drewN ?_ _ | refine blk_drew ?_ | refine blk_alloc ?_ _)); exact BK670.out) hb); have n8_ := Aside0.mk (blk_below (g := gb675) (o := .cells #[.int .i64 t671, .slice Ao36 t672.length co36] 26 (0, 0)) (by (with_reducible repeat (first | refine blk_drewN ?_ _ | refine blk_drew ?_ | refine blk_alloc ?_ _)); exact BK675.out) hb); have n9_ := Aside0.mk (below_step (by repeat (first | (with_reducible first | exact HB.out | apply below_alloc | apply pw_below_drewN | apply below_drew1 | refine below_set ?_ GE656.out | refine below_set ?_ GE670.out | refine below_set ?_ GE675.out) | exact HB.out)) hb); clear HO661; clear HO664; clear HO668; clear HO674; clear HO678; clear BK656; clear BK670; clear BK675; clear HB; have HO661 := n0_; have HO664 := n1_; have HO668 := n2_; have HO674 := n3_; have HO678 := n4_; have HO682 := n5_; have BK656 := n6_; have BK670 := n7_; have BK675 := n8_; have HB := n9_; clear n0_ n1_ n2_ n3_ n4_ n5_ n6_ n7_ n8_ n9_; (try clear hb); (try clear hb2); (try clear hk); (try clear hi); (try clear ho0)) | ((with_reducible refine gate_dst (N := 10) rfl ?_); refine box_event ?hg (N := 10) ?hd (cs := #[.int .i64 0, .slice none 0 0]) (t := 26) ?hr ?_; (case hd => rfl); (case hg => rfl); (case hr => first | (go_simp; done) | (go_simp; rfl)); intro gb684 hg w41 hbox hb; have n0_ := Aside0.mk (Kd.R_below (by (with_reducible repeat (first | apply Kd.R_alloc | apply Kd.R_drewN | apply Kd.R_drew)); exact HO661.out) hb); have n1_ := Aside0.mk (Kd.R_below (by (with_reducible repeat (first | apply Kd.R_alloc | apply Kd.R_drewN | apply Kd.R_drew)); exact HO664.out) hb); have n2_ := Aside0.mk (Kd.R_below (by (with_reducible repeat (first | apply Kd.R_alloc | apply Kd.R_drewN | apply Kd.R_drew)); exact HO668.out) hb); have n3_ := Aside0.mk (Kd.R_below (by (with_reducible repeat (first | apply Kd.R_alloc | apply Kd.R_drewN | apply Kd.R_drew)); exact HO674.out) hb); have n4_ := Aside0.mk (Kd.R_below (by (with_reducible repeat (first | apply Kd.R_alloc | apply Kd.R_drewN | apply Kd.R_drew)); exact HO678.out) hb); have n5_ := Aside0.mk (Kd.R_below (by (with_reducible repeat (first | apply Kd.R_alloc | apply Kd.R_drewN | apply Kd.R_drew)); exact HO682.out) hb); have n6_ := Aside0.mk (blk_below (g := gb656) (o := .cells #[.int .i64 a0_0, .slice A0_1 l0_1.length c0_1] 24 (0, 0)) (by (with_reducible repeat (first | refine blk_drewN ?_ _ | refine blk_drew ?_ | refine blk_alloc ?_ _)); exact BK656.out) hb); have n7_ := Aside0.mk (blk_below (g := gb670) (o := .cells #[.int .i64 t665, .slice Ao29 t666.length co29] 26 (0, 0)) (by (with_reducible repeat (first | refine blk_drewN ?_ _ | refine blk_drew ?_ | refine blk_alloc ?_ _)); exact BK670.out) hb); have n8_ := Aside0.mk (blk_below (g := gb675) (o := .cells #[.int .i64 t671, .slice Ao36 t672.length co36] 26 (0, 0)) (by (with_reducible repeat (first | refine blk_drewN ?_ _ | refine blk_drew ?_ | refine blk_alloc ?_ _)); exact BK675.out) hb); have n9_ := Aside0.mk (below_step (by repeat (first | (with_reducible first | exact HB.out | apply below_alloc | apply pw_below_drewN | apply below_drew1 | refine below_set ?_ GE656.out | refine below_set ?_ GE670.out | refine below_set ?_ GE675.out) | exact HB.out)) hb); have n10_ := Aside0.mk (hbox); have n11_ := Aside0.mk ((by rw [hg]; exact (below_size (by repeat (first | (with_reducible first | exact HB.out | apply below_alloc | apply pw_below_drewN | apply below_drew1 | refine below_set ?_ GE656.out | refine below_set ?_ GE670.out | refine below_set ?_ GE675.out) | exact HB.out))) : w.heap.size ≤ gb684)); have n12_ := Aside0.mk ((by rw [hg]; exact (below_size (by repeat (first | (with_reducible first | exact HB.out | apply below_alloc | apply pw_below_drewN | apply below_drew1 | refine below_set ?_ GE656.out | refine below_set ?_ GE670.out | refine below_set ?_ GE675.out) | exact HB.out))) : w.heap.size ≤ gb684)); have n13_ := Aside0.mk ((by rw [hg]; exact Nat.ne_of_lt (blk_lt (g := gb656) (o := .cells #[.int .i64 a0_0, .slice A0_1 l0_1.length c0_1] 24 (0, 0)) (by (with_reducible repeat (first | refine blk_drewN ?_ _ | refine blk_drew ?_ | refine blk_alloc ?_ _)); exact BK656.out)) : gb656 ≠ gb684)); have n14_ := Aside0.mk ((by rw [hg]; exact Nat.ne_of_gt (blk_lt (g := gb656) (o := .cells #[.int .i64 a0_0, .slice A0_1 l0_1.length c0_1] 24 (0, 0)) (by (with_reducible repeat (first | refine blk_drewN ?_ _ | refine blk_drew ?_ | refine blk_alloc ?_ _)); exact BK656.out)) : gb684 ≠ gb656)); have n15_ := Aside0.mk ((by rw [hg]; exact Nat.ne_of_lt (blk_lt (g := gb670) (o := .cells #[.int .i64 t665, .slice Ao29 t666.length co29] 26 (0, 0)) (by (with_reducible repeat (first | refine blk_drewN ?_ _ | refine blk_drew ?_ | refine blk_alloc ?_ _)); exact BK670.out)) : gb670 ≠ gb684)); have n16_ := Aside0.mk ((by rw [hg]; exact Nat.ne_of_gt (blk_lt (g := gb670) (o := .cells #[.int .i64 t665, .slice Ao29 t666.length co29] 26 (0, 0)) (by (with_reducible repeat (first | refine blk_drewN ?_ _ | refine blk_drew ?_ | refine blk_alloc ?_ _)); exact BK670.out)) : gb684 ≠ gb670)); have n17_ := Aside0.mk ((by rw [hg]; exact Nat.ne_of_lt (blk_lt (g := gb675) (o := .cells #[.int .i64 t671, .slice Ao36 t672.length co36] 26 (0, 0)) (by (with_reducible repeat (first | refine blk_drewN ?_ _ | refine blk_drew ?_ | refine blk_alloc ?_ _)); exact BK675.out)) : gb675 ≠ gb684)); have n18_ := Aside0.mk ((by rw [hg]; exact Nat.ne_of_gt (blk_lt (g := gb675) (o := .cells #[.int .i64 t671, .slice Ao36 t672.length co36] 26 (0, 0)) (by (with_reducible repeat (first | refine blk_drewN ?_ _ | refine blk_drew ?_ | refine blk_alloc ?_ _)); exact BK675.out)) : gb684 ≠ gb675)); clear HO661; clear HO664; clear HO668; clear HO674; clear HO678; clear HO682; clear BK656; clear BK670; clear BK675; clear HB; have HO661 := n0_; have HO664 := n1_; have HO668 := n2_; have HO674 := n3_; have HO678 := n4_; have HO682 := n5_; have BK656 := n6_; have BK670 := n7_; have BK675 := n8_; have HB := n9_; have BK684 := n10_; have GW684 := n11_; have GE684 := n12_; have NB656_684 := n13_; have NB684_656 := n14_; have NB670_684 := n15_; have NB684_670 := n16_; have NB675_684 := n17_; have NB684_675 := n18_; clear n0_ n1_ n2_ n3_ n4_ n5_ n6_ n7_ n8_ n9_ n10_ n11_ n12_ n13_ n14_ n15_ n16_ n17_ n18_; clear hb hbox hg; have hnb42 := NB684_656.out; have hnc42 := NB656_684.out; have hnb43 := NB684_670.out; have hnc43 := NB670_684.out; have hnb44 := NB684_675.out; have hnc44 := NB675_684.out; have hcz45_0 : w41.cell? ⟨gb684, 0, none⟩ = some (.int .i64 0) := (blk_cell BK684.out 0).trans rfl; have hcz45_1 : w41.cell? ⟨gb684, 1, none⟩ = some (.slice none 0 0) := (blk_cell BK684.out 1).trans rfl; have hfz45_0 := blk_frozen BK684.out 0; have hfz45_1 := blk_frozen BK684.out 1; obtain ⟨Ao46, co46, eo46⟩ := Kd.R_slice HO682.out; subst eo46))
      (try simp only [Act.put, List.setIfInBounds_toArray, List.set_cons_zero, List.set_cons_succ])
      go_cut [51] (fun v51 wc => ∃ (kq : Nat) (x51_15 : Bool), v51 = .bool x51_15 ∧ Aside0 (laws_FnExactRenameOf.j0 kq l1 t669 t676 t683 x51_15 a0_0 l0_1 t665 t666 t671 t672 t679 t680 = some r) ∧ Aside0 (kq ≤ k) ∧ Aside0 (Kd.R (Kd.int .i64) 3 wc w.heap.size (fun k_ => some k_ ≠ ((.slice Ao29 t666.length co29) : Value).ownBlock ∧ some k_ ≠ ((.slice Ao36 t672.length co36) : Value).ownBlock ∧ some k_ ≠ ((.slice Ao46 t680.length co46) : Value).ownBlock) (.slice Ao39 t676.length co39) t676) ∧ Aside0 (Kd.R (Kd.int .i64) 3 wc w.heap.size (fun k_ => some k_ ≠ ((.slice Ao39 t676.length co39) : Value).ownBlock ∧ some k_ ≠ ((.slice Ao36 t672.length co36) : Value).ownBlock ∧ some k_ ≠ ((.slice Ao46 t680.length co46) : Value).ownBlock) (.slice Ao29 t666.length co29) t666) ∧ Aside0 (Kd.R (Kd.int .i64) 3 wc w.heap.size (fun k_ => some k_ ≠ ((.slice Ao39 t676.length co39) : Value).ownBlock ∧ some k_ ≠ ((.slice Ao29 t666.length co29) : Value).ownBlock ∧ some k_ ≠ ((.slice Ao46 t680.length co46) : Value).ownBlock) (.slice Ao36 t672.length co36) t672) ∧ Aside0 (Kd.R (Kd.int .i64) 3 wc w.heap.size (fun k_ => some k_ ≠ ((.slice Ao39 t676.length co39) : Value).ownBlock ∧ some k_ ≠ ((.slice Ao29 t666.length co29) : Value).ownBlock ∧ some k_ ≠ ((.slice Ao36 t672.length co36) : Value).ownBlock) (.slice Ao46 t680.length co46) t680) ∧ Aside0 (wc.heap[gb656]? = some (.cells #[.int .i64 a0_0, (.slice A0_1 l0_1.length c0_1)] 24 (0, 0))) ∧ Aside0 (wc.heap[gb670]? = some (.cells #[.int .i64 t665, (.slice Ao29 t666.length co29)] 26 (0, 0))) ∧ Aside0 (wc.heap[gb675]? = some (.cells #[.int .i64 t671, (.slice Ao36 t672.length co36)] 26 (0, 0))) ∧ Aside0 (wc.heap[gb684]? = some (.cells #[.int .i64 t679, (.slice Ao46 t680.length co46)] 26 (0, 0))) ∧ Aside0 (Below w.heap.size w wc))
      case first =>
        have H := HC16.out
        clear HC16
        replace H := Option.bind_eq_some_iff.mp H
        obtain ⟨t685, A470, H⟩ := H
        replace H : (if t685 = true then (laws_FnExactRenameOf.j0 k l1 t669 t676 t683 (t683 != t669) a0_0 l0_1 t665 t666 t671 t672 t679 t680) else (laws_FnExactRenameOf.j0 k l1 t669 t676 t683 true a0_0 l0_1 t665 t666 t671 t672 t679 t680)) = some r := H
        have A47 := Aside0.mk A470
        clear A470
        by_cases c48 : t685 = true
        · subst c48
          have H1 : (laws_FnExactRenameOf.j0 k l1 t669 t676 t683 (t683 != t669) a0_0 l0_1 t665 t666 t671 t672 t679 t680) = some r := by rw [if_pos rfl] at H; exact H
          clear H
          have H := H1
          clear H1
          have H' := Aside0.mk H
          clear H
          have hnb49 := NB684_656.out
          have hnc49 := NB656_684.out
          have hnb50 := NB684_670.out
          have hnc50 := NB670_684.out
          have hnb51 := NB684_675.out
          have hnc51 := NB675_684.out
          have hcz52_0 : w41.cell? ⟨gb684, 0, none⟩ = some (.int .i64 0) := (blk_cell BK684.out 0).trans rfl
          have hcz52_1 : w41.cell? ⟨gb684, 1, none⟩ = some (.slice none 0 0) := (blk_cell BK684.out 1).trans rfl
          have hfz52_0 := blk_frozen BK684.out 0
          have hfz52_1 := blk_frozen BK684.out 1
          have hnb53 := NB670_656.out
          have hnc53 := NB656_670.out
          have hnb54 := NB670_675.out
          have hnc54 := NB675_670.out
          have hcz55_0 : w41.cell? ⟨gb670, 0, none⟩ = some (.int .i64 t665) := (blk_cell BK670.out 0).trans rfl
          have hcz55_1 : w41.cell? ⟨gb670, 1, none⟩ = some (.slice Ao29 t666.length co29) := (blk_cell BK670.out 1).trans rfl
          have hfz55_0 := blk_frozen BK670.out 0
          have hfz55_1 := blk_frozen BK670.out 1
          go_wp2_with (first | ((with_reducible refine gate_callee (f := 16) rfl ?_); refine goesL_ (some 45) rfl rfl Tryd.func16 (by kernel_rfl) rfl #[.agg #[.int .i64 t679, .slice Ao46 t680.length co46], .agg #[.int .i64 t665, .slice Ao29 t666.length co29]] rfl (by (try simp only [List.map_toArray, List.map_cons, List.map_nil]); first | done | rfl | (simp only [List.length_drop, List.length_take]; rfl)) ?_; (with_reducible refine (laws_eqOrder.calls k t679 _ _ t680 t665 _ _ t666 true _ ?side1 ?side2 ?side3 ?side4 A47.out).mono ?_); (case side1 => refine (Kd.R_reads' (e := 3) (base := w.heap.size) (ok := fun k_ => (((((True ∧ some k_ ≠ (.slice Ao23 t659.length co23 : Value).ownBlock) ∧ some k_ ≠ (.slice Ao24 t662.length co24 : Value).ownBlock) ∧ some k_ ≠ (.slice Ao29 t666.length co29 : Value).ownBlock) ∧ some k_ ≠ (.slice Ao36 t672.length co36 : Value).ownBlock) ∧ some k_ ≠ (.slice Ao39 t676.length co39 : Value).ownBlock)) (n := t680.length) (c := co46) ?_).2.2; exact (by (with_reducible repeat (first | apply Kd.R_alloc | apply Kd.R_drewN | apply Kd.R_drew)); exact (Kd.R_mono (Kd.R_far (p := ⟨gb684, 1, none⟩) (Kd.R_far (p := ⟨gb684, 0, none⟩) (Kd.R_types HO682.out BK684.out (by decide)) (fun _ hk => hk.2) (.int .i64 t679)) (fun _ hk => hk.2) (.slice Ao46 t680.length co46)) (fun _ h_ => h_.1)))); (case side2 => exact (Kd.R_reads' HO682.out).2.1); (case side3 => refine (Kd.R_reads' (e := 3) (base := w.heap.size) (ok := fun k_ => (((((True ∧ some k_ ≠ (.slice Ao23 t659.length co23 : Value).ownBlock) ∧ some k_ ≠ (.slice Ao24 t662.length co24 : Value).ownBlock) ∧ some k_ ≠ (.slice Ao36 t672.length co36 : Value).ownBlock) ∧ some k_ ≠ (.slice Ao39 t676.length co39 : Value).ownBlock) ∧ some k_ ≠ (.slice Ao46 t680.length co46 : Value).ownBlock)) (n := t666.length) (c := co29) ?_).2.2; exact (by (with_reducible repeat (first | apply Kd.R_alloc | apply Kd.R_drewN | apply Kd.R_drew)); exact (Kd.R_mono (Kd.R_far (p := ⟨gb684, 1, none⟩) (Kd.R_far (p := ⟨gb684, 0, none⟩) (Kd.R_types HO668.out BK684.out (by decide)) (fun _ hk => hk.2) (.int .i64 t679)) (fun _ hk => hk.2) (.slice Ao46 t680.length co46)) (fun _ h_ => h_.1)))); (case side4 => exact (Kd.R_reads' HO668.out).2.1); rintro e w56 ⟨rfl, hb⟩; refine ⟨_, rfl, ?_⟩; have n0_ := Aside0.mk (Kd.R_below (by (with_reducible repeat (first | apply Kd.R_alloc | apply Kd.R_drewN | apply Kd.R_drew)); exact (Kd.R_mono (Kd.R_far (p := ⟨gb684, 1, none⟩) (Kd.R_far (p := ⟨gb684, 0, none⟩) (Kd.R_types HO661.out BK684.out (by decide)) (fun _ hk => hk.2) (.int .i64 t679)) (fun _ hk => hk.2) (.slice Ao46 t680.length co46)) (fun _ h_ => h_.1))) hb); have n1_ := Aside0.mk (Kd.R_below (by (with_reducible repeat (first | apply Kd.R_alloc | apply Kd.R_drewN | apply Kd.R_drew)); exact (Kd.R_mono (Kd.R_far (p := ⟨gb684, 1, none⟩) (Kd.R_far (p := ⟨gb684, 0, none⟩) (Kd.R_types HO664.out BK684.out (by decide)) (fun _ hk => hk.2) (.int .i64 t679)) (fun _ hk => hk.2) (.slice Ao46 t680.length co46)) (fun _ h_ => h_.1))) hb); have n2_ := Aside0.mk (Kd.R_below (by (with_reducible repeat (first | apply Kd.R_alloc | apply Kd.R_drewN | apply Kd.R_drew)); exact (Kd.R_mono (Kd.R_far (p := ⟨gb684, 1, none⟩) (Kd.R_far (p := ⟨gb684, 0, none⟩) (Kd.R_types HO668.out BK684.out (by decide)) (fun _ hk => hk.2) (.int .i64 t679)) (fun _ hk => hk.2) (.slice Ao46 t680.length co46)) (fun _ h_ => h_.1))) hb); have n3_ := Aside0.mk (Kd.R_below (by (with_reducible repeat (first | apply Kd.R_alloc | apply Kd.R_drewN | apply Kd.R_drew)); exact (Kd.R_mono (Kd.R_far (p := ⟨gb684, 1, none⟩) (Kd.R_far (p := ⟨gb684, 0, none⟩) (Kd.R_types HO674.out BK684.out (by decide)) (fun _ hk => hk.2) (.int .i64 t679)) (fun _ hk => hk.2) (.slice Ao46 t680.length co46)) (fun _ h_ => h_.1))) hb); have n4_ := Aside0.mk (Kd.R_below (by (with_reducible repeat (first | apply Kd.R_alloc | apply Kd.R_drewN | apply Kd.R_drew)); exact (Kd.R_mono (Kd.R_far (p := ⟨gb684, 1, none⟩) (Kd.R_far (p := ⟨gb684, 0, none⟩) (Kd.R_types HO678.out BK684.out (by decide)) (fun _ hk => hk.2) (.int .i64 t679)) (fun _ hk => hk.2) (.slice Ao46 t680.length co46)) (fun _ h_ => h_.1))) hb); have n5_ := Aside0.mk (Kd.R_below (by (with_reducible repeat (first | apply Kd.R_alloc | apply Kd.R_drewN | apply Kd.R_drew)); exact (Kd.R_mono (Kd.R_far (p := ⟨gb684, 1, none⟩) (Kd.R_far (p := ⟨gb684, 0, none⟩) (Kd.R_types HO682.out BK684.out (by decide)) (fun _ hk => hk.2) (.int .i64 t679)) (fun _ hk => hk.2) (.slice Ao46 t680.length co46)) (fun _ h_ => h_.1))) hb); have n6_ := Aside0.mk (blk_below (g := gb656) (o := .cells #[.int .i64 a0_0, .slice A0_1 l0_1.length c0_1] 24 (0, 0)) (by (with_reducible repeat (first | refine blk_drewN ?_ _ | refine blk_drew ?_ | refine blk_alloc ?_ _)); refine blk_far ?_ NB656_684.out _; (with_reducible repeat (first | refine blk_drewN ?_ _ | refine blk_drew ?_ | refine blk_alloc ?_ _)); refine blk_far ?_ NB656_684.out _; (with_reducible repeat (first | refine blk_drewN ?_ _ | refine blk_drew ?_ | refine blk_alloc ?_ _)); exact BK656.out) hb); have n7_ := Aside0.mk (blk_below (g := gb670) (o := .cells #[.int .i64 t665, .slice Ao29 t666.length co29] 26 (0, 0)) (by (with_reducible repeat (first | refine blk_drewN ?_ _ | refine blk_drew ?_ | refine blk_alloc ?_ _)); refine blk_far ?_ NB670_684.out _; (with_reducible repeat (first | refine blk_drewN ?_ _ | refine blk_drew ?_ | refine blk_alloc ?_ _)); refine blk_far ?_ NB670_684.out _; (with_reducible repeat (first | refine blk_drewN ?_ _ | refine blk_drew ?_ | refine blk_alloc ?_ _)); exact BK670.out) hb); have n8_ := Aside0.mk (blk_below (g := gb675) (o := .cells #[.int .i64 t671, .slice Ao36 t672.length co36] 26 (0, 0)) (by (with_reducible repeat (first | refine blk_drewN ?_ _ | refine blk_drew ?_ | refine blk_alloc ?_ _)); refine blk_far ?_ NB675_684.out _; (with_reducible repeat (first | refine blk_drewN ?_ _ | refine blk_drew ?_ | refine blk_alloc ?_ _)); refine blk_far ?_ NB675_684.out _; (with_reducible repeat (first | refine blk_drewN ?_ _ | refine blk_drew ?_ | refine blk_alloc ?_ _)); exact BK675.out) hb); have n9_ := Aside0.mk (blk_below (g := gb684) (o := .cells #[.int .i64 t679, .slice Ao46 t680.length co46] 26 (0, 0)) (by (with_reducible repeat (first | refine blk_drewN ?_ _ | refine blk_drew ?_ | refine blk_alloc ?_ _)); refine blk_put (cs := #[.int .i64 t679, .slice none 0 0]) ?_ 1 _ rfl; (with_reducible repeat (first | refine blk_drewN ?_ _ | refine blk_drew ?_ | refine blk_alloc ?_ _)); refine blk_put (cs := #[.int .i64 0, .slice none 0 0]) ?_ 0 _ rfl; (with_reducible repeat (first | refine blk_drewN ?_ _ | refine blk_drew ?_ | refine blk_alloc ?_ _)); exact BK684.out) hb); have n10_ := Aside0.mk (below_step (by repeat (first | (with_reducible first | exact HB.out | apply below_alloc | apply pw_below_drewN | apply below_drew1 | refine below_set ?_ GE656.out | refine below_set ?_ GE670.out | refine below_set ?_ GE675.out | refine below_set ?_ GE684.out) | exact HB.out)) hb); clear HO661; clear HO664; clear HO668; clear HO674; clear HO678; clear HO682; clear BK656; clear BK670; clear BK675; clear BK684; clear HB; have HO661 := n0_; have HO664 := n1_; have HO668 := n2_; have HO674 := n3_; have HO678 := n4_; have HO682 := n5_; have BK656 := n6_; have BK670 := n7_; have BK675 := n8_; have BK684 := n9_; have HB := n10_; clear n0_ n1_ n2_ n3_ n4_ n5_ n6_ n7_ n8_ n9_ n10_; (try clear hb); (try clear hb2); (try clear hk); (try clear hi)))
          go_meet
          case rel => exact ⟨_, ((t683 != t669)), (by first | rfl | (simp; done) | (simp [*]; done)), H', ⟨by first | omega | exact Nat.le_refl _⟩, ⟨by (with_reducible repeat (first | apply Kd.R_alloc | apply Kd.R_drewN | apply Kd.R_drew)); exact Kd.R_mono HO678.out (fun _ hk => ⟨hk.1.1.2, ⟨hk.1.2, hk.2⟩⟩)⟩, ⟨by (with_reducible repeat (first | apply Kd.R_alloc | apply Kd.R_drewN | apply Kd.R_drew)); exact Kd.R_mono HO668.out (fun _ hk => ⟨hk.1.2, ⟨hk.1.1.2, hk.2⟩⟩)⟩, ⟨by (with_reducible repeat (first | apply Kd.R_alloc | apply Kd.R_drewN | apply Kd.R_drew)); exact Kd.R_mono HO674.out (fun _ hk => ⟨hk.1.2, ⟨hk.1.1.2, hk.2⟩⟩)⟩, ⟨by (with_reducible repeat (first | apply Kd.R_alloc | apply Kd.R_drewN | apply Kd.R_drew)); exact Kd.R_mono HO682.out (fun _ hk => ⟨hk.2, ⟨hk.1.1.2, hk.1.2⟩⟩)⟩, ⟨by (with_reducible repeat (first | refine blk_drewN ?_ _ | refine blk_drew ?_ | refine blk_alloc ?_ _)); exact BK656.out⟩, ⟨by (with_reducible repeat (first | refine blk_drewN ?_ _ | refine blk_drew ?_ | refine blk_alloc ?_ _)); exact BK670.out⟩, ⟨by (with_reducible repeat (first | refine blk_drewN ?_ _ | refine blk_drew ?_ | refine blk_alloc ?_ _)); exact BK675.out⟩, ⟨by (with_reducible repeat (first | refine blk_drewN ?_ _ | refine blk_drew ?_ | refine blk_alloc ?_ _)); exact BK684.out⟩, ⟨by repeat (first | (with_reducible first | exact HB.out | apply below_alloc | apply pw_below_drewN | apply below_drew1 | refine below_set ?_ GE656.out | refine below_set ?_ GE670.out | refine below_set ?_ GE675.out | refine below_set ?_ GE684.out) | exact HB.out)⟩⟩
        · replace c48 := Bool.eq_false_iff.mpr c48
          subst c48
          have H1 : (laws_FnExactRenameOf.j0 k l1 t669 t676 t683 true a0_0 l0_1 t665 t666 t671 t672 t679 t680) = some r := by rw [if_neg (show ¬ (false = true) by decide)] at H; exact H
          clear H
          have H := H1
          clear H1
          have H' := Aside0.mk H
          clear H
          have hnb57 := NB684_656.out
          have hnc57 := NB656_684.out
          have hnb58 := NB684_670.out
          have hnc58 := NB670_684.out
          have hnb59 := NB684_675.out
          have hnc59 := NB675_684.out
          have hcz60_0 : w41.cell? ⟨gb684, 0, none⟩ = some (.int .i64 0) := (blk_cell BK684.out 0).trans rfl
          have hcz60_1 : w41.cell? ⟨gb684, 1, none⟩ = some (.slice none 0 0) := (blk_cell BK684.out 1).trans rfl
          have hfz60_0 := blk_frozen BK684.out 0
          have hfz60_1 := blk_frozen BK684.out 1
          have hnb61 := NB670_656.out
          have hnc61 := NB656_670.out
          have hnb62 := NB670_675.out
          have hnc62 := NB675_670.out
          have hcz63_0 : w41.cell? ⟨gb670, 0, none⟩ = some (.int .i64 t665) := (blk_cell BK670.out 0).trans rfl
          have hcz63_1 : w41.cell? ⟨gb670, 1, none⟩ = some (.slice Ao29 t666.length co29) := (blk_cell BK670.out 1).trans rfl
          have hfz63_0 := blk_frozen BK670.out 0
          have hfz63_1 := blk_frozen BK670.out 1
          go_wp2_with (first | ((with_reducible refine gate_callee (f := 16) rfl ?_); refine goesL_ (some 45) rfl rfl Tryd.func16 (by kernel_rfl) rfl #[.agg #[.int .i64 t679, .slice Ao46 t680.length co46], .agg #[.int .i64 t665, .slice Ao29 t666.length co29]] rfl (by (try simp only [List.map_toArray, List.map_cons, List.map_nil]); first | done | rfl | (simp only [List.length_drop, List.length_take]; rfl)) ?_; (with_reducible refine (laws_eqOrder.calls k t679 _ _ t680 t665 _ _ t666 false _ ?side1 ?side2 ?side3 ?side4 A47.out).mono ?_); (case side1 => refine (Kd.R_reads' (e := 3) (base := w.heap.size) (ok := fun k_ => (((((True ∧ some k_ ≠ (.slice Ao23 t659.length co23 : Value).ownBlock) ∧ some k_ ≠ (.slice Ao24 t662.length co24 : Value).ownBlock) ∧ some k_ ≠ (.slice Ao29 t666.length co29 : Value).ownBlock) ∧ some k_ ≠ (.slice Ao36 t672.length co36 : Value).ownBlock) ∧ some k_ ≠ (.slice Ao39 t676.length co39 : Value).ownBlock)) (n := t680.length) (c := co46) ?_).2.2; exact (by (with_reducible repeat (first | apply Kd.R_alloc | apply Kd.R_drewN | apply Kd.R_drew)); exact (Kd.R_mono (Kd.R_far (p := ⟨gb684, 1, none⟩) (Kd.R_far (p := ⟨gb684, 0, none⟩) (Kd.R_types HO682.out BK684.out (by decide)) (fun _ hk => hk.2) (.int .i64 t679)) (fun _ hk => hk.2) (.slice Ao46 t680.length co46)) (fun _ h_ => h_.1)))); (case side2 => exact (Kd.R_reads' HO682.out).2.1); (case side3 => refine (Kd.R_reads' (e := 3) (base := w.heap.size) (ok := fun k_ => (((((True ∧ some k_ ≠ (.slice Ao23 t659.length co23 : Value).ownBlock) ∧ some k_ ≠ (.slice Ao24 t662.length co24 : Value).ownBlock) ∧ some k_ ≠ (.slice Ao36 t672.length co36 : Value).ownBlock) ∧ some k_ ≠ (.slice Ao39 t676.length co39 : Value).ownBlock) ∧ some k_ ≠ (.slice Ao46 t680.length co46 : Value).ownBlock)) (n := t666.length) (c := co29) ?_).2.2; exact (by (with_reducible repeat (first | apply Kd.R_alloc | apply Kd.R_drewN | apply Kd.R_drew)); exact (Kd.R_mono (Kd.R_far (p := ⟨gb684, 1, none⟩) (Kd.R_far (p := ⟨gb684, 0, none⟩) (Kd.R_types HO668.out BK684.out (by decide)) (fun _ hk => hk.2) (.int .i64 t679)) (fun _ hk => hk.2) (.slice Ao46 t680.length co46)) (fun _ h_ => h_.1)))); (case side4 => exact (Kd.R_reads' HO668.out).2.1); rintro e w64 ⟨rfl, hb⟩; refine ⟨_, rfl, ?_⟩; have n0_ := Aside0.mk (Kd.R_below (by (with_reducible repeat (first | apply Kd.R_alloc | apply Kd.R_drewN | apply Kd.R_drew)); exact (Kd.R_mono (Kd.R_far (p := ⟨gb684, 1, none⟩) (Kd.R_far (p := ⟨gb684, 0, none⟩) (Kd.R_types HO661.out BK684.out (by decide)) (fun _ hk => hk.2) (.int .i64 t679)) (fun _ hk => hk.2) (.slice Ao46 t680.length co46)) (fun _ h_ => h_.1))) hb); have n1_ := Aside0.mk (Kd.R_below (by (with_reducible repeat (first | apply Kd.R_alloc | apply Kd.R_drewN | apply Kd.R_drew)); exact (Kd.R_mono (Kd.R_far (p := ⟨gb684, 1, none⟩) (Kd.R_far (p := ⟨gb684, 0, none⟩) (Kd.R_types HO664.out BK684.out (by decide)) (fun _ hk => hk.2) (.int .i64 t679)) (fun _ hk => hk.2) (.slice Ao46 t680.length co46)) (fun _ h_ => h_.1))) hb); have n2_ := Aside0.mk (Kd.R_below (by (with_reducible repeat (first | apply Kd.R_alloc | apply Kd.R_drewN | apply Kd.R_drew)); exact (Kd.R_mono (Kd.R_far (p := ⟨gb684, 1, none⟩) (Kd.R_far (p := ⟨gb684, 0, none⟩) (Kd.R_types HO668.out BK684.out (by decide)) (fun _ hk => hk.2) (.int .i64 t679)) (fun _ hk => hk.2) (.slice Ao46 t680.length co46)) (fun _ h_ => h_.1))) hb); have n3_ := Aside0.mk (Kd.R_below (by (with_reducible repeat (first | apply Kd.R_alloc | apply Kd.R_drewN | apply Kd.R_drew)); exact (Kd.R_mono (Kd.R_far (p := ⟨gb684, 1, none⟩) (Kd.R_far (p := ⟨gb684, 0, none⟩) (Kd.R_types HO674.out BK684.out (by decide)) (fun _ hk => hk.2) (.int .i64 t679)) (fun _ hk => hk.2) (.slice Ao46 t680.length co46)) (fun _ h_ => h_.1))) hb); have n4_ := Aside0.mk (Kd.R_below (by (with_reducible repeat (first | apply Kd.R_alloc | apply Kd.R_drewN | apply Kd.R_drew)); exact (Kd.R_mono (Kd.R_far (p := ⟨gb684, 1, none⟩) (Kd.R_far (p := ⟨gb684, 0, none⟩) (Kd.R_types HO678.out BK684.out (by decide)) (fun _ hk => hk.2) (.int .i64 t679)) (fun _ hk => hk.2) (.slice Ao46 t680.length co46)) (fun _ h_ => h_.1))) hb); have n5_ := Aside0.mk (Kd.R_below (by (with_reducible repeat (first | apply Kd.R_alloc | apply Kd.R_drewN | apply Kd.R_drew)); exact (Kd.R_mono (Kd.R_far (p := ⟨gb684, 1, none⟩) (Kd.R_far (p := ⟨gb684, 0, none⟩) (Kd.R_types HO682.out BK684.out (by decide)) (fun _ hk => hk.2) (.int .i64 t679)) (fun _ hk => hk.2) (.slice Ao46 t680.length co46)) (fun _ h_ => h_.1))) hb); have n6_ := Aside0.mk (blk_below (g := gb656) (o := .cells #[.int .i64 a0_0, .slice A0_1 l0_1.length c0_1] 24 (0, 0)) (by (with_reducible repeat (first | refine blk_drewN ?_ _ | refine blk_drew ?_ | refine blk_alloc ?_ _)); refine blk_far ?_ NB656_684.out _; (with_reducible repeat (first | refine blk_drewN ?_ _ | refine blk_drew ?_ | refine blk_alloc ?_ _)); refine blk_far ?_ NB656_684.out _; (with_reducible repeat (first | refine blk_drewN ?_ _ | refine blk_drew ?_ | refine blk_alloc ?_ _)); exact BK656.out) hb); have n7_ := Aside0.mk (blk_below (g := gb670) (o := .cells #[.int .i64 t665, .slice Ao29 t666.length co29] 26 (0, 0)) (by (with_reducible repeat (first | refine blk_drewN ?_ _ | refine blk_drew ?_ | refine blk_alloc ?_ _)); refine blk_far ?_ NB670_684.out _; (with_reducible repeat (first | refine blk_drewN ?_ _ | refine blk_drew ?_ | refine blk_alloc ?_ _)); refine blk_far ?_ NB670_684.out _; (with_reducible repeat (first | refine blk_drewN ?_ _ | refine blk_drew ?_ | refine blk_alloc ?_ _)); exact BK670.out) hb); have n8_ := Aside0.mk (blk_below (g := gb675) (o := .cells #[.int .i64 t671, .slice Ao36 t672.length co36] 26 (0, 0)) (by (with_reducible repeat (first | refine blk_drewN ?_ _ | refine blk_drew ?_ | refine blk_alloc ?_ _)); refine blk_far ?_ NB675_684.out _; (with_reducible repeat (first | refine blk_drewN ?_ _ | refine blk_drew ?_ | refine blk_alloc ?_ _)); refine blk_far ?_ NB675_684.out _; (with_reducible repeat (first | refine blk_drewN ?_ _ | refine blk_drew ?_ | refine blk_alloc ?_ _)); exact BK675.out) hb); have n9_ := Aside0.mk (blk_below (g := gb684) (o := .cells #[.int .i64 t679, .slice Ao46 t680.length co46] 26 (0, 0)) (by (with_reducible repeat (first | refine blk_drewN ?_ _ | refine blk_drew ?_ | refine blk_alloc ?_ _)); refine blk_put (cs := #[.int .i64 t679, .slice none 0 0]) ?_ 1 _ rfl; (with_reducible repeat (first | refine blk_drewN ?_ _ | refine blk_drew ?_ | refine blk_alloc ?_ _)); refine blk_put (cs := #[.int .i64 0, .slice none 0 0]) ?_ 0 _ rfl; (with_reducible repeat (first | refine blk_drewN ?_ _ | refine blk_drew ?_ | refine blk_alloc ?_ _)); exact BK684.out) hb); have n10_ := Aside0.mk (below_step (by repeat (first | (with_reducible first | exact HB.out | apply below_alloc | apply pw_below_drewN | apply below_drew1 | refine below_set ?_ GE656.out | refine below_set ?_ GE670.out | refine below_set ?_ GE675.out | refine below_set ?_ GE684.out) | exact HB.out)) hb); clear HO661; clear HO664; clear HO668; clear HO674; clear HO678; clear HO682; clear BK656; clear BK670; clear BK675; clear BK684; clear HB; have HO661 := n0_; have HO664 := n1_; have HO668 := n2_; have HO674 := n3_; have HO678 := n4_; have HO682 := n5_; have BK656 := n6_; have BK670 := n7_; have BK675 := n8_; have BK684 := n9_; have HB := n10_; clear n0_ n1_ n2_ n3_ n4_ n5_ n6_ n7_ n8_ n9_ n10_; (try clear hb); (try clear hb2); (try clear hk); (try clear hi)))
          go_meet
          case rel => exact ⟨_, (true), (by first | rfl | (simp; done) | (simp [*]; done)), H', ⟨by first | omega | exact Nat.le_refl _⟩, ⟨by (with_reducible repeat (first | apply Kd.R_alloc | apply Kd.R_drewN | apply Kd.R_drew)); exact Kd.R_mono HO678.out (fun _ hk => ⟨hk.1.1.2, ⟨hk.1.2, hk.2⟩⟩)⟩, ⟨by (with_reducible repeat (first | apply Kd.R_alloc | apply Kd.R_drewN | apply Kd.R_drew)); exact Kd.R_mono HO668.out (fun _ hk => ⟨hk.1.2, ⟨hk.1.1.2, hk.2⟩⟩)⟩, ⟨by (with_reducible repeat (first | apply Kd.R_alloc | apply Kd.R_drewN | apply Kd.R_drew)); exact Kd.R_mono HO674.out (fun _ hk => ⟨hk.1.2, ⟨hk.1.1.2, hk.2⟩⟩)⟩, ⟨by (with_reducible repeat (first | apply Kd.R_alloc | apply Kd.R_drewN | apply Kd.R_drew)); exact Kd.R_mono HO682.out (fun _ hk => ⟨hk.2, ⟨hk.1.1.2, hk.1.2⟩⟩)⟩, ⟨by (with_reducible repeat (first | refine blk_drewN ?_ _ | refine blk_drew ?_ | refine blk_alloc ?_ _)); exact BK656.out⟩, ⟨by (with_reducible repeat (first | refine blk_drewN ?_ _ | refine blk_drew ?_ | refine blk_alloc ?_ _)); exact BK670.out⟩, ⟨by (with_reducible repeat (first | refine blk_drewN ?_ _ | refine blk_drew ?_ | refine blk_alloc ?_ _)); exact BK675.out⟩, ⟨by (with_reducible repeat (first | refine blk_drewN ?_ _ | refine blk_drew ?_ | refine blk_alloc ?_ _)); exact BK684.out⟩, ⟨by repeat (first | (with_reducible first | exact HB.out | apply below_alloc | apply pw_below_drewN | apply below_drew1 | refine below_set ?_ GE656.out | refine below_set ?_ GE670.out | refine below_set ?_ GE675.out | refine below_set ?_ GE684.out) | exact HB.out)⟩⟩
      case rest =>
        clear HC16
        try clear c1
        try clear c2
        try clear p2
        try clear c3
        try clear c3b0
        try clear c3b1
        try clear c4
        try clear c5
        try clear c6
        try clear c6b0
        try clear c11
        try clear c12
        try clear c13
        try clear c14
        try clear c15
        try clear c16
        try clear c27
        try clear c33
        try clear c34
        try clear c42
        try clear c43
        try clear c44
        try clear c48
        try clear c49
        try clear c50
        try clear c51
        try clear c53
        try clear c54
        try clear c57
        try clear c58
        try clear c59
        try clear c61
        try clear c62
        try clear hcz18_0
        try clear hcz18_1
        try clear hcz20_0
        try clear hcz20_1
        try clear hcz28_0
        try clear hcz28_1
        try clear hcz30_0
        try clear hcz30_1
        try clear hcz35_0
        try clear hcz35_1
        try clear hcz38_0
        try clear hcz38_1
        try clear hcz45_0
        try clear hcz45_1
        try clear hcz52_0
        try clear hcz52_1
        try clear hcz55_0
        try clear hcz55_1
        try clear hcz60_0
        try clear hcz60_1
        try clear hcz63_0
        try clear hcz63_1
        try clear hcz8_0
        try clear hcz8_1
        try clear hfz18_0
        try clear hfz18_1
        try clear hfz20_0
        try clear hfz20_1
        try clear hfz28_0
        try clear hfz28_1
        try clear hfz30_0
        try clear hfz30_1
        try clear hfz35_0
        try clear hfz35_1
        try clear hfz38_0
        try clear hfz38_1
        try clear hfz45_0
        try clear hfz45_1
        try clear hfz52_0
        try clear hfz52_1
        try clear hfz55_0
        try clear hfz55_1
        try clear hfz60_0
        try clear hfz60_1
        try clear hfz63_0
        try clear hfz63_1
        try clear hfz8_0
        try clear hfz8_1
        obtain ⟨kq, x51_15, rfl, HA, HJ15, HO_9, HO_671001, HO_676001, HO_685001, BK656, BK670, BK675, BK684, HB⟩ := hcut
        cases kq with
        | zero => exact absurd HA.out (by simp [laws_FnExactRenameOf.j0])
        | succ kj15 =>
          have H := HA.out
          clear HA
          simp only [laws_FnExactRenameOf.j0] at H
          by_cases c65 : x51_15 = true
          · subst c65
            have H1 : (some false) = some r := by rw [if_pos rfl] at H; exact H
            clear H
            have H := H1
            clear H1
            obtain rfl := Option.some.inj H
            go_wp2
            go_ret
            exact ⟨by first | rfl | (simp [errW_none, errW_some] <;> rfl) | (simp [*, errW_none, errW_some] <;> rfl), by repeat (first | (with_reducible first | exact HB.out | apply below_alloc | apply pw_below_drewN | apply below_drew1 | refine below_set ?_ GE656.out | refine below_set ?_ GE670.out | refine below_set ?_ GE675.out | refine below_set ?_ GE684.out) | exact HB.out)⟩
          · replace c65 := Bool.eq_false_iff.mpr c65
            subst c65
            have H1 : ((laws_toOrder.f kj15 a0_0 l0_1).bind fun bt686 => ((laws_eqOrder.f kj15 t671 t672 bt686.1 bt686.2).bind fun t690 => (if t690 = true then ((laws_toIntS.f kj15 l1).bind fun t691 => ((laws_eqIntS.f kj15 t676 t691).bind fun t694 => (if t694 = true then ((laws_markOrder.f kj15 t671 t672 1).bind fun bt695 => ((laws_markIntS.f kj15 t676 bt695.1).bind fun bt697 => (if bt697.1 < 0 then (laws_FnExactRenameOf.j1 kj15 l1 t669 true a0_0 l0_1 t665 t666 t679 t680) else ((laws_eqOrder.f kj15 t679 t680 t665 t666).bind fun t699 => (if t699 = true then (laws_FnExactRenameOf.j1 kj15 l1 t669 (t683 != t669) a0_0 l0_1 t665 t666 t679 t680) else (laws_FnExactRenameOf.j1 kj15 l1 t669 true a0_0 l0_1 t665 t666 t679 t680)))))) else (some false)))) else (some false)))) = some r := by rw [if_neg (show ¬ (false = true) by decide)] at H; exact H
            clear H
            have H := H1
            clear H1
            replace H := Option.bind_eq_some_iff.mp H
            obtain ⟨⟨t686, t687⟩, A660, H⟩ := H
            replace H : ((laws_eqOrder.f kj15 t671 t672 t686 t687).bind fun t690 => (if t690 = true then ((laws_toIntS.f kj15 l1).bind fun t691 => ((laws_eqIntS.f kj15 t676 t691).bind fun t694 => (if t694 = true then ((laws_markOrder.f kj15 t671 t672 1).bind fun bt695 => ((laws_markIntS.f kj15 t676 bt695.1).bind fun bt697 => (if bt697.1 < 0 then (laws_FnExactRenameOf.j1 kj15 l1 t669 true a0_0 l0_1 t665 t666 t679 t680) else ((laws_eqOrder.f kj15 t679 t680 t665 t666).bind fun t699 => (if t699 = true then (laws_FnExactRenameOf.j1 kj15 l1 t669 (t683 != t669) a0_0 l0_1 t665 t666 t679 t680) else (laws_FnExactRenameOf.j1 kj15 l1 t669 true a0_0 l0_1 t665 t666 t679 t680)))))) else (some false)))) else (some false))) = some r := H
            have A66 := Aside0.mk A660
            clear A660
            replace H := Option.bind_eq_some_iff.mp H
            obtain ⟨t690, A670, H⟩ := H
            replace H : (if t690 = true then ((laws_toIntS.f kj15 l1).bind fun t691 => ((laws_eqIntS.f kj15 t676 t691).bind fun t694 => (if t694 = true then ((laws_markOrder.f kj15 t671 t672 1).bind fun bt695 => ((laws_markIntS.f kj15 t676 bt695.1).bind fun bt697 => (if bt697.1 < 0 then (laws_FnExactRenameOf.j1 kj15 l1 t669 true a0_0 l0_1 t665 t666 t679 t680) else ((laws_eqOrder.f kj15 t679 t680 t665 t666).bind fun t699 => (if t699 = true then (laws_FnExactRenameOf.j1 kj15 l1 t669 (t683 != t669) a0_0 l0_1 t665 t666 t679 t680) else (laws_FnExactRenameOf.j1 kj15 l1 t669 true a0_0 l0_1 t665 t666 t679 t680)))))) else (some false)))) else (some false)) = some r := H
            have A67 := Aside0.mk A670
            clear A670
            by_cases c68 : t690 = true
            · subst c68
              have H1 : ((laws_toIntS.f kj15 l1).bind fun t691 => ((laws_eqIntS.f kj15 t676 t691).bind fun t694 => (if t694 = true then ((laws_markOrder.f kj15 t671 t672 1).bind fun bt695 => ((laws_markIntS.f kj15 t676 bt695.1).bind fun bt697 => (if bt697.1 < 0 then (laws_FnExactRenameOf.j1 kj15 l1 t669 true a0_0 l0_1 t665 t666 t679 t680) else ((laws_eqOrder.f kj15 t679 t680 t665 t666).bind fun t699 => (if t699 = true then (laws_FnExactRenameOf.j1 kj15 l1 t669 (t683 != t669) a0_0 l0_1 t665 t666 t679 t680) else (laws_FnExactRenameOf.j1 kj15 l1 t669 true a0_0 l0_1 t665 t666 t679 t680)))))) else (some false)))) = some r := by rw [if_pos rfl] at H; exact H
              clear H
              have H := H1
              clear H1
              replace H := Option.bind_eq_some_iff.mp H
              obtain ⟨t691, A690, H⟩ := H
              replace H : ((laws_eqIntS.f kj15 t676 t691).bind fun t694 => (if t694 = true then ((laws_markOrder.f kj15 t671 t672 1).bind fun bt695 => ((laws_markIntS.f kj15 t676 bt695.1).bind fun bt697 => (if bt697.1 < 0 then (laws_FnExactRenameOf.j1 kj15 l1 t669 true a0_0 l0_1 t665 t666 t679 t680) else ((laws_eqOrder.f kj15 t679 t680 t665 t666).bind fun t699 => (if t699 = true then (laws_FnExactRenameOf.j1 kj15 l1 t669 (t683 != t669) a0_0 l0_1 t665 t666 t679 t680) else (laws_FnExactRenameOf.j1 kj15 l1 t669 true a0_0 l0_1 t665 t666 t679 t680)))))) else (some false))) = some r := H
              have A69 := Aside0.mk A690
              clear A690
              replace H := Option.bind_eq_some_iff.mp H
              obtain ⟨t694, A700, H⟩ := H
              replace H : (if t694 = true then ((laws_markOrder.f kj15 t671 t672 1).bind fun bt695 => ((laws_markIntS.f kj15 t676 bt695.1).bind fun bt697 => (if bt697.1 < 0 then (laws_FnExactRenameOf.j1 kj15 l1 t669 true a0_0 l0_1 t665 t666 t679 t680) else ((laws_eqOrder.f kj15 t679 t680 t665 t666).bind fun t699 => (if t699 = true then (laws_FnExactRenameOf.j1 kj15 l1 t669 (t683 != t669) a0_0 l0_1 t665 t666 t679 t680) else (laws_FnExactRenameOf.j1 kj15 l1 t669 true a0_0 l0_1 t665 t666 t679 t680)))))) else (some false)) = some r := H
              have A70 := Aside0.mk A700
              clear A700
              by_cases c71 : t694 = true
              · subst c71
                have H1 : ((laws_markOrder.f kj15 t671 t672 1).bind fun bt695 => ((laws_markIntS.f kj15 t676 bt695.1).bind fun bt697 => (if bt697.1 < 0 then (laws_FnExactRenameOf.j1 kj15 l1 t669 true a0_0 l0_1 t665 t666 t679 t680) else ((laws_eqOrder.f kj15 t679 t680 t665 t666).bind fun t699 => (if t699 = true then (laws_FnExactRenameOf.j1 kj15 l1 t669 (t683 != t669) a0_0 l0_1 t665 t666 t679 t680) else (laws_FnExactRenameOf.j1 kj15 l1 t669 true a0_0 l0_1 t665 t666 t679 t680)))))) = some r := by rw [if_pos rfl] at H; exact H
                clear H
                have H := H1
                clear H1
                replace H := Option.bind_eq_some_iff.mp H
                obtain ⟨⟨t695, t696⟩, A720, H⟩ := H
                replace H : ((laws_markIntS.f kj15 t676 t695).bind fun bt697 => (if bt697.1 < 0 then (laws_FnExactRenameOf.j1 kj15 l1 t669 true a0_0 l0_1 t665 t666 t679 t680) else ((laws_eqOrder.f kj15 t679 t680 t665 t666).bind fun t699 => (if t699 = true then (laws_FnExactRenameOf.j1 kj15 l1 t669 (t683 != t669) a0_0 l0_1 t665 t666 t679 t680) else (laws_FnExactRenameOf.j1 kj15 l1 t669 true a0_0 l0_1 t665 t666 t679 t680))))) = some r := H
                have A72 := Aside0.mk A720
                clear A720
                replace H := Option.bind_eq_some_iff.mp H
                obtain ⟨⟨t697, t698⟩, A730, H⟩ := H
                replace H : (if t697 < 0 then (laws_FnExactRenameOf.j1 kj15 l1 t669 true a0_0 l0_1 t665 t666 t679 t680) else ((laws_eqOrder.f kj15 t679 t680 t665 t666).bind fun t699 => (if t699 = true then (laws_FnExactRenameOf.j1 kj15 l1 t669 (t683 != t669) a0_0 l0_1 t665 t666 t679 t680) else (laws_FnExactRenameOf.j1 kj15 l1 t669 true a0_0 l0_1 t665 t666 t679 t680)))) = some r := H
                have A73 := Aside0.mk A730
                clear A730
                have HC74 := Aside0.mk H
                clear H
                try go_wp2
                have n0_ := Aside0.mk (Kd.R_drew HO_9.out)
                have n1_ := Aside0.mk (Kd.R_drew HO_671001.out)
                have n2_ := Aside0.mk (Kd.R_drew HO_676001.out)
                have n3_ := Aside0.mk (Kd.R_drew HO_685001.out)
                have n4_ := Aside0.mk (blk_drew BK656.out)
                have n5_ := Aside0.mk (blk_drew BK670.out)
                have n6_ := Aside0.mk (blk_drew BK675.out)
                have n7_ := Aside0.mk (blk_drew BK684.out)
                have n8_ := Aside0.mk (below_drew1 HB.out)
                clear HO_9
                clear HO_671001
                clear HO_676001
                clear HO_685001
                clear BK656
                clear BK670
                clear BK675
                clear BK684
                clear HB
                have HO_9 := n0_
                have HO_671001 := n1_
                have HO_676001 := n2_
                have HO_685001 := n3_
                have BK656 := n4_
                have BK670 := n5_
                have BK675 := n6_
                have BK684 := n7_
                have HB := n8_
                clear n0_ n1_ n2_ n3_ n4_ n5_ n6_ n7_ n8_
                refine start_ (n := 5) (S := fun w' => w'.cell? ⟨gb675, 0, none⟩ = some (.int .i64 t671) ∧ w'.cell? ⟨gb675, 1, none⟩ = some (.slice Ao36 t672.length co36) ∧ w'.cell? ⟨gb656, 0, none⟩ = some (.int .i64 a0_0) ∧ w'.cell? ⟨gb656, 1, none⟩ = some (.slice A0_1 l0_1.length c0_1)) (ds := []) #[false, false, false, false, false] (by kernel_rfl) rfl rfl ⟨(blk_cell BK675.out 0).trans rfl, (blk_cell BK675.out 1).trans rfl, (blk_cell BK656.out 0).trans rfl, (blk_cell BK656.out 1).trans rfl⟩ (fun hHeld => ?_)
                generalize wc.drew = w75 at HO_9 HO_671001 HO_676001 HO_685001 BK656 BK670 BK675 BK684 HB hHeld ⊢
                refine take_ (i := 0) (N := some 52) (v := ?_) (a' := ?_) #[true, false, false, false, false] rfl rfl (by kernel_rfl) (fun _ _ _ h => h) (Or.inl ⟨by rfl, ?_⟩) hHeld ?_ ?_
                rotate_left
                · rintro w' ⟨s0, s1, s2, s3⟩
                  go_simp
                  with_reducible rfl
                rotate_left
                · simp only [Act.put, List.setIfInBounds_toArray, List.set_cons_zero, List.set_cons_succ, i64_w, i32_w]
                  rfl
                refine take_ (i := 1) (N := some 53) (v := ?_) (a' := ?_) #[true, true, false, false, false] rfl rfl (by kernel_rfl) (fun _ _ _ h => h) (Or.inl ⟨by rfl, ?_⟩) hHeld ?_ ?_
                rotate_left
                · rintro w' ⟨s0, s1, s2, s3⟩
                  go_simp
                  with_reducible rfl
                rotate_left
                · simp only [Act.put, List.setIfInBounds_toArray, List.set_cons_zero, List.set_cons_succ, i64_w, i32_w]
                  rfl
                refine one_ (i := 2) (N := some 54) #[true, true, true, false, false] rfl rfl (by kernel_rfl) (by decide) (fun K hK => ?_)
                refine goes_ Tryd.func13 (by kernel_rfl) rfl #[.agg #[.int .i64 a0_0, .slice A0_1 l0_1.length c0_1]] (by rfl) rfl rfl (by (try simp only [List.map_toArray, List.map_cons, List.map_nil]); first | done | rfl | (simp only [List.length_drop, List.length_take]; rfl)) ?_
                with_reducible refine (laws_toOrder.calls kj15 a0_0 _ _ l0_1 t686 t687 _ ?side1 ?side2 A66.out).mono ?_
                (case side1 => repeat (first | exact (Kd.C_below HR0_1.out HB.out) | (with_reducible refine Kd.C_alloc ?_ _) | (with_reducible refine Kd.C_drewN ?_ _) | (with_reducible refine Kd.C_drew ?_)))
                (case side2 => exact HC0_1.out)
                rintro e w76 ⟨v688, rfl, ho0, hb⟩
                refine ⟨_, rfl, ?_⟩
                have n0_ := Aside0.mk (Kd.R_elder' (by (with_reducible repeat (first | apply Kd.R_alloc | apply Kd.R_drewN | apply Kd.R_drew)); exact HO_9.out) (Kd.R_base ho0) hb)
                have n1_ := Aside0.mk (Kd.R_elder' (by (with_reducible repeat (first | apply Kd.R_alloc | apply Kd.R_drewN | apply Kd.R_drew)); exact HO_671001.out) (Kd.R_base ho0) hb)
                have n2_ := Aside0.mk (Kd.R_elder' (by (with_reducible repeat (first | apply Kd.R_alloc | apply Kd.R_drewN | apply Kd.R_drew)); exact HO_676001.out) (Kd.R_base ho0) hb)
                have n3_ := Aside0.mk (Kd.R_elder' (by (with_reducible repeat (first | apply Kd.R_alloc | apply Kd.R_drewN | apply Kd.R_drew)); exact HO_685001.out) (Kd.R_base ho0) hb)
                have n4_ := Aside0.mk (Kd.R_lower (Kd.R_new' (Kd.R_new' (Kd.R_new' (Kd.R_new' ho0 (Kd.R_lt (by (with_reducible repeat (first | apply Kd.R_alloc | apply Kd.R_drewN | apply Kd.R_drew)); exact HO_9.out))) (Kd.R_lt (by (with_reducible repeat (first | apply Kd.R_alloc | apply Kd.R_drewN | apply Kd.R_drew)); exact HO_671001.out))) (Kd.R_lt (by (with_reducible repeat (first | apply Kd.R_alloc | apply Kd.R_drewN | apply Kd.R_drew)); exact HO_676001.out))) (Kd.R_lt (by (with_reducible repeat (first | apply Kd.R_alloc | apply Kd.R_drewN | apply Kd.R_drew)); exact HO_685001.out))) (below_size (by repeat (first | (with_reducible first | exact HB.out | apply below_alloc | apply pw_below_drewN | apply below_drew1 | refine below_set ?_ GE656.out | refine below_set ?_ GE670.out | refine below_set ?_ GE675.out | refine below_set ?_ GE684.out) | exact HB.out))))
                have n5_ := Aside0.mk (blk_below (g := gb656) (o := .cells #[.int .i64 a0_0, .slice A0_1 l0_1.length c0_1] 24 (0, 0)) (by (with_reducible repeat (first | refine blk_drewN ?_ _ | refine blk_drew ?_ | refine blk_alloc ?_ _)); exact BK656.out) hb)
                have n6_ := Aside0.mk (blk_below (g := gb670) (o := .cells #[.int .i64 t665, .slice Ao29 t666.length co29] 26 (0, 0)) (by (with_reducible repeat (first | refine blk_drewN ?_ _ | refine blk_drew ?_ | refine blk_alloc ?_ _)); exact BK670.out) hb)
                have n7_ := Aside0.mk (blk_below (g := gb675) (o := .cells #[.int .i64 t671, .slice Ao36 t672.length co36] 26 (0, 0)) (by (with_reducible repeat (first | refine blk_drewN ?_ _ | refine blk_drew ?_ | refine blk_alloc ?_ _)); exact BK675.out) hb)
                have n8_ := Aside0.mk (blk_below (g := gb684) (o := .cells #[.int .i64 t679, .slice Ao46 t680.length co46] 26 (0, 0)) (by (with_reducible repeat (first | refine blk_drewN ?_ _ | refine blk_drew ?_ | refine blk_alloc ?_ _)); exact BK684.out) hb)
                have n9_ := Aside0.mk (below_step (by repeat (first | (with_reducible first | exact HB.out | apply below_alloc | apply pw_below_drewN | apply below_drew1 | refine below_set ?_ GE656.out | refine below_set ?_ GE670.out | refine below_set ?_ GE675.out | refine below_set ?_ GE684.out) | exact HB.out)) hb)
                clear HO_9
                clear HO_671001
                clear HO_676001
                clear HO_685001
                clear BK656
                clear BK670
                clear BK675
                clear BK684
                clear HB
                have HO_9 := n0_
                have HO_671001 := n1_
                have HO_676001 := n2_
                have HO_685001 := n3_
                have HO689 := n4_
                have BK656 := n5_
                have BK670 := n6_
                have BK675 := n7_
                have BK684 := n8_
                have HB := n9_
                clear n0_ n1_ n2_ n3_ n4_ n5_ n6_ n7_ n8_ n9_
                (try clear hb)
                (try clear hb2)
                (try clear hk)
                (try clear hi)
                (try clear ho0)
                obtain ⟨Ao77, co77, eo77⟩ := Kd.R_slice HO689.out
                (first | subst eo77 | (injection eo77 with f1_ f2_ f3_; have f4_ := f1_.symm; have f5_ := f3_.symm; clear f1_ f2_ f3_; subst f4_; subst f5_))
                refine hK.out _ _ ⟨(blk_cell BK675.out 0).trans rfl, (blk_cell BK675.out 1).trans rfl, (blk_cell BK656.out 0).trans rfl, (blk_cell BK656.out 1).trans rfl⟩ (fun hHeld => ?_)
                clear hK K
                refine norm_ (a' := ?_) ?_ ?_
                rotate_left
                · show Act.put _ (some 54) _ = _
                  simp only [Act.put, List.setIfInBounds_toArray, List.set_cons_zero, List.set_cons_succ, i64_w, i32_w]
                  rfl
                refine one_ (i := 3) (N := some 55) #[true, true, true, true, false] rfl rfl (by kernel_rfl) (by decide) (fun K hK => ?_)
                refine goes_ Tryd.func16 (by kernel_rfl) rfl #[.agg #[.int .i64 t671, .slice Ao36 t672.length co36], .agg #[.int .i64 t686, .slice Ao77 t687.length co77]] (by rfl) rfl rfl (by (try simp only [List.map_toArray, List.map_cons, List.map_nil]); first | done | rfl | (simp only [List.length_drop, List.length_take]; rfl)) ?_
                with_reducible refine (laws_eqOrder.calls kj15 t671 _ _ t672 t686 _ _ t687 true _ ?side1 ?side2 ?side3 ?side4 A67.out).mono ?_
                (case side1 => repeat (first | exact (Kd.R_reads' HO_676001.out).2.2 | (with_reducible refine Kd.C_alloc ?_ _) | (with_reducible refine Kd.C_drewN ?_ _) | (with_reducible refine Kd.C_drew ?_)))
                (case side2 => exact (Kd.R_reads' HO_676001.out).2.1)
                (case side3 => repeat (first | exact (Kd.R_reads' HO689.out).2.2 | (with_reducible refine Kd.C_alloc ?_ _) | (with_reducible refine Kd.C_drewN ?_ _) | (with_reducible refine Kd.C_drew ?_)))
                (case side4 => exact (Kd.R_reads' HO689.out).2.1)
                rintro e w78 ⟨rfl, hb⟩
                refine ⟨_, rfl, ?_⟩
                have n0_ := Aside0.mk (Kd.R_below (by (with_reducible repeat (first | apply Kd.R_alloc | apply Kd.R_drewN | apply Kd.R_drew)); exact HO_9.out) hb)
                have n1_ := Aside0.mk (Kd.R_below (by (with_reducible repeat (first | apply Kd.R_alloc | apply Kd.R_drewN | apply Kd.R_drew)); exact HO_671001.out) hb)
                have n2_ := Aside0.mk (Kd.R_below (by (with_reducible repeat (first | apply Kd.R_alloc | apply Kd.R_drewN | apply Kd.R_drew)); exact HO_676001.out) hb)
                have n3_ := Aside0.mk (Kd.R_below (by (with_reducible repeat (first | apply Kd.R_alloc | apply Kd.R_drewN | apply Kd.R_drew)); exact HO_685001.out) hb)
                have n4_ := Aside0.mk (Kd.R_below (by (with_reducible repeat (first | apply Kd.R_alloc | apply Kd.R_drewN | apply Kd.R_drew)); exact HO689.out) hb)
                have n5_ := Aside0.mk (blk_below (g := gb656) (o := .cells #[.int .i64 a0_0, .slice A0_1 l0_1.length c0_1] 24 (0, 0)) (by (with_reducible repeat (first | refine blk_drewN ?_ _ | refine blk_drew ?_ | refine blk_alloc ?_ _)); exact BK656.out) hb)
                have n6_ := Aside0.mk (blk_below (g := gb670) (o := .cells #[.int .i64 t665, .slice Ao29 t666.length co29] 26 (0, 0)) (by (with_reducible repeat (first | refine blk_drewN ?_ _ | refine blk_drew ?_ | refine blk_alloc ?_ _)); exact BK670.out) hb)
                have n7_ := Aside0.mk (blk_below (g := gb675) (o := .cells #[.int .i64 t671, .slice Ao36 t672.length co36] 26 (0, 0)) (by (with_reducible repeat (first | refine blk_drewN ?_ _ | refine blk_drew ?_ | refine blk_alloc ?_ _)); exact BK675.out) hb)
                have n8_ := Aside0.mk (blk_below (g := gb684) (o := .cells #[.int .i64 t679, .slice Ao46 t680.length co46] 26 (0, 0)) (by (with_reducible repeat (first | refine blk_drewN ?_ _ | refine blk_drew ?_ | refine blk_alloc ?_ _)); exact BK684.out) hb)
                have n9_ := Aside0.mk (below_step (by repeat (first | (with_reducible first | exact HB.out | apply below_alloc | apply pw_below_drewN | apply below_drew1 | refine below_set ?_ GE656.out | refine below_set ?_ GE670.out | refine below_set ?_ GE675.out | refine below_set ?_ GE684.out) | exact HB.out)) hb)
                clear HO_9
                clear HO_671001
                clear HO_676001
                clear HO_685001
                clear HO689
                clear BK656
                clear BK670
                clear BK675
                clear BK684
                clear HB
                have HO_9 := n0_
                have HO_671001 := n1_
                have HO_676001 := n2_
                have HO_685001 := n3_
                have HO689 := n4_
                have BK656 := n5_
                have BK670 := n6_
                have BK675 := n7_
                have BK684 := n8_
                have HB := n9_
                clear n0_ n1_ n2_ n3_ n4_ n5_ n6_ n7_ n8_ n9_
                (try clear hb)
                (try clear hb2)
                (try clear hk)
                (try clear hi)
                refine hK.out _ _ ⟨(blk_cell BK675.out 0).trans rfl, (blk_cell BK675.out 1).trans rfl, (blk_cell BK656.out 0).trans rfl, (blk_cell BK656.out 1).trans rfl⟩ (fun hHeld => ?_)
                clear hK K
                refine norm_ (a' := ?_) ?_ ?_
                rotate_left
                · show Act.put _ (some 55) _ = _
                  simp only [Act.put, List.setIfInBounds_toArray, List.set_cons_zero, List.set_cons_succ, i64_w, i32_w]
                  rfl
                refine pure_ (i := 4) (N := some 56) (v := ?_) (a' := ?_) #[true, true, true, true, true] rfl rfl (by kernel_rfl) (fun _ _ _ h => h) (Or.inl ⟨by rfl, ?_⟩) ?_ ?_
                rotate_left
                · intro w'
                  go_simp
                  with_reducible rfl
                rotate_left
                · simp only [Act.put, List.setIfInBounds_toArray, List.set_cons_zero, List.set_cons_succ, i64_w, i32_w]
                  rfl
                refine done_ (by kernel_rfl) ?_
                go_upto_region 20 with (first | ((with_reducible refine gate_callee (f := 14) rfl ?_); refine goesL_ (some 59) rfl rfl Tryd.func14 (by kernel_rfl) rfl #[.slice A1 l1.length c1] rfl (by (try simp only [List.map_toArray, List.map_cons, List.map_nil]); first | done | rfl | (simp only [List.length_drop, List.length_take]; rfl)) ?_; (with_reducible refine (laws_toIntS.calls kj15 _ _ l1 t691 _ ?side1 ?side2 A69.out).mono ?_); (case side1 => repeat (first | exact (Kd.C_below HR1.out HB.out) | (with_reducible refine Kd.C_alloc ?_ _) | (with_reducible refine Kd.C_drewN ?_ _) | (with_reducible refine Kd.C_drew ?_))); (case side2 => exact HC1.out); rintro e w79 ⟨v692, rfl, ho0, hb⟩; refine ⟨_, rfl, ?_⟩; have n0_ := Aside0.mk (Kd.R_elder' (by (with_reducible repeat (first | apply Kd.R_alloc | apply Kd.R_drewN | apply Kd.R_drew)); exact HO_9.out) (Kd.R_base ho0) hb); have n1_ := Aside0.mk (Kd.R_elder' (by (with_reducible repeat (first | apply Kd.R_alloc | apply Kd.R_drewN | apply Kd.R_drew)); exact HO_671001.out) (Kd.R_base ho0) hb); have n2_ := Aside0.mk (Kd.R_elder' (by (with_reducible repeat (first | apply Kd.R_alloc | apply Kd.R_drewN | apply Kd.R_drew)); exact HO_676001.out) (Kd.R_base ho0) hb); have n3_ := Aside0.mk (Kd.R_elder' (by (with_reducible repeat (first | apply Kd.R_alloc | apply Kd.R_drewN | apply Kd.R_drew)); exact HO_685001.out) (Kd.R_base ho0) hb); have n4_ := Aside0.mk (Kd.R_elder' (by (with_reducible repeat (first | apply Kd.R_alloc | apply Kd.R_drewN | apply Kd.R_drew)); exact HO689.out) (Kd.R_base ho0) hb); have n5_ := Aside0.mk (Kd.R_lower (Kd.R_new' (Kd.R_new' (Kd.R_new' (Kd.R_new' (Kd.R_new' ho0 (Kd.R_lt (by (with_reducible repeat (first | apply Kd.R_alloc | apply Kd.R_drewN | apply Kd.R_drew)); exact HO_9.out))) (Kd.R_lt (by (with_reducible repeat (first | apply Kd.R_alloc | apply Kd.R_drewN | apply Kd.R_drew)); exact HO_671001.out))) (Kd.R_lt (by (with_reducible repeat (first | apply Kd.R_alloc | apply Kd.R_drewN | apply Kd.R_drew)); exact HO_676001.out))) (Kd.R_lt (by (with_reducible repeat (first | apply Kd.R_alloc | apply Kd.R_drewN | apply Kd.R_drew)); exact HO_685001.out))) (Kd.R_lt (by (with_reducible repeat (first | apply Kd.R_alloc | apply Kd.R_drewN | apply Kd.R_drew)); exact HO689.out))) (below_size (by repeat (first | (with_reducible first | exact HB.out | apply below_alloc | apply pw_below_drewN | apply below_drew1 | refine below_set ?_ GE656.out | refine below_set ?_ GE670.out | refine below_set ?_ GE675.out | refine below_set ?_ GE684.out) | exact HB.out)))); have n6_ := Aside0.mk (blk_below (g := gb656) (o := .cells #[.int .i64 a0_0, .slice A0_1 l0_1.length c0_1] 24 (0, 0)) (by (with_reducible repeat (first | refine blk_drewN ?_ _ | refine blk_drew ?_ | refine blk_alloc ?_ _)); exact BK656.out) hb); have n7_ := Aside0.mk (blk_below (g := gb670) (o := .cells #[.int .i64 t665, .slice Ao29 t666.length co29] 26 (0, 0)) (by (with_reducible repeat (first | refine blk_drewN ?_ _ | refine blk_drew ?_ | refine blk_alloc ?_ _)); exact BK670.out) hb); have n8_ := Aside0.mk (blk_below (g := gb675) (o := .cells #[.int .i64 t671, .slice Ao36 t672.length co36] 26 (0, 0)) (by (with_reducible repeat (first | refine blk_drewN ?_ _ | refine blk_drew ?_ | refine blk_alloc ?_ _)); exact BK675.out) hb); have n9_ := Aside0.mk (blk_below (g := gb684) (o := .cells #[.int .i64 t679, .slice Ao46 t680.length co46] 26 (0, 0)) (by (with_reducible repeat (first | refine blk_drewN ?_ _ | refine blk_drew ?_ | refine blk_alloc ?_ _)); exact BK684.out) hb); have n10_ := Aside0.mk (below_step (by repeat (first | (with_reducible first | exact HB.out | apply below_alloc | apply pw_below_drewN | apply below_drew1 | refine below_set ?_ GE656.out | refine below_set ?_ GE670.out | refine below_set ?_ GE675.out | refine below_set ?_ GE684.out) | exact HB.out)) hb); clear HO_9; clear HO_671001; clear HO_676001; clear HO_685001; clear HO689; clear BK656; clear BK670; clear BK675; clear BK684; clear HB; have HO_9 := n0_; have HO_671001 := n1_; have HO_676001 := n2_; have HO_685001 := n3_; have HO689 := n4_; have HO693 := n5_; have BK656 := n6_; have BK670 := n7_; have BK675 := n8_; have BK684 := n9_; have HB := n10_; clear n0_ n1_ n2_ n3_ n4_ n5_ n6_ n7_ n8_ n9_ n10_; (try clear hb); (try clear hb2); (try clear hk); (try clear hi); (try clear ho0); obtain ⟨Ao80, co80, eo80⟩ := Kd.R_slice HO693.out; subst eo80) | ((with_reducible refine gate_callee (f := 17) rfl ?_); refine goesL_ (some 60) rfl rfl Tryd.func17 (by kernel_rfl) rfl #[.slice Ao39 t676.length co39, .slice Ao80 t691.length co80] rfl (by (try simp only [List.map_toArray, List.map_cons, List.map_nil]); first | done | rfl | (simp only [List.length_drop, List.length_take]; rfl)) ?_; (with_reducible refine (laws_eqIntS.calls kj15 _ _ t676 _ _ t691 true _ ?side1 ?side2 ?side3 ?side4 A70.out).mono ?_); (case side1 => repeat (first | exact (Kd.R_reads' HO_9.out).2.2 | (with_reducible refine Kd.C_alloc ?_ _) | (with_reducible refine Kd.C_drewN ?_ _) | (with_reducible refine Kd.C_drew ?_))); (case side2 => exact (Kd.R_reads' HO_9.out).2.1); (case side3 => repeat (first | exact (Kd.R_reads' HO693.out).2.2 | (with_reducible refine Kd.C_alloc ?_ _) | (with_reducible refine Kd.C_drewN ?_ _) | (with_reducible refine Kd.C_drew ?_))); (case side4 => exact (Kd.R_reads' HO693.out).2.1); rintro e w' ⟨rfl, ⟨nd, rfl⟩⟩; refine ⟨_, rfl, ?_⟩; have hnb81 := NB675_656.out; have hnc81 := NB656_675.out; have hnb82 := NB675_670.out; have hnc82 := NB670_675.out; have hnb83 := NB675_684.out; have hnc83 := NB684_675.out; have hcz84_0 : w79.cell? ⟨gb675, 0, none⟩ = some (.int .i64 t671) := (blk_cell BK675.out 0).trans rfl; have hcz84_1 : w79.cell? ⟨gb675, 1, none⟩ = some (.slice Ao36 t672.length co36) := (blk_cell BK675.out 1).trans rfl; have hfz84_0 := blk_frozen BK675.out 0; have hfz84_1 := blk_frozen BK675.out 1) | ((with_reducible refine gate_callee (f := 18) rfl ?_); refine goesL_ (some 64) rfl rfl Tryd.func18 (by kernel_rfl) rfl #[.agg #[.int .i64 t671, .slice Ao36 t672.length co36], .int .i64 1] rfl (by (try simp only [List.map_toArray, List.map_cons, List.map_nil]); first | done | rfl | (simp only [List.length_drop, List.length_take]; rfl)) ?_; (with_reducible refine (laws_markOrder.calls kj15 t671 (fun k_ => some k_ = (.slice Ao36 t672.length co36 : Value).ownBlock) (.slice Ao36 t672.length co36) t672 1 t695 t696 w _ ?side1 ?side2 A72.out).mono ?_); (case side1 => repeat (first | (with_reducible first | exact HB.out | apply below_alloc | apply pw_below_drewN | apply below_drew1 | refine below_set ?_ GE656.out | refine below_set ?_ GE670.out | refine below_set ?_ GE675.out | refine below_set ?_ GE684.out) | exact HB.out)); (case side2 => exact Kd.R_tight rfl HO_676001.out); rintro e w85 ⟨rfl, hy0, hb, hkp⟩; refine ⟨_, rfl, ?_⟩; have n0_ := Aside0.mk (Kd.R_mono (ok' := fun k_ => some k_ ≠ (.slice Ao29 t666.length co29 : Value).ownBlock ∧ some k_ ≠ (.slice Ao36 t672.length co36 : Value).ownBlock ∧ some k_ ≠ (.slice Ao46 t680.length co46 : Value).ownBlock ∧ some k_ ≠ (.slice Ao77 t687.length co77 : Value).ownBlock ∧ some k_ ≠ (.slice Ao80 t691.length co80 : Value).ownBlock) (Kd.R_keptB (HO_9.out) hkp (fun k_ hk_ hs_ => (hk_.1.1.2.1) hs_)) (fun k_ hk_ => ⟨hk_.1.1.1.1, hk_.1.1.1.2.1, hk_.1.1.1.2.2, hk_.1.1.2, hk_.1.2⟩)); have n1_ := Aside0.mk (Kd.R_mono (ok' := fun k_ => some k_ ≠ (.slice Ao39 t676.length co39 : Value).ownBlock ∧ some k_ ≠ (.slice Ao36 t672.length co36 : Value).ownBlock ∧ some k_ ≠ (.slice Ao46 t680.length co46 : Value).ownBlock ∧ some k_ ≠ (.slice Ao77 t687.length co77 : Value).ownBlock ∧ some k_ ≠ (.slice Ao80 t691.length co80 : Value).ownBlock) (Kd.R_keptB (HO_671001.out) hkp (fun k_ hk_ hs_ => (hk_.1.1.2.1) hs_)) (fun k_ hk_ => ⟨hk_.1.1.1.1, hk_.1.1.1.2.1, hk_.1.1.1.2.2, hk_.1.1.2, hk_.1.2⟩)); have n2_ := Aside0.mk (Kd.R_reok rfl hy0 (fun k_ e_ => HO_676001.out.1 k_ e_)); have n3_ := Aside0.mk (Kd.R_mono (ok' := fun k_ => some k_ ≠ (.slice Ao39 t676.length co39 : Value).ownBlock ∧ some k_ ≠ (.slice Ao29 t666.length co29 : Value).ownBlock ∧ some k_ ≠ (.slice Ao36 t672.length co36 : Value).ownBlock ∧ some k_ ≠ (.slice Ao77 t687.length co77 : Value).ownBlock ∧ some k_ ≠ (.slice Ao80 t691.length co80 : Value).ownBlock) (Kd.R_keptB (HO_685001.out) hkp (fun k_ hk_ hs_ => (hk_.1.1.2.2) hs_)) (fun k_ hk_ => ⟨hk_.1.1.1.1, hk_.1.1.1.2.1, hk_.1.1.1.2.2, hk_.1.1.2, hk_.1.2⟩)); have n4_ := Aside0.mk (blk_kept (by (with_reducible repeat (first | refine blk_drewN ?_ _ | refine blk_drew ?_ | refine blk_alloc ?_ _)); exact BK656.out) hkp (fun hs_ => (fun e_ => (Kd.R_ne HO_676001.out BK656.out (by decide)) e_) hs_)); have n5_ := Aside0.mk (blk_kept (by (with_reducible repeat (first | refine blk_drewN ?_ _ | refine blk_drew ?_ | refine blk_alloc ?_ _)); exact BK670.out) hkp (fun hs_ => (fun e_ => (Kd.R_ne HO_676001.out BK670.out (by decide)) e_) hs_)); have n6_ := Aside0.mk (blk_kept (by (with_reducible repeat (first | refine blk_drewN ?_ _ | refine blk_drew ?_ | refine blk_alloc ?_ _)); exact BK675.out) hkp (fun hs_ => (fun e_ => (Kd.R_ne HO_676001.out BK675.out (by decide)) e_) hs_)); have n7_ := Aside0.mk (blk_kept (by (with_reducible repeat (first | refine blk_drewN ?_ _ | refine blk_drew ?_ | refine blk_alloc ?_ _)); exact BK684.out) hkp (fun hs_ => (fun e_ => (Kd.R_ne HO_676001.out BK684.out (by decide)) e_) hs_)); have n8_ := Aside0.mk (Kd.R_mono (ok' := fun k_ => some k_ ≠ (.slice Ao39 t676.length co39 : Value).ownBlock ∧ some k_ ≠ (.slice Ao29 t666.length co29 : Value).ownBlock ∧ some k_ ≠ (.slice Ao36 t672.length co36 : Value).ownBlock ∧ some k_ ≠ (.slice Ao46 t680.length co46 : Value).ownBlock ∧ some k_ ≠ (.slice Ao80 t691.length co80 : Value).ownBlock) (Kd.R_keptB (HO689.out) hkp (fun k_ hk_ hs_ => (hk_.1.1.2) hs_)) (fun k_ hk_ => ⟨hk_.1.1.1.1.1.2, hk_.1.1.1.1.2, hk_.1.1.1.2, hk_.1.1.2, hk_.1.2⟩)); have n9_ := Aside0.mk (Kd.R_mono (ok' := fun k_ => some k_ ≠ (.slice Ao39 t676.length co39 : Value).ownBlock ∧ some k_ ≠ (.slice Ao29 t666.length co29 : Value).ownBlock ∧ some k_ ≠ (.slice Ao36 t672.length co36 : Value).ownBlock ∧ some k_ ≠ (.slice Ao46 t680.length co46 : Value).ownBlock ∧ some k_ ≠ (.slice Ao77 t687.length co77 : Value).ownBlock) (Kd.R_keptB (HO693.out) hkp (fun k_ hk_ hs_ => (hk_.1.1.2) hs_)) (fun k_ hk_ => ⟨hk_.1.1.1.1.1.2, hk_.1.1.1.1.2, hk_.1.1.1.2, hk_.1.1.2, hk_.1.2⟩)); have n10_ := Aside0.mk (hb); clear HO_9; clear HO_671001; clear HO_676001; clear HO_685001; clear BK656; clear BK670; clear BK675; clear BK684; clear HO689; clear HO693; clear HB; have HO_9 := n0_; have HO_671001 := n1_; have HO_676001 := n2_; have HO_685001 := n3_; have BK656 := n4_; have BK670 := n5_; have BK675 := n6_; have BK684 := n7_; have HO689 := n8_; have HO693 := n9_; have HB := n10_; clear n0_ n1_ n2_ n3_ n4_ n5_ n6_ n7_ n8_ n9_ n10_; (try clear hb); (try clear hkp); (try clear hy0)) | ((with_reducible refine gate_callee (f := 19) rfl ?_); refine goesL_ (some 67) rfl rfl Tryd.func19 (by kernel_rfl) rfl #[.slice Ao39 t676.length co39, .int .i64 t695] rfl (by (try simp only [List.map_toArray, List.map_cons, List.map_nil]); first | done | rfl | (simp only [List.length_drop, List.length_take]; rfl)) ?_; (with_reducible refine (laws_markIntS.calls kj15 (fun k_ => some k_ = (.slice Ao39 t676.length co39 : Value).ownBlock) (.slice Ao39 t676.length co39) t676 t695 t697 t698 w _ ?side1 ?side2 A73.out).mono ?_); (case side1 => repeat (first | (with_reducible first | exact HB.out | apply below_alloc | apply pw_below_drewN | apply below_drew1 | refine below_set ?_ GE656.out | refine below_set ?_ GE670.out | refine below_set ?_ GE675.out | refine below_set ?_ GE684.out) | exact HB.out)); (case side2 => exact Kd.R_tight rfl HO_9.out); rintro e w86 ⟨rfl, hy0, hb, hkp⟩; refine ⟨_, rfl, ?_⟩; have n0_ := Aside0.mk (Kd.R_reok rfl hy0 (fun k_ e_ => HO_9.out.1 k_ e_)); have n1_ := Aside0.mk (Kd.R_mono (ok' := fun k_ => some k_ ≠ (.slice Ao39 t676.length co39 : Value).ownBlock ∧ some k_ ≠ (.slice Ao36 t672.length co36 : Value).ownBlock ∧ some k_ ≠ (.slice Ao46 t680.length co46 : Value).ownBlock ∧ some k_ ≠ (.slice Ao77 t687.length co77 : Value).ownBlock ∧ some k_ ≠ (.slice Ao80 t691.length co80 : Value).ownBlock) (Kd.R_keptB (HO_671001.out) hkp (fun k_ hk_ hs_ => (hk_.1) hs_)) (fun k_ hk_ => ⟨hk_.1.1, hk_.1.2.1, hk_.1.2.2.1, hk_.1.2.2.2.1, hk_.1.2.2.2.2⟩)); have n2_ := Aside0.mk (Kd.R_mono (ok' := fun k_ => some k_ ≠ (.slice Ao39 t676.length co39 : Value).ownBlock ∧ some k_ ≠ (.slice Ao29 t666.length co29 : Value).ownBlock ∧ some k_ ≠ (.slice Ao46 t680.length co46 : Value).ownBlock ∧ some k_ ≠ (.slice Ao77 t687.length co77 : Value).ownBlock ∧ some k_ ≠ (.slice Ao80 t691.length co80 : Value).ownBlock) (Kd.R_keptB (HO_676001.out) hkp (fun k_ hk_ hs_ => (hk_.1.1.1) hs_)) (fun k_ hk_ => ⟨hk_.1.1.1.1, hk_.1.1.1.2.1, hk_.1.1.1.2.2, hk_.1.1.2, hk_.1.2⟩)); have n3_ := Aside0.mk (Kd.R_mono (ok' := fun k_ => some k_ ≠ (.slice Ao39 t676.length co39 : Value).ownBlock ∧ some k_ ≠ (.slice Ao29 t666.length co29 : Value).ownBlock ∧ some k_ ≠ (.slice Ao36 t672.length co36 : Value).ownBlock ∧ some k_ ≠ (.slice Ao77 t687.length co77 : Value).ownBlock ∧ some k_ ≠ (.slice Ao80 t691.length co80 : Value).ownBlock) (Kd.R_keptB (HO_685001.out) hkp (fun k_ hk_ hs_ => (hk_.1) hs_)) (fun k_ hk_ => ⟨hk_.1.1, hk_.1.2.1, hk_.1.2.2.1, hk_.1.2.2.2.1, hk_.1.2.2.2.2⟩)); have n4_ := Aside0.mk (blk_kept (by (with_reducible repeat (first | refine blk_drewN ?_ _ | refine blk_drew ?_ | refine blk_alloc ?_ _)); exact BK656.out) hkp (fun hs_ => (fun e_ => (Kd.R_ne HO_9.out BK656.out (by decide)) e_) hs_)); have n5_ := Aside0.mk (blk_kept (by (with_reducible repeat (first | refine blk_drewN ?_ _ | refine blk_drew ?_ | refine blk_alloc ?_ _)); exact BK670.out) hkp (fun hs_ => (fun e_ => (Kd.R_ne HO_9.out BK670.out (by decide)) e_) hs_)); have n6_ := Aside0.mk (blk_kept (by (with_reducible repeat (first | refine blk_drewN ?_ _ | refine blk_drew ?_ | refine blk_alloc ?_ _)); exact BK675.out) hkp (fun hs_ => (fun e_ => (Kd.R_ne HO_9.out BK675.out (by decide)) e_) hs_)); have n7_ := Aside0.mk (blk_kept (by (with_reducible repeat (first | refine blk_drewN ?_ _ | refine blk_drew ?_ | refine blk_alloc ?_ _)); exact BK684.out) hkp (fun hs_ => (fun e_ => (Kd.R_ne HO_9.out BK684.out (by decide)) e_) hs_)); have n8_ := Aside0.mk (Kd.R_mono (ok' := fun k_ => some k_ ≠ (.slice Ao39 t676.length co39 : Value).ownBlock ∧ some k_ ≠ (.slice Ao29 t666.length co29 : Value).ownBlock ∧ some k_ ≠ (.slice Ao36 t672.length co36 : Value).ownBlock ∧ some k_ ≠ (.slice Ao46 t680.length co46 : Value).ownBlock ∧ some k_ ≠ (.slice Ao80 t691.length co80 : Value).ownBlock) (Kd.R_keptB (HO689.out) hkp (fun k_ hk_ hs_ => (hk_.1) hs_)) (fun k_ hk_ => ⟨hk_.1.1, hk_.1.2.1, hk_.1.2.2.1, hk_.1.2.2.2.1, hk_.1.2.2.2.2⟩)); have n9_ := Aside0.mk (Kd.R_mono (ok' := fun k_ => some k_ ≠ (.slice Ao39 t676.length co39 : Value).ownBlock ∧ some k_ ≠ (.slice Ao29 t666.length co29 : Value).ownBlock ∧ some k_ ≠ (.slice Ao36 t672.length co36 : Value).ownBlock ∧ some k_ ≠ (.slice Ao46 t680.length co46 : Value).ownBlock ∧ some k_ ≠ (.slice Ao77 t687.length co77 : Value).ownBlock) (Kd.R_keptB (HO693.out) hkp (fun k_ hk_ hs_ => (hk_.1) hs_)) (fun k_ hk_ => ⟨hk_.1.1, hk_.1.2.1, hk_.1.2.2.1, hk_.1.2.2.2.1, hk_.1.2.2.2.2⟩)); have n10_ := Aside0.mk (hb); clear HO_9; clear HO_671001; clear HO_676001; clear HO_685001; clear BK656; clear BK670; clear BK675; clear BK684; clear HO689; clear HO693; clear HB; have HO_9 := n0_; have HO_671001 := n1_; have HO_676001 := n2_; have HO_685001 := n3_; have BK656 := n4_; have BK670 := n5_; have BK675 := n6_; have BK684 := n7_; have HO689 := n8_; have HO693 := n9_; have HB := n10_; clear n0_ n1_ n2_ n3_ n4_ n5_ n6_ n7_ n8_ n9_ n10_; (try clear hb); (try clear hkp); (try clear hy0)))
                (try simp only [Act.put, List.setIfInBounds_toArray, List.set_cons_zero, List.set_cons_succ])
                go_cut [80] (fun v80 wc => ∃ (kq : Nat) (x80_73 : Bool), v80 = .bool x80_73 ∧ Aside0 (laws_FnExactRenameOf.j1 kq l1 t669 x80_73 a0_0 l0_1 t665 t666 t679 t680 = some r) ∧ Aside0 (kq ≤ kj15) ∧ Aside0 (Kd.R (Kd.int .i64) 3 wc w.heap.size (fun k_ => some k_ ≠ ((.slice Ao36 t672.length co36) : Value).ownBlock ∧ some k_ ≠ ((.slice Ao46 t680.length co46) : Value).ownBlock) (.slice Ao29 t666.length co29) t666) ∧ Aside0 (Kd.R (Kd.int .i64) 3 wc w.heap.size (fun k_ => some k_ ≠ ((.slice Ao29 t666.length co29) : Value).ownBlock ∧ some k_ ≠ ((.slice Ao46 t680.length co46) : Value).ownBlock) (.slice Ao36 t672.length co36) t696) ∧ Aside0 (Kd.R (Kd.int .i64) 3 wc w.heap.size (fun k_ => some k_ ≠ ((.slice Ao29 t666.length co29) : Value).ownBlock ∧ some k_ ≠ ((.slice Ao36 t672.length co36) : Value).ownBlock) (.slice Ao46 t680.length co46) t680) ∧ Aside0 (wc.heap[gb656]? = some (.cells #[.int .i64 a0_0, (.slice A0_1 l0_1.length c0_1)] 24 (0, 0))) ∧ Aside0 (wc.heap[gb670]? = some (.cells #[.int .i64 t665, (.slice Ao29 t666.length co29)] 26 (0, 0))) ∧ Aside0 (wc.heap[gb675]? = some (.cells #[.int .i64 t671, (.slice Ao36 t672.length co36)] 26 (0, 0))) ∧ Aside0 (wc.heap[gb684]? = some (.cells #[.int .i64 t679, (.slice Ao46 t680.length co46)] 26 (0, 0))) ∧ Aside0 (Below w.heap.size w wc))
                case first =>
                  have H := HC74.out
                  clear HC74
                  by_cases c87 : t697 < 0
                  · rw [if_pos c87] at H
                    have c87b0 : decide (t697 < 0) = true := decide_eq_true c87
                    clear c87
                    (first | rw [c87b0] | (simp only [i64_w, i32_w]; rw [c87b0]) | skip)
                    have H' := Aside0.mk H
                    clear H
                    go_wp2
                    go_meet
                    case rel => exact ⟨_, (true), (by first | rfl | (simp; done) | (simp [*]; done)), H', ⟨by have := HJ15.out; first | omega | exact Nat.le_refl _⟩, ⟨by (with_reducible repeat (first | apply Kd.R_alloc | apply Kd.R_drewN | apply Kd.R_drew)); exact Kd.R_mono HO_671001.out (fun _ hk => ⟨hk.2.1, hk.2.2.1⟩)⟩, ⟨by (with_reducible repeat (first | apply Kd.R_alloc | apply Kd.R_drewN | apply Kd.R_drew)); exact Kd.R_mono HO_676001.out (fun _ hk => ⟨hk.2.1, hk.2.2.1⟩)⟩, ⟨by (with_reducible repeat (first | apply Kd.R_alloc | apply Kd.R_drewN | apply Kd.R_drew)); exact Kd.R_mono HO_685001.out (fun _ hk => ⟨hk.2.1, hk.2.2.1⟩)⟩, ⟨by (with_reducible repeat (first | refine blk_drewN ?_ _ | refine blk_drew ?_ | refine blk_alloc ?_ _)); exact BK656.out⟩, ⟨by (with_reducible repeat (first | refine blk_drewN ?_ _ | refine blk_drew ?_ | refine blk_alloc ?_ _)); exact BK670.out⟩, ⟨by (with_reducible repeat (first | refine blk_drewN ?_ _ | refine blk_drew ?_ | refine blk_alloc ?_ _)); exact BK675.out⟩, ⟨by (with_reducible repeat (first | refine blk_drewN ?_ _ | refine blk_drew ?_ | refine blk_alloc ?_ _)); exact BK684.out⟩, ⟨by repeat (first | (with_reducible first | exact HB.out | apply below_alloc | apply pw_below_drewN | apply below_drew1 | refine below_set ?_ GE656.out | refine below_set ?_ GE670.out | refine below_set ?_ GE675.out | refine below_set ?_ GE684.out) | exact HB.out)⟩⟩
                  · rw [if_neg c87] at H
                    have c87b0 : decide (t697 < 0) = false := decide_eq_false c87
                    clear c87
                    (first | rw [c87b0] | (simp only [i64_w, i32_w]; rw [c87b0]) | skip)
                    replace H := Option.bind_eq_some_iff.mp H
                    obtain ⟨t699, A880, H⟩ := H
                    replace H : (if t699 = true then (laws_FnExactRenameOf.j1 kj15 l1 t669 (t683 != t669) a0_0 l0_1 t665 t666 t679 t680) else (laws_FnExactRenameOf.j1 kj15 l1 t669 true a0_0 l0_1 t665 t666 t679 t680)) = some r := H
                    have A88 := Aside0.mk A880
                    clear A880
                    by_cases c89 : t699 = true
                    · subst c89
                      have H1 : (laws_FnExactRenameOf.j1 kj15 l1 t669 (t683 != t669) a0_0 l0_1 t665 t666 t679 t680) = some r := by rw [if_pos rfl] at H; exact H
                      clear H
                      have H := H1
                      clear H1
                      have H' := Aside0.mk H
                      clear H
                      have hnb90 := NB684_656.out
                      have hnc90 := NB656_684.out
                      have hnb91 := NB684_670.out
                      have hnc91 := NB670_684.out
                      have hnb92 := NB684_675.out
                      have hnc92 := NB675_684.out
                      have hcz93_0 : w86.cell? ⟨gb684, 0, none⟩ = some (.int .i64 t679) := (blk_cell BK684.out 0).trans rfl
                      have hcz93_1 : w86.cell? ⟨gb684, 1, none⟩ = some (.slice Ao46 t680.length co46) := (blk_cell BK684.out 1).trans rfl
                      have hfz93_0 := blk_frozen BK684.out 0
                      have hfz93_1 := blk_frozen BK684.out 1
                      have hnb94 := NB670_656.out
                      have hnc94 := NB656_670.out
                      have hnb95 := NB670_675.out
                      have hnc95 := NB675_670.out
                      have hcz96_0 : w86.cell? ⟨gb670, 0, none⟩ = some (.int .i64 t665) := (blk_cell BK670.out 0).trans rfl
                      have hcz96_1 : w86.cell? ⟨gb670, 1, none⟩ = some (.slice Ao29 t666.length co29) := (blk_cell BK670.out 1).trans rfl
                      have hfz96_0 := blk_frozen BK670.out 0
                      have hfz96_1 := blk_frozen BK670.out 1
                      go_wp2_with (first | (go_at_call 16; (with_reducible refine (laws_eqOrder.calls kj15 t679 _ _ t680 t665 _ _ t666 true _ ?side1 ?side2 ?side3 ?side4 A88.out).mono ?_); (case side1 => repeat (first | exact (Kd.R_reads' HO_685001.out).2.2 | (with_reducible refine Kd.C_alloc ?_ _) | (with_reducible refine Kd.C_drewN ?_ _) | (with_reducible refine Kd.C_drew ?_))); (case side2 => exact (Kd.R_reads' HO_685001.out).2.1); (case side3 => repeat (first | exact (Kd.R_reads' HO_671001.out).2.2 | (with_reducible refine Kd.C_alloc ?_ _) | (with_reducible refine Kd.C_drewN ?_ _) | (with_reducible refine Kd.C_drew ?_))); (case side4 => exact (Kd.R_reads' HO_671001.out).2.1); rintro e w97 ⟨rfl, hb⟩; have n0_ := Aside0.mk (Kd.R_below (by (with_reducible repeat (first | apply Kd.R_alloc | apply Kd.R_drewN | apply Kd.R_drew)); exact HO_9.out) hb); have n1_ := Aside0.mk (Kd.R_below (by (with_reducible repeat (first | apply Kd.R_alloc | apply Kd.R_drewN | apply Kd.R_drew)); exact HO_671001.out) hb); have n2_ := Aside0.mk (Kd.R_below (by (with_reducible repeat (first | apply Kd.R_alloc | apply Kd.R_drewN | apply Kd.R_drew)); exact HO_676001.out) hb); have n3_ := Aside0.mk (Kd.R_below (by (with_reducible repeat (first | apply Kd.R_alloc | apply Kd.R_drewN | apply Kd.R_drew)); exact HO_685001.out) hb); have n4_ := Aside0.mk (Kd.R_below (by (with_reducible repeat (first | apply Kd.R_alloc | apply Kd.R_drewN | apply Kd.R_drew)); exact HO689.out) hb); have n5_ := Aside0.mk (Kd.R_below (by (with_reducible repeat (first | apply Kd.R_alloc | apply Kd.R_drewN | apply Kd.R_drew)); exact HO693.out) hb); have n6_ := Aside0.mk (blk_below (g := gb656) (o := .cells #[.int .i64 a0_0, .slice A0_1 l0_1.length c0_1] 24 (0, 0)) (by (with_reducible repeat (first | refine blk_drewN ?_ _ | refine blk_drew ?_ | refine blk_alloc ?_ _)); exact BK656.out) hb); have n7_ := Aside0.mk (blk_below (g := gb670) (o := .cells #[.int .i64 t665, .slice Ao29 t666.length co29] 26 (0, 0)) (by (with_reducible repeat (first | refine blk_drewN ?_ _ | refine blk_drew ?_ | refine blk_alloc ?_ _)); exact BK670.out) hb); have n8_ := Aside0.mk (blk_below (g := gb675) (o := .cells #[.int .i64 t671, .slice Ao36 t672.length co36] 26 (0, 0)) (by (with_reducible repeat (first | refine blk_drewN ?_ _ | refine blk_drew ?_ | refine blk_alloc ?_ _)); exact BK675.out) hb); have n9_ := Aside0.mk (blk_below (g := gb684) (o := .cells #[.int .i64 t679, .slice Ao46 t680.length co46] 26 (0, 0)) (by (with_reducible repeat (first | refine blk_drewN ?_ _ | refine blk_drew ?_ | refine blk_alloc ?_ _)); exact BK684.out) hb); have n10_ := Aside0.mk (below_step (by repeat (first | (with_reducible first | exact HB.out | apply below_alloc | apply pw_below_drewN | apply below_drew1 | refine below_set ?_ GE656.out | refine below_set ?_ GE670.out | refine below_set ?_ GE675.out | refine below_set ?_ GE684.out) | exact HB.out)) hb); clear HO_9; clear HO_671001; clear HO_676001; clear HO_685001; clear HO689; clear HO693; clear BK656; clear BK670; clear BK675; clear BK684; clear HB; have HO_9 := n0_; have HO_671001 := n1_; have HO_676001 := n2_; have HO_685001 := n3_; have HO689 := n4_; have HO693 := n5_; have BK656 := n6_; have BK670 := n7_; have BK675 := n8_; have BK684 := n9_; have HB := n10_; clear n0_ n1_ n2_ n3_ n4_ n5_ n6_ n7_ n8_ n9_ n10_; (try clear hb); (try clear hb2); (try clear hk); (try clear hi)))
                      go_meet
                      case rel => exact ⟨_, ((t683 != t669)), (by first | rfl | (simp; done) | (simp [*]; done)), H', ⟨by have := HJ15.out; first | omega | exact Nat.le_refl _⟩, ⟨by (with_reducible repeat (first | apply Kd.R_alloc | apply Kd.R_drewN | apply Kd.R_drew)); exact Kd.R_mono HO_671001.out (fun _ hk => ⟨hk.2.1, hk.2.2.1⟩)⟩, ⟨by (with_reducible repeat (first | apply Kd.R_alloc | apply Kd.R_drewN | apply Kd.R_drew)); exact Kd.R_mono HO_676001.out (fun _ hk => ⟨hk.2.1, hk.2.2.1⟩)⟩, ⟨by (with_reducible repeat (first | apply Kd.R_alloc | apply Kd.R_drewN | apply Kd.R_drew)); exact Kd.R_mono HO_685001.out (fun _ hk => ⟨hk.2.1, hk.2.2.1⟩)⟩, ⟨by (with_reducible repeat (first | refine blk_drewN ?_ _ | refine blk_drew ?_ | refine blk_alloc ?_ _)); exact BK656.out⟩, ⟨by (with_reducible repeat (first | refine blk_drewN ?_ _ | refine blk_drew ?_ | refine blk_alloc ?_ _)); exact BK670.out⟩, ⟨by (with_reducible repeat (first | refine blk_drewN ?_ _ | refine blk_drew ?_ | refine blk_alloc ?_ _)); exact BK675.out⟩, ⟨by (with_reducible repeat (first | refine blk_drewN ?_ _ | refine blk_drew ?_ | refine blk_alloc ?_ _)); exact BK684.out⟩, ⟨by repeat (first | (with_reducible first | exact HB.out | apply below_alloc | apply pw_below_drewN | apply below_drew1 | refine below_set ?_ GE656.out | refine below_set ?_ GE670.out | refine below_set ?_ GE675.out | refine below_set ?_ GE684.out) | exact HB.out)⟩⟩
                    · replace c89 := Bool.eq_false_iff.mpr c89
                      subst c89
                      have H1 : (laws_FnExactRenameOf.j1 kj15 l1 t669 true a0_0 l0_1 t665 t666 t679 t680) = some r := by rw [if_neg (show ¬ (false = true) by decide)] at H; exact H
                      clear H
                      have H := H1
                      clear H1
                      have H' := Aside0.mk H
                      clear H
                      have hnb98 := NB684_656.out
                      have hnc98 := NB656_684.out
                      have hnb99 := NB684_670.out
                      have hnc99 := NB670_684.out
                      have hnb100 := NB684_675.out
                      have hnc100 := NB675_684.out
                      have hcz101_0 : w86.cell? ⟨gb684, 0, none⟩ = some (.int .i64 t679) := (blk_cell BK684.out 0).trans rfl
                      have hcz101_1 : w86.cell? ⟨gb684, 1, none⟩ = some (.slice Ao46 t680.length co46) := (blk_cell BK684.out 1).trans rfl
                      have hfz101_0 := blk_frozen BK684.out 0
                      have hfz101_1 := blk_frozen BK684.out 1
                      have hnb102 := NB670_656.out
                      have hnc102 := NB656_670.out
                      have hnb103 := NB670_675.out
                      have hnc103 := NB675_670.out
                      have hcz104_0 : w86.cell? ⟨gb670, 0, none⟩ = some (.int .i64 t665) := (blk_cell BK670.out 0).trans rfl
                      have hcz104_1 : w86.cell? ⟨gb670, 1, none⟩ = some (.slice Ao29 t666.length co29) := (blk_cell BK670.out 1).trans rfl
                      have hfz104_0 := blk_frozen BK670.out 0
                      have hfz104_1 := blk_frozen BK670.out 1
                      go_wp2_with (first | (go_at_call 16; (with_reducible refine (laws_eqOrder.calls kj15 t679 _ _ t680 t665 _ _ t666 false _ ?side1 ?side2 ?side3 ?side4 A88.out).mono ?_); (case side1 => repeat (first | exact (Kd.R_reads' HO_685001.out).2.2 | (with_reducible refine Kd.C_alloc ?_ _) | (with_reducible refine Kd.C_drewN ?_ _) | (with_reducible refine Kd.C_drew ?_))); (case side2 => exact (Kd.R_reads' HO_685001.out).2.1); (case side3 => repeat (first | exact (Kd.R_reads' HO_671001.out).2.2 | (with_reducible refine Kd.C_alloc ?_ _) | (with_reducible refine Kd.C_drewN ?_ _) | (with_reducible refine Kd.C_drew ?_))); (case side4 => exact (Kd.R_reads' HO_671001.out).2.1); rintro e w105 ⟨rfl, hb⟩; have n0_ := Aside0.mk (Kd.R_below (by (with_reducible repeat (first | apply Kd.R_alloc | apply Kd.R_drewN | apply Kd.R_drew)); exact HO_9.out) hb); have n1_ := Aside0.mk (Kd.R_below (by (with_reducible repeat (first | apply Kd.R_alloc | apply Kd.R_drewN | apply Kd.R_drew)); exact HO_671001.out) hb); have n2_ := Aside0.mk (Kd.R_below (by (with_reducible repeat (first | apply Kd.R_alloc | apply Kd.R_drewN | apply Kd.R_drew)); exact HO_676001.out) hb); have n3_ := Aside0.mk (Kd.R_below (by (with_reducible repeat (first | apply Kd.R_alloc | apply Kd.R_drewN | apply Kd.R_drew)); exact HO_685001.out) hb); have n4_ := Aside0.mk (Kd.R_below (by (with_reducible repeat (first | apply Kd.R_alloc | apply Kd.R_drewN | apply Kd.R_drew)); exact HO689.out) hb); have n5_ := Aside0.mk (Kd.R_below (by (with_reducible repeat (first | apply Kd.R_alloc | apply Kd.R_drewN | apply Kd.R_drew)); exact HO693.out) hb); have n6_ := Aside0.mk (blk_below (g := gb656) (o := .cells #[.int .i64 a0_0, .slice A0_1 l0_1.length c0_1] 24 (0, 0)) (by (with_reducible repeat (first | refine blk_drewN ?_ _ | refine blk_drew ?_ | refine blk_alloc ?_ _)); exact BK656.out) hb); have n7_ := Aside0.mk (blk_below (g := gb670) (o := .cells #[.int .i64 t665, .slice Ao29 t666.length co29] 26 (0, 0)) (by (with_reducible repeat (first | refine blk_drewN ?_ _ | refine blk_drew ?_ | refine blk_alloc ?_ _)); exact BK670.out) hb); have n8_ := Aside0.mk (blk_below (g := gb675) (o := .cells #[.int .i64 t671, .slice Ao36 t672.length co36] 26 (0, 0)) (by (with_reducible repeat (first | refine blk_drewN ?_ _ | refine blk_drew ?_ | refine blk_alloc ?_ _)); exact BK675.out) hb); have n9_ := Aside0.mk (blk_below (g := gb684) (o := .cells #[.int .i64 t679, .slice Ao46 t680.length co46] 26 (0, 0)) (by (with_reducible repeat (first | refine blk_drewN ?_ _ | refine blk_drew ?_ | refine blk_alloc ?_ _)); exact BK684.out) hb); have n10_ := Aside0.mk (below_step (by repeat (first | (with_reducible first | exact HB.out | apply below_alloc | apply pw_below_drewN | apply below_drew1 | refine below_set ?_ GE656.out | refine below_set ?_ GE670.out | refine below_set ?_ GE675.out | refine below_set ?_ GE684.out) | exact HB.out)) hb); clear HO_9; clear HO_671001; clear HO_676001; clear HO_685001; clear HO689; clear HO693; clear BK656; clear BK670; clear BK675; clear BK684; clear HB; have HO_9 := n0_; have HO_671001 := n1_; have HO_676001 := n2_; have HO_685001 := n3_; have HO689 := n4_; have HO693 := n5_; have BK656 := n6_; have BK670 := n7_; have BK675 := n8_; have BK684 := n9_; have HB := n10_; clear n0_ n1_ n2_ n3_ n4_ n5_ n6_ n7_ n8_ n9_ n10_; (try clear hb); (try clear hb2); (try clear hk); (try clear hi)))
                      go_meet
                      case rel => exact ⟨_, (true), (by first | rfl | (simp; done) | (simp [*]; done)), H', ⟨by have := HJ15.out; first | omega | exact Nat.le_refl _⟩, ⟨by (with_reducible repeat (first | apply Kd.R_alloc | apply Kd.R_drewN | apply Kd.R_drew)); exact Kd.R_mono HO_671001.out (fun _ hk => ⟨hk.2.1, hk.2.2.1⟩)⟩, ⟨by (with_reducible repeat (first | apply Kd.R_alloc | apply Kd.R_drewN | apply Kd.R_drew)); exact Kd.R_mono HO_676001.out (fun _ hk => ⟨hk.2.1, hk.2.2.1⟩)⟩, ⟨by (with_reducible repeat (first | apply Kd.R_alloc | apply Kd.R_drewN | apply Kd.R_drew)); exact Kd.R_mono HO_685001.out (fun _ hk => ⟨hk.2.1, hk.2.2.1⟩)⟩, ⟨by (with_reducible repeat (first | refine blk_drewN ?_ _ | refine blk_drew ?_ | refine blk_alloc ?_ _)); exact BK656.out⟩, ⟨by (with_reducible repeat (first | refine blk_drewN ?_ _ | refine blk_drew ?_ | refine blk_alloc ?_ _)); exact BK670.out⟩, ⟨by (with_reducible repeat (first | refine blk_drewN ?_ _ | refine blk_drew ?_ | refine blk_alloc ?_ _)); exact BK675.out⟩, ⟨by (with_reducible repeat (first | refine blk_drewN ?_ _ | refine blk_drew ?_ | refine blk_alloc ?_ _)); exact BK684.out⟩, ⟨by repeat (first | (with_reducible first | exact HB.out | apply below_alloc | apply pw_below_drewN | apply below_drew1 | refine below_set ?_ GE656.out | refine below_set ?_ GE670.out | refine below_set ?_ GE675.out | refine below_set ?_ GE684.out) | exact HB.out)⟩⟩
                case rest =>
                  clear HC74
                  try clear c1
                  try clear c2
                  try clear p2
                  try clear c3
                  try clear c3b0
                  try clear c3b1
                  try clear c4
                  try clear c5
                  try clear c6
                  try clear c6b0
                  try clear c7
                  try clear c8
                  try clear c9
                  try clear c10
                  try clear c11
                  try clear c12
                  try clear c13
                  try clear c14
                  try clear c15
                  try clear c16
                  try clear c17
                  try clear c18
                  try clear c19
                  try clear c27
                  try clear c33
                  try clear c34
                  try clear c42
                  try clear c43
                  try clear c44
                  try clear c48
                  try clear c49
                  try clear c50
                  try clear c51
                  try clear c53
                  try clear c54
                  try clear c57
                  try clear c58
                  try clear c59
                  try clear c61
                  try clear c62
                  try clear c65
                  try clear c68
                  try clear c71
                  try clear c81
                  try clear c82
                  try clear c83
                  try clear c87
                  try clear c87b0
                  try clear c89
                  try clear c90
                  try clear c91
                  try clear c92
                  try clear c94
                  try clear c95
                  try clear c98
                  try clear c99
                  try clear c100
                  try clear c102
                  try clear c103
                  try clear hcz101_0
                  try clear hcz101_1
                  try clear hcz104_0
                  try clear hcz104_1
                  try clear hcz18_0
                  try clear hcz18_1
                  try clear hcz20_0
                  try clear hcz20_1
                  try clear hcz28_0
                  try clear hcz28_1
                  try clear hcz30_0
                  try clear hcz30_1
                  try clear hcz35_0
                  try clear hcz35_1
                  try clear hcz38_0
                  try clear hcz38_1
                  try clear hcz45_0
                  try clear hcz45_1
                  try clear hcz52_0
                  try clear hcz52_1
                  try clear hcz55_0
                  try clear hcz55_1
                  try clear hcz60_0
                  try clear hcz60_1
                  try clear hcz63_0
                  try clear hcz63_1
                  try clear hcz84_0
                  try clear hcz84_1
                  try clear hcz8_0
                  try clear hcz8_1
                  try clear hcz93_0
                  try clear hcz93_1
                  try clear hcz96_0
                  try clear hcz96_1
                  try clear hfz101_0
                  try clear hfz101_1
                  try clear hfz104_0
                  try clear hfz104_1
                  try clear hfz18_0
                  try clear hfz18_1
                  try clear hfz20_0
                  try clear hfz20_1
                  try clear hfz28_0
                  try clear hfz28_1
                  try clear hfz30_0
                  try clear hfz30_1
                  try clear hfz35_0
                  try clear hfz35_1
                  try clear hfz38_0
                  try clear hfz38_1
                  try clear hfz45_0
                  try clear hfz45_1
                  try clear hfz52_0
                  try clear hfz52_1
                  try clear hfz55_0
                  try clear hfz55_1
                  try clear hfz60_0
                  try clear hfz60_1
                  try clear hfz63_0
                  try clear hfz63_1
                  try clear hfz84_0
                  try clear hfz84_1
                  try clear hfz8_0
                  try clear hfz8_1
                  try clear hfz93_0
                  try clear hfz93_1
                  try clear hfz96_0
                  try clear hfz96_1
                  try clear p2
                  obtain ⟨kq, x80_73, rfl, HA, HJ73, HO_671001, HO_676001, HO_685001, BK656, BK670, BK675, BK684, HB⟩ := hcut
                  have hl676001_73 := (Kd.R_reads' HO_676001.out).1
                  rw [hl676001_73] at HO_676001
                  (try simp only [hl676001_73])
                  (try simp only [hl676001_73] at BK656)
                  (try simp only [hl676001_73] at BK670)
                  (try simp only [hl676001_73] at BK675)
                  (try simp only [hl676001_73] at BK684)
                  (try simp only [hl676001_73] at HO_671001)
                  (try simp only [hl676001_73] at HO_685001)
                  cases kq with
                  | zero => exact absurd HA.out (by simp [laws_FnExactRenameOf.j1])
                  | succ kj73 =>
                    have H := HA.out
                    clear HA
                    simp only [laws_FnExactRenameOf.j1] at H
                    by_cases c106 : x80_73 = true
                    · subst c106
                      have H1 : (some false) = some r := by rw [if_pos rfl] at H; exact H
                      clear H
                      have H := H1
                      clear H1
                      obtain rfl := Option.some.inj H
                      go_wp2
                      go_ret
                      exact ⟨by first | rfl | (simp [errW_none, errW_some] <;> rfl) | (simp [*, errW_none, errW_some] <;> rfl), by repeat (first | (with_reducible first | exact HB.out | apply below_alloc | apply pw_below_drewN | apply below_drew1 | refine below_set ?_ GE656.out | refine below_set ?_ GE670.out | refine below_set ?_ GE675.out | refine below_set ?_ GE684.out) | exact HB.out)⟩
                    · replace c106 := Bool.eq_false_iff.mpr c106
                      subst c106
                      have H1 : ((laws_markOrder.f kj73 t679 t680 1).bind fun bt700 => ((laws_heldOrder.f kj73 t679 bt700.2 1).bind fun t702 => (if t702 < 0 then (some false) else (if t702 = bt700.1 then ((laws_toOrder.f kj73 a0_0 l0_1).bind fun bt703 => ((laws_toIntS.f kj73 l1).bind fun t707 => ((impl_RenameOf.f kj73 bt703.1 bt703.2 t707).bind fun bt710 => ((laws_eqOrder.f kj73 bt710.1 bt710.2.1 t665 t666).bind fun t716 => (if t716 = true then (laws_FnExactRenameOf.j2 kj73 bt700.1 (bt710.2.2 != t669) t679 bt700.2) else (laws_FnExactRenameOf.j2 kj73 bt700.1 true t679 bt700.2)))))) else (some false))))) = some r := by rw [if_neg (show ¬ (false = true) by decide)] at H; exact H
                      clear H
                      have H := H1
                      clear H1
                      replace H := Option.bind_eq_some_iff.mp H
                      obtain ⟨⟨t700, t701⟩, A1070, H⟩ := H
                      replace H : ((laws_heldOrder.f kj73 t679 t701 1).bind fun t702 => (if t702 < 0 then (some false) else (if t702 = t700 then ((laws_toOrder.f kj73 a0_0 l0_1).bind fun bt703 => ((laws_toIntS.f kj73 l1).bind fun t707 => ((impl_RenameOf.f kj73 bt703.1 bt703.2 t707).bind fun bt710 => ((laws_eqOrder.f kj73 bt710.1 bt710.2.1 t665 t666).bind fun t716 => (if t716 = true then (laws_FnExactRenameOf.j2 kj73 t700 (bt710.2.2 != t669) t679 t701) else (laws_FnExactRenameOf.j2 kj73 t700 true t679 t701)))))) else (some false)))) = some r := H
                      have A107 := Aside0.mk A1070
                      clear A1070
                      replace H := Option.bind_eq_some_iff.mp H
                      obtain ⟨t702, A1080, H⟩ := H
                      replace H : (if t702 < 0 then (some false) else (if t702 = t700 then ((laws_toOrder.f kj73 a0_0 l0_1).bind fun bt703 => ((laws_toIntS.f kj73 l1).bind fun t707 => ((impl_RenameOf.f kj73 bt703.1 bt703.2 t707).bind fun bt710 => ((laws_eqOrder.f kj73 bt710.1 bt710.2.1 t665 t666).bind fun t716 => (if t716 = true then (laws_FnExactRenameOf.j2 kj73 t700 (bt710.2.2 != t669) t679 t701) else (laws_FnExactRenameOf.j2 kj73 t700 true t679 t701)))))) else (some false))) = some r := H
                      have A108 := Aside0.mk A1080
                      clear A1080
                      by_cases c109 : t702 < 0
                      · rw [if_pos c109] at H
                        have c109b0 : decide (t702 < 0) = true := decide_eq_true c109
                        clear c109
                        obtain rfl := Option.some.inj H
                        have hnb110 := NB684_656.out
                        have hnc110 := NB656_684.out
                        have hnb111 := NB684_670.out
                        have hnc111 := NB670_684.out
                        have hnb112 := NB684_675.out
                        have hnc112 := NB675_684.out
                        have hcz113_0 : wc.cell? ⟨gb684, 0, none⟩ = some (.int .i64 t679) := (blk_cell BK684.out 0).trans rfl
                        have hcz113_1 : wc.cell? ⟨gb684, 1, none⟩ = some (.slice Ao46 t680.length co46) := (blk_cell BK684.out 1).trans rfl
                        have hfz113_0 := blk_frozen BK684.out 0
                        have hfz113_1 := blk_frozen BK684.out 1
                        go_wp2_with (first | ((with_reducible refine gate_callee (f := 18) rfl ?_); refine goesL_ (some 83) rfl rfl Tryd.func18 (by kernel_rfl) rfl #[.agg #[.int .i64 t679, .slice Ao46 t680.length co46], .int .i64 1] rfl (by (try simp only [List.map_toArray, List.map_cons, List.map_nil]); first | done | rfl | (simp only [List.length_drop, List.length_take]; rfl)) ?_; (with_reducible refine (laws_markOrder.calls kj73 t679 (fun k_ => some k_ = (.slice Ao46 t680.length co46 : Value).ownBlock) (.slice Ao46 t680.length co46) t680 1 t700 t701 w _ ?side1 ?side2 A107.out).mono ?_); (case side1 => repeat (first | (with_reducible first | exact HB.out | apply below_alloc | apply pw_below_drewN | apply below_drew1 | refine below_set ?_ GE656.out | refine below_set ?_ GE670.out | refine below_set ?_ GE675.out | refine below_set ?_ GE684.out) | exact HB.out)); (case side2 => exact Kd.R_tight rfl HO_685001.out); rintro e w114 ⟨rfl, hy0, hb, hkp⟩; refine ⟨_, rfl, ?_⟩; have n0_ := Aside0.mk (Kd.R_mono (ok' := fun k_ => some k_ ≠ (.slice Ao36 t696.length co36 : Value).ownBlock ∧ some k_ ≠ (.slice Ao46 t680.length co46 : Value).ownBlock) (Kd.R_keptB (HO_671001.out) hkp (fun k_ hk_ hs_ => (hk_.2) hs_)) (fun k_ hk_ => ⟨hk_.1.1, hk_.1.2⟩)); have n1_ := Aside0.mk (Kd.R_mono (ok' := fun k_ => some k_ ≠ (.slice Ao29 t666.length co29 : Value).ownBlock ∧ some k_ ≠ (.slice Ao46 t680.length co46 : Value).ownBlock) (Kd.R_keptB (HO_676001.out) hkp (fun k_ hk_ hs_ => (hk_.2) hs_)) (fun k_ hk_ => ⟨hk_.1.1, hk_.1.2⟩)); have n2_ := Aside0.mk (Kd.R_reok rfl hy0 (fun k_ e_ => HO_685001.out.1 k_ e_)); have n3_ := Aside0.mk (blk_kept (by (with_reducible repeat (first | refine blk_drewN ?_ _ | refine blk_drew ?_ | refine blk_alloc ?_ _)); exact BK656.out) hkp (fun hs_ => (fun e_ => (Kd.R_ne HO_685001.out BK656.out (by decide)) e_) hs_)); have n4_ := Aside0.mk (blk_kept (by (with_reducible repeat (first | refine blk_drewN ?_ _ | refine blk_drew ?_ | refine blk_alloc ?_ _)); exact BK670.out) hkp (fun hs_ => (fun e_ => (Kd.R_ne HO_685001.out BK670.out (by decide)) e_) hs_)); have n5_ := Aside0.mk (blk_kept (by (with_reducible repeat (first | refine blk_drewN ?_ _ | refine blk_drew ?_ | refine blk_alloc ?_ _)); exact BK675.out) hkp (fun hs_ => (fun e_ => (Kd.R_ne HO_685001.out BK675.out (by decide)) e_) hs_)); have n6_ := Aside0.mk (blk_kept (by (with_reducible repeat (first | refine blk_drewN ?_ _ | refine blk_drew ?_ | refine blk_alloc ?_ _)); exact BK684.out) hkp (fun hs_ => (fun e_ => (Kd.R_ne HO_685001.out BK684.out (by decide)) e_) hs_)); have n7_ := Aside0.mk (hb); clear HO_671001; clear HO_676001; clear HO_685001; clear BK656; clear BK670; clear BK675; clear BK684; clear HB; have HO_671001 := n0_; have HO_676001 := n1_; have HO_685001 := n2_; have BK656 := n3_; have BK670 := n4_; have BK675 := n5_; have BK684 := n6_; have HB := n7_; clear n0_ n1_ n2_ n3_ n4_ n5_ n6_ n7_; (try clear hb); (try clear hkp); (try clear hy0); have hcz115_0 : w114.cell? ⟨gb684, 0, none⟩ = some (.int .i64 t679) := (blk_cell BK684.out 0).trans rfl; have hcz115_1 : w114.cell? ⟨gb684, 1, none⟩ = some (.slice Ao46 t680.length co46) := (blk_cell BK684.out 1).trans rfl; have hfz115_0 := blk_frozen BK684.out 0; have hfz115_1 := blk_frozen BK684.out 1) | ((with_reducible refine gate_callee (f := 20) rfl ?_); refine goesL_ (some 86) rfl rfl Tryd.func20 (by kernel_rfl) rfl #[.agg #[.int .i64 t679, .slice Ao46 t701.length co46], .int .i64 1] rfl (by (try simp only [List.map_toArray, List.map_cons, List.map_nil]); first | done | (rw [show t701.length = t680.length from (Kd.R_reads' HO_685001.out).1.symm] <;> rfl) | rfl | (simp only [List.length_drop, List.length_take]; rfl)) ?_; (with_reducible refine (laws_heldOrder.calls kj73 t679 _ _ t701 1 t702 _ ?side1 ?side2 A108.out).mono ?_); (case side1 => repeat (first | exact (Kd.R_reads' HO_685001.out).2.2 | (with_reducible refine Kd.C_alloc ?_ _) | (with_reducible refine Kd.C_drewN ?_ _) | (with_reducible refine Kd.C_drew ?_))); (case side2 => rw [show t701.length = t680.length from (Kd.R_reads' HO_685001.out).1.symm]; exact (Kd.R_reads' HO_685001.out).2.1); rintro e w116 ⟨rfl, hb⟩; refine ⟨_, rfl, ?_⟩; have n0_ := Aside0.mk (Kd.R_below (by (with_reducible repeat (first | apply Kd.R_alloc | apply Kd.R_drewN | apply Kd.R_drew)); exact HO_671001.out) hb); have n1_ := Aside0.mk (Kd.R_below (by (with_reducible repeat (first | apply Kd.R_alloc | apply Kd.R_drewN | apply Kd.R_drew)); exact HO_676001.out) hb); have n2_ := Aside0.mk (Kd.R_below (by (with_reducible repeat (first | apply Kd.R_alloc | apply Kd.R_drewN | apply Kd.R_drew)); exact HO_685001.out) hb); have n3_ := Aside0.mk (blk_below (g := gb656) (o := .cells #[.int .i64 a0_0, .slice A0_1 l0_1.length c0_1] 24 (0, 0)) (by (with_reducible repeat (first | refine blk_drewN ?_ _ | refine blk_drew ?_ | refine blk_alloc ?_ _)); exact BK656.out) hb); have n4_ := Aside0.mk (blk_below (g := gb670) (o := .cells #[.int .i64 t665, .slice Ao29 t666.length co29] 26 (0, 0)) (by (with_reducible repeat (first | refine blk_drewN ?_ _ | refine blk_drew ?_ | refine blk_alloc ?_ _)); exact BK670.out) hb); have n5_ := Aside0.mk (blk_below (g := gb675) (o := .cells #[.int .i64 t671, .slice Ao36 t696.length co36] 26 (0, 0)) (by (with_reducible repeat (first | refine blk_drewN ?_ _ | refine blk_drew ?_ | refine blk_alloc ?_ _)); exact BK675.out) hb); have n6_ := Aside0.mk (blk_below (g := gb684) (o := .cells #[.int .i64 t679, .slice Ao46 t680.length co46] 26 (0, 0)) (by (with_reducible repeat (first | refine blk_drewN ?_ _ | refine blk_drew ?_ | refine blk_alloc ?_ _)); exact BK684.out) hb); have n7_ := Aside0.mk (below_step (by repeat (first | (with_reducible first | exact HB.out | apply below_alloc | apply pw_below_drewN | apply below_drew1 | refine below_set ?_ GE656.out | refine below_set ?_ GE670.out | refine below_set ?_ GE675.out | refine below_set ?_ GE684.out) | exact HB.out)) hb); clear HO_671001; clear HO_676001; clear HO_685001; clear BK656; clear BK670; clear BK675; clear BK684; clear HB; have HO_671001 := n0_; have HO_676001 := n1_; have HO_685001 := n2_; have BK656 := n3_; have BK670 := n4_; have BK675 := n5_; have BK684 := n6_; have HB := n7_; clear n0_ n1_ n2_ n3_ n4_ n5_ n6_ n7_; (try clear hb); (try clear hb2); (try clear hk); (try clear hi)))
                        go_ret
                        exact ⟨by first | rfl | (simp [errW_none, errW_some] <;> rfl) | (simp [*, errW_none, errW_some] <;> rfl), by repeat (first | (with_reducible first | exact HB.out | apply below_alloc | apply pw_below_drewN | apply below_drew1 | refine below_set ?_ GE656.out | refine below_set ?_ GE670.out | refine below_set ?_ GE675.out | refine below_set ?_ GE684.out) | exact HB.out)⟩
                      · rw [if_neg c109] at H
                        have c109b0 : decide (t702 < 0) = false := decide_eq_false c109
                        clear c109
                        by_cases c117 : t702 = t700
                        · rw [if_pos c117] at H
                          have c117b0 : (t702 == t700) = true := beq_iff_eq.mpr c117
                          have c117b1 : (t702 != t700) = false := bne_eq_false_iff_eq.mpr c117
                          clear c117
                          replace H := Option.bind_eq_some_iff.mp H
                          obtain ⟨⟨t703, t704⟩, A1180, H⟩ := H
                          replace H : ((laws_toIntS.f kj73 l1).bind fun t707 => ((impl_RenameOf.f kj73 t703 t704 t707).bind fun bt710 => ((laws_eqOrder.f kj73 bt710.1 bt710.2.1 t665 t666).bind fun t716 => (if t716 = true then (laws_FnExactRenameOf.j2 kj73 t700 (bt710.2.2 != t669) t679 t701) else (laws_FnExactRenameOf.j2 kj73 t700 true t679 t701))))) = some r := H
                          have A118 := Aside0.mk A1180
                          clear A1180
                          replace H := Option.bind_eq_some_iff.mp H
                          obtain ⟨t707, A1190, H⟩ := H
                          replace H : ((impl_RenameOf.f kj73 t703 t704 t707).bind fun bt710 => ((laws_eqOrder.f kj73 bt710.1 bt710.2.1 t665 t666).bind fun t716 => (if t716 = true then (laws_FnExactRenameOf.j2 kj73 t700 (bt710.2.2 != t669) t679 t701) else (laws_FnExactRenameOf.j2 kj73 t700 true t679 t701)))) = some r := H
                          have A119 := Aside0.mk A1190
                          clear A1190
                          replace H := Option.bind_eq_some_iff.mp H
                          obtain ⟨⟨t710, t711, t714⟩, A1200, H⟩ := H
                          replace H : ((laws_eqOrder.f kj73 t710 t711 t665 t666).bind fun t716 => (if t716 = true then (laws_FnExactRenameOf.j2 kj73 t700 (t714 != t669) t679 t701) else (laws_FnExactRenameOf.j2 kj73 t700 true t679 t701))) = some r := H
                          have A120 := Aside0.mk A1200
                          clear A1200
                          have HC121 := Aside0.mk H
                          clear H
                          have hnb122 := NB684_656.out
                          have hnc122 := NB656_684.out
                          have hnb123 := NB684_670.out
                          have hnc123 := NB670_684.out
                          have hnb124 := NB684_675.out
                          have hnc124 := NB675_684.out
                          have hcz125_0 : wc.cell? ⟨gb684, 0, none⟩ = some (.int .i64 t679) := (blk_cell BK684.out 0).trans rfl
                          have hcz125_1 : wc.cell? ⟨gb684, 1, none⟩ = some (.slice Ao46 t680.length co46) := (blk_cell BK684.out 1).trans rfl
                          have hfz125_0 := blk_frozen BK684.out 0
                          have hfz125_1 := blk_frozen BK684.out 1
                          go_upto_region 31 with (first | ((with_reducible refine gate_callee (f := 18) rfl ?_); refine goesL_ (some 83) rfl rfl Tryd.func18 (by kernel_rfl) rfl #[.agg #[.int .i64 t679, .slice Ao46 t680.length co46], .int .i64 1] rfl (by (try simp only [List.map_toArray, List.map_cons, List.map_nil]); first | done | rfl | (simp only [List.length_drop, List.length_take]; rfl)) ?_; (with_reducible refine (laws_markOrder.calls kj73 t679 (fun k_ => some k_ = (.slice Ao46 t680.length co46 : Value).ownBlock) (.slice Ao46 t680.length co46) t680 1 t700 t701 w _ ?side1 ?side2 A107.out).mono ?_); (case side1 => repeat (first | (with_reducible first | exact HB.out | apply below_alloc | apply pw_below_drewN | apply below_drew1 | refine below_set ?_ GE656.out | refine below_set ?_ GE670.out | refine below_set ?_ GE675.out | refine below_set ?_ GE684.out) | exact HB.out)); (case side2 => exact Kd.R_tight rfl HO_685001.out); rintro e w126 ⟨rfl, hy0, hb, hkp⟩; refine ⟨_, rfl, ?_⟩; have n0_ := Aside0.mk (Kd.R_mono (ok' := fun k_ => some k_ ≠ (.slice Ao36 t696.length co36 : Value).ownBlock ∧ some k_ ≠ (.slice Ao46 t680.length co46 : Value).ownBlock) (Kd.R_keptB (HO_671001.out) hkp (fun k_ hk_ hs_ => (hk_.2) hs_)) (fun k_ hk_ => ⟨hk_.1.1, hk_.1.2⟩)); have n1_ := Aside0.mk (Kd.R_mono (ok' := fun k_ => some k_ ≠ (.slice Ao29 t666.length co29 : Value).ownBlock ∧ some k_ ≠ (.slice Ao46 t680.length co46 : Value).ownBlock) (Kd.R_keptB (HO_676001.out) hkp (fun k_ hk_ hs_ => (hk_.2) hs_)) (fun k_ hk_ => ⟨hk_.1.1, hk_.1.2⟩)); have n2_ := Aside0.mk (Kd.R_reok rfl hy0 (fun k_ e_ => HO_685001.out.1 k_ e_)); have n3_ := Aside0.mk (blk_kept (by (with_reducible repeat (first | refine blk_drewN ?_ _ | refine blk_drew ?_ | refine blk_alloc ?_ _)); exact BK656.out) hkp (fun hs_ => (fun e_ => (Kd.R_ne HO_685001.out BK656.out (by decide)) e_) hs_)); have n4_ := Aside0.mk (blk_kept (by (with_reducible repeat (first | refine blk_drewN ?_ _ | refine blk_drew ?_ | refine blk_alloc ?_ _)); exact BK670.out) hkp (fun hs_ => (fun e_ => (Kd.R_ne HO_685001.out BK670.out (by decide)) e_) hs_)); have n5_ := Aside0.mk (blk_kept (by (with_reducible repeat (first | refine blk_drewN ?_ _ | refine blk_drew ?_ | refine blk_alloc ?_ _)); exact BK675.out) hkp (fun hs_ => (fun e_ => (Kd.R_ne HO_685001.out BK675.out (by decide)) e_) hs_)); have n6_ := Aside0.mk (blk_kept (by (with_reducible repeat (first | refine blk_drewN ?_ _ | refine blk_drew ?_ | refine blk_alloc ?_ _)); exact BK684.out) hkp (fun hs_ => (fun e_ => (Kd.R_ne HO_685001.out BK684.out (by decide)) e_) hs_)); have n7_ := Aside0.mk (hb); clear HO_671001; clear HO_676001; clear HO_685001; clear BK656; clear BK670; clear BK675; clear BK684; clear HB; have HO_671001 := n0_; have HO_676001 := n1_; have HO_685001 := n2_; have BK656 := n3_; have BK670 := n4_; have BK675 := n5_; have BK684 := n6_; have HB := n7_; clear n0_ n1_ n2_ n3_ n4_ n5_ n6_ n7_; (try clear hb); (try clear hkp); (try clear hy0); have hcz127_0 : w126.cell? ⟨gb684, 0, none⟩ = some (.int .i64 t679) := (blk_cell BK684.out 0).trans rfl; have hcz127_1 : w126.cell? ⟨gb684, 1, none⟩ = some (.slice Ao46 t680.length co46) := (blk_cell BK684.out 1).trans rfl; have hfz127_0 := blk_frozen BK684.out 0; have hfz127_1 := blk_frozen BK684.out 1) | ((with_reducible refine gate_callee (f := 20) rfl ?_); refine goesL_ (some 86) rfl rfl Tryd.func20 (by kernel_rfl) rfl #[.agg #[.int .i64 t679, .slice Ao46 t701.length co46], .int .i64 1] rfl (by (try simp only [List.map_toArray, List.map_cons, List.map_nil]); first | done | (rw [show t701.length = t680.length from (Kd.R_reads' HO_685001.out).1.symm] <;> rfl) | rfl | (simp only [List.length_drop, List.length_take]; rfl)) ?_; (with_reducible refine (laws_heldOrder.calls kj73 t679 _ _ t701 1 t702 _ ?side1 ?side2 A108.out).mono ?_); (case side1 => repeat (first | exact (Kd.R_reads' HO_685001.out).2.2 | (with_reducible refine Kd.C_alloc ?_ _) | (with_reducible refine Kd.C_drewN ?_ _) | (with_reducible refine Kd.C_drew ?_))); (case side2 => rw [show t701.length = t680.length from (Kd.R_reads' HO_685001.out).1.symm]; exact (Kd.R_reads' HO_685001.out).2.1); rintro e w128 ⟨rfl, hb⟩; refine ⟨_, rfl, ?_⟩; have n0_ := Aside0.mk (Kd.R_below (by (with_reducible repeat (first | apply Kd.R_alloc | apply Kd.R_drewN | apply Kd.R_drew)); exact HO_671001.out) hb); have n1_ := Aside0.mk (Kd.R_below (by (with_reducible repeat (first | apply Kd.R_alloc | apply Kd.R_drewN | apply Kd.R_drew)); exact HO_676001.out) hb); have n2_ := Aside0.mk (Kd.R_below (by (with_reducible repeat (first | apply Kd.R_alloc | apply Kd.R_drewN | apply Kd.R_drew)); exact HO_685001.out) hb); have n3_ := Aside0.mk (blk_below (g := gb656) (o := .cells #[.int .i64 a0_0, .slice A0_1 l0_1.length c0_1] 24 (0, 0)) (by (with_reducible repeat (first | refine blk_drewN ?_ _ | refine blk_drew ?_ | refine blk_alloc ?_ _)); exact BK656.out) hb); have n4_ := Aside0.mk (blk_below (g := gb670) (o := .cells #[.int .i64 t665, .slice Ao29 t666.length co29] 26 (0, 0)) (by (with_reducible repeat (first | refine blk_drewN ?_ _ | refine blk_drew ?_ | refine blk_alloc ?_ _)); exact BK670.out) hb); have n5_ := Aside0.mk (blk_below (g := gb675) (o := .cells #[.int .i64 t671, .slice Ao36 t696.length co36] 26 (0, 0)) (by (with_reducible repeat (first | refine blk_drewN ?_ _ | refine blk_drew ?_ | refine blk_alloc ?_ _)); exact BK675.out) hb); have n6_ := Aside0.mk (blk_below (g := gb684) (o := .cells #[.int .i64 t679, .slice Ao46 t680.length co46] 26 (0, 0)) (by (with_reducible repeat (first | refine blk_drewN ?_ _ | refine blk_drew ?_ | refine blk_alloc ?_ _)); exact BK684.out) hb); have n7_ := Aside0.mk (below_step (by repeat (first | (with_reducible first | exact HB.out | apply below_alloc | apply pw_below_drewN | apply below_drew1 | refine below_set ?_ GE656.out | refine below_set ?_ GE670.out | refine below_set ?_ GE675.out | refine below_set ?_ GE684.out) | exact HB.out)) hb); clear HO_671001; clear HO_676001; clear HO_685001; clear BK656; clear BK670; clear BK675; clear BK684; clear HB; have HO_671001 := n0_; have HO_676001 := n1_; have HO_685001 := n2_; have BK656 := n3_; have BK670 := n4_; have BK675 := n5_; have BK684 := n6_; have HB := n7_; clear n0_ n1_ n2_ n3_ n4_ n5_ n6_ n7_; (try clear hb); (try clear hb2); (try clear hk); (try clear hi); have hnb129 := NB656_670.out; have hnc129 := NB670_656.out; have hnb130 := NB656_675.out; have hnc130 := NB675_656.out; have hcz131_0 : w128.cell? ⟨gb656, 0, none⟩ = some (.int .i64 a0_0) := (blk_cell BK656.out 0).trans rfl; have hcz131_1 : w128.cell? ⟨gb656, 1, none⟩ = some (.slice A0_1 l0_1.length c0_1) := (blk_cell BK656.out 1).trans rfl; have hfz131_0 := blk_frozen BK656.out 0; have hfz131_1 := blk_frozen BK656.out 1) | ((with_reducible refine gate_callee (f := 13) rfl ?_); refine goesL_ (some 94) rfl rfl Tryd.func13 (by kernel_rfl) rfl #[.agg #[.int .i64 a0_0, .slice A0_1 l0_1.length c0_1]] rfl (by (try simp only [List.map_toArray, List.map_cons, List.map_nil]); first | done | rfl | (simp only [List.length_drop, List.length_take]; rfl)) ?_; (with_reducible refine (laws_toOrder.calls kj73 a0_0 _ _ l0_1 t703 t704 _ ?side1 ?side2 A118.out).mono ?_); (case side1 => repeat (first | exact (Kd.C_below HR0_1.out HB.out) | (with_reducible refine Kd.C_alloc ?_ _) | (with_reducible refine Kd.C_drewN ?_ _) | (with_reducible refine Kd.C_drew ?_))); (case side2 => exact HC0_1.out); rintro e w132 ⟨v705, rfl, ho0, hb⟩; refine ⟨_, rfl, ?_⟩; have n0_ := Aside0.mk (Kd.R_elder' (by (with_reducible repeat (first | apply Kd.R_alloc | apply Kd.R_drewN | apply Kd.R_drew)); exact HO_671001.out) (Kd.R_base ho0) hb); have n1_ := Aside0.mk (Kd.R_elder' (by (with_reducible repeat (first | apply Kd.R_alloc | apply Kd.R_drewN | apply Kd.R_drew)); exact HO_676001.out) (Kd.R_base ho0) hb); have n2_ := Aside0.mk (Kd.R_elder' (by (with_reducible repeat (first | apply Kd.R_alloc | apply Kd.R_drewN | apply Kd.R_drew)); exact HO_685001.out) (Kd.R_base ho0) hb); have n3_ := Aside0.mk (Kd.R_lower (Kd.R_new' (Kd.R_new' (Kd.R_new' ho0 (Kd.R_lt (by (with_reducible repeat (first | apply Kd.R_alloc | apply Kd.R_drewN | apply Kd.R_drew)); exact HO_671001.out))) (Kd.R_lt (by (with_reducible repeat (first | apply Kd.R_alloc | apply Kd.R_drewN | apply Kd.R_drew)); exact HO_676001.out))) (Kd.R_lt (by (with_reducible repeat (first | apply Kd.R_alloc | apply Kd.R_drewN | apply Kd.R_drew)); exact HO_685001.out))) (below_size (by repeat (first | (with_reducible first | exact HB.out | apply below_alloc | apply pw_below_drewN | apply below_drew1 | refine below_set ?_ GE656.out | refine below_set ?_ GE670.out | refine below_set ?_ GE675.out | refine below_set ?_ GE684.out) | exact HB.out)))); have n4_ := Aside0.mk (blk_below (g := gb656) (o := .cells #[.int .i64 a0_0, .slice A0_1 l0_1.length c0_1] 24 (0, 0)) (by (with_reducible repeat (first | refine blk_drewN ?_ _ | refine blk_drew ?_ | refine blk_alloc ?_ _)); exact BK656.out) hb); have n5_ := Aside0.mk (blk_below (g := gb670) (o := .cells #[.int .i64 t665, .slice Ao29 t666.length co29] 26 (0, 0)) (by (with_reducible repeat (first | refine blk_drewN ?_ _ | refine blk_drew ?_ | refine blk_alloc ?_ _)); exact BK670.out) hb); have n6_ := Aside0.mk (blk_below (g := gb675) (o := .cells #[.int .i64 t671, .slice Ao36 t696.length co36] 26 (0, 0)) (by (with_reducible repeat (first | refine blk_drewN ?_ _ | refine blk_drew ?_ | refine blk_alloc ?_ _)); exact BK675.out) hb); have n7_ := Aside0.mk (blk_below (g := gb684) (o := .cells #[.int .i64 t679, .slice Ao46 t680.length co46] 26 (0, 0)) (by (with_reducible repeat (first | refine blk_drewN ?_ _ | refine blk_drew ?_ | refine blk_alloc ?_ _)); exact BK684.out) hb); have n8_ := Aside0.mk (below_step (by repeat (first | (with_reducible first | exact HB.out | apply below_alloc | apply pw_below_drewN | apply below_drew1 | refine below_set ?_ GE656.out | refine below_set ?_ GE670.out | refine below_set ?_ GE675.out | refine below_set ?_ GE684.out) | exact HB.out)) hb); clear HO_671001; clear HO_676001; clear HO_685001; clear BK656; clear BK670; clear BK675; clear BK684; clear HB; have HO_671001 := n0_; have HO_676001 := n1_; have HO_685001 := n2_; have HO706 := n3_; have BK656 := n4_; have BK670 := n5_; have BK675 := n6_; have BK684 := n7_; have HB := n8_; clear n0_ n1_ n2_ n3_ n4_ n5_ n6_ n7_ n8_; (try clear hb); (try clear hb2); (try clear hk); (try clear hi); (try clear ho0)) | ((with_reducible refine gate_callee (f := 14) rfl ?_); refine goesL_ (some 96) rfl rfl Tryd.func14 (by kernel_rfl) rfl #[.slice A1 l1.length c1] rfl (by (try simp only [List.map_toArray, List.map_cons, List.map_nil]); first | done | rfl | (simp only [List.length_drop, List.length_take]; rfl)) ?_; (with_reducible refine (laws_toIntS.calls kj73 _ _ l1 t707 _ ?side1 ?side2 A119.out).mono ?_); (case side1 => repeat (first | exact (Kd.C_below HR1.out HB.out) | (with_reducible refine Kd.C_alloc ?_ _) | (with_reducible refine Kd.C_drewN ?_ _) | (with_reducible refine Kd.C_drew ?_))); (case side2 => exact HC1.out); rintro e w133 ⟨v708, rfl, ho0, hb⟩; refine ⟨_, rfl, ?_⟩; have n0_ := Aside0.mk (Kd.R_elder' (by (with_reducible repeat (first | apply Kd.R_alloc | apply Kd.R_drewN | apply Kd.R_drew)); exact HO_671001.out) (Kd.R_base ho0) hb); have n1_ := Aside0.mk (Kd.R_elder' (by (with_reducible repeat (first | apply Kd.R_alloc | apply Kd.R_drewN | apply Kd.R_drew)); exact HO_676001.out) (Kd.R_base ho0) hb); have n2_ := Aside0.mk (Kd.R_elder' (by (with_reducible repeat (first | apply Kd.R_alloc | apply Kd.R_drewN | apply Kd.R_drew)); exact HO_685001.out) (Kd.R_base ho0) hb); have n3_ := Aside0.mk (Kd.R_elder' (by (with_reducible repeat (first | apply Kd.R_alloc | apply Kd.R_drewN | apply Kd.R_drew)); exact HO706.out) (Kd.R_base ho0) hb); have n4_ := Aside0.mk (Kd.R_lower (Kd.R_new' (Kd.R_new' (Kd.R_new' (Kd.R_new' ho0 (Kd.R_lt (by (with_reducible repeat (first | apply Kd.R_alloc | apply Kd.R_drewN | apply Kd.R_drew)); exact HO_671001.out))) (Kd.R_lt (by (with_reducible repeat (first | apply Kd.R_alloc | apply Kd.R_drewN | apply Kd.R_drew)); exact HO_676001.out))) (Kd.R_lt (by (with_reducible repeat (first | apply Kd.R_alloc | apply Kd.R_drewN | apply Kd.R_drew)); exact HO_685001.out))) (Kd.R_lt (by (with_reducible repeat (first | apply Kd.R_alloc | apply Kd.R_drewN | apply Kd.R_drew)); exact HO706.out))) (below_size (by repeat (first | (with_reducible first | exact HB.out | apply below_alloc | apply pw_below_drewN | apply below_drew1 | refine below_set ?_ GE656.out | refine below_set ?_ GE670.out | refine below_set ?_ GE675.out | refine below_set ?_ GE684.out) | exact HB.out)))); have n5_ := Aside0.mk (blk_below (g := gb656) (o := .cells #[.int .i64 a0_0, .slice A0_1 l0_1.length c0_1] 24 (0, 0)) (by (with_reducible repeat (first | refine blk_drewN ?_ _ | refine blk_drew ?_ | refine blk_alloc ?_ _)); exact BK656.out) hb); have n6_ := Aside0.mk (blk_below (g := gb670) (o := .cells #[.int .i64 t665, .slice Ao29 t666.length co29] 26 (0, 0)) (by (with_reducible repeat (first | refine blk_drewN ?_ _ | refine blk_drew ?_ | refine blk_alloc ?_ _)); exact BK670.out) hb); have n7_ := Aside0.mk (blk_below (g := gb675) (o := .cells #[.int .i64 t671, .slice Ao36 t696.length co36] 26 (0, 0)) (by (with_reducible repeat (first | refine blk_drewN ?_ _ | refine blk_drew ?_ | refine blk_alloc ?_ _)); exact BK675.out) hb); have n8_ := Aside0.mk (blk_below (g := gb684) (o := .cells #[.int .i64 t679, .slice Ao46 t680.length co46] 26 (0, 0)) (by (with_reducible repeat (first | refine blk_drewN ?_ _ | refine blk_drew ?_ | refine blk_alloc ?_ _)); exact BK684.out) hb); have n9_ := Aside0.mk (below_step (by repeat (first | (with_reducible first | exact HB.out | apply below_alloc | apply pw_below_drewN | apply below_drew1 | refine below_set ?_ GE656.out | refine below_set ?_ GE670.out | refine below_set ?_ GE675.out | refine below_set ?_ GE684.out) | exact HB.out)) hb); clear HO_671001; clear HO_676001; clear HO_685001; clear HO706; clear BK656; clear BK670; clear BK675; clear BK684; clear HB; have HO_671001 := n0_; have HO_676001 := n1_; have HO_685001 := n2_; have HO706 := n3_; have HO709 := n4_; have BK656 := n5_; have BK670 := n6_; have BK675 := n7_; have BK684 := n8_; have HB := n9_; clear n0_ n1_ n2_ n3_ n4_ n5_ n6_ n7_ n8_ n9_; (try clear hb); (try clear hb2); (try clear hk); (try clear hi); (try clear ho0); obtain ⟨Ao134, co134, eo134⟩ := Kd.R_slice HO706.out; subst eo134; obtain ⟨Ao135, co135, eo135⟩ := Kd.R_slice HO709.out; subst eo135) | ((with_reducible refine gate_callee (f := 15) rfl ?_); refine goesL_ (some 97) rfl rfl Tryd.func15 (by kernel_rfl) rfl #[.agg #[.int .i64 t703, .slice Ao134 t704.length co134], .slice Ao135 t707.length co135] rfl (by (try simp only [List.map_toArray, List.map_cons, List.map_nil]); first | done | rfl | (simp only [List.length_drop, List.length_take]; rfl)) ?_; (with_reducible refine (impl_RenameOf.calls kj73 t703 _ _ t704 _ _ t707 t710 t711 t714 _ ?side1 ?side2 ?side3 ?side4 ?side5 A120.out).mono ?_); (case side1 => repeat (first | exact (Kd.R_reads' HO706.out).2.2 | (with_reducible refine Kd.C_alloc ?_ _) | (with_reducible refine Kd.C_drewN ?_ _) | (with_reducible refine Kd.C_drew ?_))); (case side2 => exact (Kd.R_reads' HO706.out).2.1); (case side3 => repeat (first | exact (Kd.R_reads' HO709.out).2.2 | (with_reducible refine Kd.C_alloc ?_ _) | (with_reducible refine Kd.C_drewN ?_ _) | (with_reducible refine Kd.C_drew ?_))); (case side4 => exact (Kd.R_reads' HO709.out).2.1); (case side5 => exact TzW.below HT.out (by repeat (first | (with_reducible first | exact HB.out | apply below_alloc | apply pw_below_drewN | apply below_drew1 | refine below_set ?_ GE656.out | refine below_set ?_ GE670.out | refine below_set ?_ GE675.out | refine below_set ?_ GE684.out) | exact HB.out))); rintro e w136 ⟨v712, rfl, ho0, hb⟩; refine ⟨_, rfl, ?_⟩; have n0_ := Aside0.mk (Kd.R_elder' (by (with_reducible repeat (first | apply Kd.R_alloc | apply Kd.R_drewN | apply Kd.R_drew)); exact HO_671001.out) (Kd.R_base ho0) hb); have n1_ := Aside0.mk (Kd.R_elder' (by (with_reducible repeat (first | apply Kd.R_alloc | apply Kd.R_drewN | apply Kd.R_drew)); exact HO_676001.out) (Kd.R_base ho0) hb); have n2_ := Aside0.mk (Kd.R_elder' (by (with_reducible repeat (first | apply Kd.R_alloc | apply Kd.R_drewN | apply Kd.R_drew)); exact HO_685001.out) (Kd.R_base ho0) hb); have n3_ := Aside0.mk (Kd.R_elder' (by (with_reducible repeat (first | apply Kd.R_alloc | apply Kd.R_drewN | apply Kd.R_drew)); exact HO706.out) (Kd.R_base ho0) hb); have n4_ := Aside0.mk (Kd.R_elder' (by (with_reducible repeat (first | apply Kd.R_alloc | apply Kd.R_drewN | apply Kd.R_drew)); exact HO709.out) (Kd.R_base ho0) hb); have n5_ := Aside0.mk (Kd.R_lower (Kd.R_new' (Kd.R_new' (Kd.R_new' (Kd.R_new' (Kd.R_new' ho0 (Kd.R_lt (by (with_reducible repeat (first | apply Kd.R_alloc | apply Kd.R_drewN | apply Kd.R_drew)); exact HO_671001.out))) (Kd.R_lt (by (with_reducible repeat (first | apply Kd.R_alloc | apply Kd.R_drewN | apply Kd.R_drew)); exact HO_676001.out))) (Kd.R_lt (by (with_reducible repeat (first | apply Kd.R_alloc | apply Kd.R_drewN | apply Kd.R_drew)); exact HO_685001.out))) (Kd.R_lt (by (with_reducible repeat (first | apply Kd.R_alloc | apply Kd.R_drewN | apply Kd.R_drew)); exact HO706.out))) (Kd.R_lt (by (with_reducible repeat (first | apply Kd.R_alloc | apply Kd.R_drewN | apply Kd.R_drew)); exact HO709.out))) (below_size (by repeat (first | (with_reducible first | exact HB.out | apply below_alloc | apply pw_below_drewN | apply below_drew1 | refine below_set ?_ GE656.out | refine below_set ?_ GE670.out | refine below_set ?_ GE675.out | refine below_set ?_ GE684.out) | exact HB.out)))); have n6_ := Aside0.mk (blk_below (g := gb656) (o := .cells #[.int .i64 a0_0, .slice A0_1 l0_1.length c0_1] 24 (0, 0)) (by (with_reducible repeat (first | refine blk_drewN ?_ _ | refine blk_drew ?_ | refine blk_alloc ?_ _)); exact BK656.out) hb); have n7_ := Aside0.mk (blk_below (g := gb670) (o := .cells #[.int .i64 t665, .slice Ao29 t666.length co29] 26 (0, 0)) (by (with_reducible repeat (first | refine blk_drewN ?_ _ | refine blk_drew ?_ | refine blk_alloc ?_ _)); exact BK670.out) hb); have n8_ := Aside0.mk (blk_below (g := gb675) (o := .cells #[.int .i64 t671, .slice Ao36 t696.length co36] 26 (0, 0)) (by (with_reducible repeat (first | refine blk_drewN ?_ _ | refine blk_drew ?_ | refine blk_alloc ?_ _)); exact BK675.out) hb); have n9_ := Aside0.mk (blk_below (g := gb684) (o := .cells #[.int .i64 t679, .slice Ao46 t680.length co46] 26 (0, 0)) (by (with_reducible repeat (first | refine blk_drewN ?_ _ | refine blk_drew ?_ | refine blk_alloc ?_ _)); exact BK684.out) hb); have n10_ := Aside0.mk (below_step (by repeat (first | (with_reducible first | exact HB.out | apply below_alloc | apply pw_below_drewN | apply below_drew1 | refine below_set ?_ GE656.out | refine below_set ?_ GE670.out | refine below_set ?_ GE675.out | refine below_set ?_ GE684.out) | exact HB.out)) hb); clear HO_671001; clear HO_676001; clear HO_685001; clear HO706; clear HO709; clear BK656; clear BK670; clear BK675; clear BK684; clear HB; have HO_671001 := n0_; have HO_676001 := n1_; have HO_685001 := n2_; have HO706 := n3_; have HO709 := n4_; have HO713 := n5_; have BK656 := n6_; have BK670 := n7_; have BK675 := n8_; have BK684 := n9_; have HB := n10_; clear n0_ n1_ n2_ n3_ n4_ n5_ n6_ n7_ n8_ n9_ n10_; (try clear hb); (try clear hb2); (try clear hk); (try clear hi); (try clear ho0)) | ((with_reducible refine gate_dst (N := 15) rfl ?_); refine box_event ?hg (N := 15) ?hd (cs := #[.int .i64 0, .slice none 0 0]) (t := 26) ?hr ?_; (case hd => rfl); (case hg => rfl); (case hr => first | (go_simp; done) | (go_simp; rfl)); intro gb715 hg w137 hbox hb; have n0_ := Aside0.mk (Kd.R_below (by (with_reducible repeat (first | apply Kd.R_alloc | apply Kd.R_drewN | apply Kd.R_drew)); exact HO_671001.out) hb); have n1_ := Aside0.mk (Kd.R_below (by (with_reducible repeat (first | apply Kd.R_alloc | apply Kd.R_drewN | apply Kd.R_drew)); exact HO_676001.out) hb); have n2_ := Aside0.mk (Kd.R_below (by (with_reducible repeat (first | apply Kd.R_alloc | apply Kd.R_drewN | apply Kd.R_drew)); exact HO_685001.out) hb); have n3_ := Aside0.mk (Kd.R_below (by (with_reducible repeat (first | apply Kd.R_alloc | apply Kd.R_drewN | apply Kd.R_drew)); exact HO706.out) hb); have n4_ := Aside0.mk (Kd.R_below (by (with_reducible repeat (first | apply Kd.R_alloc | apply Kd.R_drewN | apply Kd.R_drew)); exact HO709.out) hb); have n5_ := Aside0.mk (Kd.R_below (by (with_reducible repeat (first | apply Kd.R_alloc | apply Kd.R_drewN | apply Kd.R_drew)); exact HO713.out) hb); have n6_ := Aside0.mk (blk_below (g := gb656) (o := .cells #[.int .i64 a0_0, .slice A0_1 l0_1.length c0_1] 24 (0, 0)) (by (with_reducible repeat (first | refine blk_drewN ?_ _ | refine blk_drew ?_ | refine blk_alloc ?_ _)); exact BK656.out) hb); have n7_ := Aside0.mk (blk_below (g := gb670) (o := .cells #[.int .i64 t665, .slice Ao29 t666.length co29] 26 (0, 0)) (by (with_reducible repeat (first | refine blk_drewN ?_ _ | refine blk_drew ?_ | refine blk_alloc ?_ _)); exact BK670.out) hb); have n8_ := Aside0.mk (blk_below (g := gb675) (o := .cells #[.int .i64 t671, .slice Ao36 t696.length co36] 26 (0, 0)) (by (with_reducible repeat (first | refine blk_drewN ?_ _ | refine blk_drew ?_ | refine blk_alloc ?_ _)); exact BK675.out) hb); have n9_ := Aside0.mk (blk_below (g := gb684) (o := .cells #[.int .i64 t679, .slice Ao46 t680.length co46] 26 (0, 0)) (by (with_reducible repeat (first | refine blk_drewN ?_ _ | refine blk_drew ?_ | refine blk_alloc ?_ _)); exact BK684.out) hb); have n10_ := Aside0.mk (below_step (by repeat (first | (with_reducible first | exact HB.out | apply below_alloc | apply pw_below_drewN | apply below_drew1 | refine below_set ?_ GE656.out | refine below_set ?_ GE670.out | refine below_set ?_ GE675.out | refine below_set ?_ GE684.out) | exact HB.out)) hb); have n11_ := Aside0.mk (hbox); have n12_ := Aside0.mk ((by rw [hg]; exact (below_size (by repeat (first | (with_reducible first | exact HB.out | apply below_alloc | apply pw_below_drewN | apply below_drew1 | refine below_set ?_ GE656.out | refine below_set ?_ GE670.out | refine below_set ?_ GE675.out | refine below_set ?_ GE684.out) | exact HB.out))) : w.heap.size ≤ gb715)); have n13_ := Aside0.mk ((by rw [hg]; exact (below_size (by repeat (first | (with_reducible first | exact HB.out | apply below_alloc | apply pw_below_drewN | apply below_drew1 | refine below_set ?_ GE656.out | refine below_set ?_ GE670.out | refine below_set ?_ GE675.out | refine below_set ?_ GE684.out) | exact HB.out))) : w.heap.size ≤ gb715)); have n14_ := Aside0.mk ((by rw [hg]; exact Nat.ne_of_lt (blk_lt (g := gb656) (o := .cells #[.int .i64 a0_0, .slice A0_1 l0_1.length c0_1] 24 (0, 0)) (by (with_reducible repeat (first | refine blk_drewN ?_ _ | refine blk_drew ?_ | refine blk_alloc ?_ _)); exact BK656.out)) : gb656 ≠ gb715)); have n15_ := Aside0.mk ((by rw [hg]; exact Nat.ne_of_gt (blk_lt (g := gb656) (o := .cells #[.int .i64 a0_0, .slice A0_1 l0_1.length c0_1] 24 (0, 0)) (by (with_reducible repeat (first | refine blk_drewN ?_ _ | refine blk_drew ?_ | refine blk_alloc ?_ _)); exact BK656.out)) : gb715 ≠ gb656)); have n16_ := Aside0.mk ((by rw [hg]; exact Nat.ne_of_lt (blk_lt (g := gb670) (o := .cells #[.int .i64 t665, .slice Ao29 t666.length co29] 26 (0, 0)) (by (with_reducible repeat (first | refine blk_drewN ?_ _ | refine blk_drew ?_ | refine blk_alloc ?_ _)); exact BK670.out)) : gb670 ≠ gb715)); have n17_ := Aside0.mk ((by rw [hg]; exact Nat.ne_of_gt (blk_lt (g := gb670) (o := .cells #[.int .i64 t665, .slice Ao29 t666.length co29] 26 (0, 0)) (by (with_reducible repeat (first | refine blk_drewN ?_ _ | refine blk_drew ?_ | refine blk_alloc ?_ _)); exact BK670.out)) : gb715 ≠ gb670)); have n18_ := Aside0.mk ((by rw [hg]; exact Nat.ne_of_lt (blk_lt (g := gb675) (o := .cells #[.int .i64 t671, .slice Ao36 t696.length co36] 26 (0, 0)) (by (with_reducible repeat (first | refine blk_drewN ?_ _ | refine blk_drew ?_ | refine blk_alloc ?_ _)); exact BK675.out)) : gb675 ≠ gb715)); have n19_ := Aside0.mk ((by rw [hg]; exact Nat.ne_of_gt (blk_lt (g := gb675) (o := .cells #[.int .i64 t671, .slice Ao36 t696.length co36] 26 (0, 0)) (by (with_reducible repeat (first | refine blk_drewN ?_ _ | refine blk_drew ?_ | refine blk_alloc ?_ _)); exact BK675.out)) : gb715 ≠ gb675)); have n20_ := Aside0.mk ((by rw [hg]; exact Nat.ne_of_lt (blk_lt (g := gb684) (o := .cells #[.int .i64 t679, .slice Ao46 t680.length co46] 26 (0, 0)) (by (with_reducible repeat (first | refine blk_drewN ?_ _ | refine blk_drew ?_ | refine blk_alloc ?_ _)); exact BK684.out)) : gb684 ≠ gb715)); have n21_ := Aside0.mk ((by rw [hg]; exact Nat.ne_of_gt (blk_lt (g := gb684) (o := .cells #[.int .i64 t679, .slice Ao46 t680.length co46] 26 (0, 0)) (by (with_reducible repeat (first | refine blk_drewN ?_ _ | refine blk_drew ?_ | refine blk_alloc ?_ _)); exact BK684.out)) : gb715 ≠ gb684)); clear HO_671001; clear HO_676001; clear HO_685001; clear HO706; clear HO709; clear HO713; clear BK656; clear BK670; clear BK675; clear BK684; clear HB; have HO_671001 := n0_; have HO_676001 := n1_; have HO_685001 := n2_; have HO706 := n3_; have HO709 := n4_; have HO713 := n5_; have BK656 := n6_; have BK670 := n7_; have BK675 := n8_; have BK684 := n9_; have HB := n10_; have BK715 := n11_; have GW715 := n12_; have GE715 := n13_; have NB656_715 := n14_; have NB715_656 := n15_; have NB670_715 := n16_; have NB715_670 := n17_; have NB675_715 := n18_; have NB715_675 := n19_; have NB684_715 := n20_; have NB715_684 := n21_; clear n0_ n1_ n2_ n3_ n4_ n5_ n6_ n7_ n8_ n9_ n10_ n11_ n12_ n13_ n14_ n15_ n16_ n17_ n18_ n19_ n20_ n21_; clear hb hbox hg; have hnb138 := NB715_656.out; have hnc138 := NB656_715.out; have hnb139 := NB715_670.out; have hnc139 := NB670_715.out; have hnb140 := NB715_675.out; have hnc140 := NB675_715.out; have hnb141 := NB715_684.out; have hnc141 := NB684_715.out; have hcz142_0 : w137.cell? ⟨gb715, 0, none⟩ = some (.int .i64 0) := (blk_cell BK715.out 0).trans rfl; have hcz142_1 : w137.cell? ⟨gb715, 1, none⟩ = some (.slice none 0 0) := (blk_cell BK715.out 1).trans rfl; have hfz142_0 := blk_frozen BK715.out 0; have hfz142_1 := blk_frozen BK715.out 1; obtain ⟨Ao143, co143, eo143⟩ := Kd.R_slice HO713.out; subst eo143))
                          (try simp only [Act.put, List.setIfInBounds_toArray, List.set_cons_zero, List.set_cons_succ])
                          go_cut [108] (fun v108 wc => ∃ (kq : Nat) (x108_120 : Bool), v108 = .bool x108_120 ∧ Aside0 (laws_FnExactRenameOf.j2 kq t700 x108_120 t679 t701 = some r) ∧ Aside0 (kq ≤ kj73) ∧ Aside0 (Kd.R (Kd.int .i64) 3 wc w.heap.size (fun k_ => some k_ ≠ ((.slice Ao36 t696.length co36) : Value).ownBlock ∧ some k_ ≠ ((.slice Ao46 t680.length co46) : Value).ownBlock ∧ some k_ ≠ ((.slice Ao143 t711.length co143) : Value).ownBlock) (.slice Ao29 t666.length co29) t666) ∧ Aside0 (Kd.R (Kd.int .i64) 3 wc w.heap.size (fun k_ => some k_ ≠ ((.slice Ao29 t666.length co29) : Value).ownBlock ∧ some k_ ≠ ((.slice Ao46 t680.length co46) : Value).ownBlock ∧ some k_ ≠ ((.slice Ao143 t711.length co143) : Value).ownBlock) (.slice Ao36 t696.length co36) t696) ∧ Aside0 (Kd.R (Kd.int .i64) 3 wc w.heap.size (fun k_ => some k_ ≠ ((.slice Ao29 t666.length co29) : Value).ownBlock ∧ some k_ ≠ ((.slice Ao36 t696.length co36) : Value).ownBlock ∧ some k_ ≠ ((.slice Ao143 t711.length co143) : Value).ownBlock) (.slice Ao46 t680.length co46) t701) ∧ Aside0 (Kd.R (Kd.int .i64) 3 wc w.heap.size (fun k_ => some k_ ≠ ((.slice Ao29 t666.length co29) : Value).ownBlock ∧ some k_ ≠ ((.slice Ao36 t696.length co36) : Value).ownBlock ∧ some k_ ≠ ((.slice Ao46 t680.length co46) : Value).ownBlock) (.slice Ao143 t711.length co143) t711) ∧ Aside0 (wc.heap[gb656]? = some (.cells #[.int .i64 a0_0, (.slice A0_1 l0_1.length c0_1)] 24 (0, 0))) ∧ Aside0 (wc.heap[gb670]? = some (.cells #[.int .i64 t665, (.slice Ao29 t666.length co29)] 26 (0, 0))) ∧ Aside0 (wc.heap[gb675]? = some (.cells #[.int .i64 t671, (.slice Ao36 t696.length co36)] 26 (0, 0))) ∧ Aside0 (wc.heap[gb684]? = some (.cells #[.int .i64 t679, (.slice Ao46 t680.length co46)] 26 (0, 0))) ∧ Aside0 (wc.heap[gb715]? = some (.cells #[.int .i64 t710, (.slice Ao143 t711.length co143)] 26 (0, 0))) ∧ Aside0 (Below w.heap.size w wc))
                          case first =>
                            have H := HC121.out
                            clear HC121
                            replace H := Option.bind_eq_some_iff.mp H
                            obtain ⟨t716, A1440, H⟩ := H
                            replace H : (if t716 = true then (laws_FnExactRenameOf.j2 kj73 t700 (t714 != t669) t679 t701) else (laws_FnExactRenameOf.j2 kj73 t700 true t679 t701)) = some r := H
                            have A144 := Aside0.mk A1440
                            clear A1440
                            by_cases c145 : t716 = true
                            · subst c145
                              have H1 : (laws_FnExactRenameOf.j2 kj73 t700 (t714 != t669) t679 t701) = some r := by rw [if_pos rfl] at H; exact H
                              clear H
                              have H := H1
                              clear H1
                              have H' := Aside0.mk H
                              clear H
                              have hnb146 := NB715_656.out
                              have hnc146 := NB656_715.out
                              have hnb147 := NB715_670.out
                              have hnc147 := NB670_715.out
                              have hnb148 := NB715_675.out
                              have hnc148 := NB675_715.out
                              have hnb149 := NB715_684.out
                              have hnc149 := NB684_715.out
                              have hcz150_0 : w137.cell? ⟨gb715, 0, none⟩ = some (.int .i64 0) := (blk_cell BK715.out 0).trans rfl
                              have hcz150_1 : w137.cell? ⟨gb715, 1, none⟩ = some (.slice none 0 0) := (blk_cell BK715.out 1).trans rfl
                              have hfz150_0 := blk_frozen BK715.out 0
                              have hfz150_1 := blk_frozen BK715.out 1
                              have hnb151 := NB670_656.out
                              have hnc151 := NB656_670.out
                              have hnb152 := NB670_675.out
                              have hnc152 := NB675_670.out
                              have hnb153 := NB670_684.out
                              have hnc153 := NB684_670.out
                              have hcz154_0 : w137.cell? ⟨gb670, 0, none⟩ = some (.int .i64 t665) := (blk_cell BK670.out 0).trans rfl
                              have hcz154_1 : w137.cell? ⟨gb670, 1, none⟩ = some (.slice Ao29 t666.length co29) := (blk_cell BK670.out 1).trans rfl
                              have hfz154_0 := blk_frozen BK670.out 0
                              have hfz154_1 := blk_frozen BK670.out 1
                              go_wp2_with (first | ((with_reducible refine gate_callee (f := 16) rfl ?_); refine goesL_ (some 102) rfl rfl Tryd.func16 (by kernel_rfl) rfl #[.agg #[.int .i64 t710, .slice Ao143 t711.length co143], .agg #[.int .i64 t665, .slice Ao29 t666.length co29]] rfl (by (try simp only [List.map_toArray, List.map_cons, List.map_nil]); first | done | rfl | (simp only [List.length_drop, List.length_take]; rfl)) ?_; (with_reducible refine (laws_eqOrder.calls kj73 t710 _ _ t711 t665 _ _ t666 true _ ?side1 ?side2 ?side3 ?side4 A144.out).mono ?_); (case side1 => refine (Kd.R_reads' (e := 3) (base := w.heap.size) (ok := fun k_ => (((((True ∧ some k_ ≠ (.slice Ao29 t666.length co29 : Value).ownBlock) ∧ some k_ ≠ (.slice Ao36 t696.length co36 : Value).ownBlock) ∧ some k_ ≠ (.slice Ao46 t680.length co46 : Value).ownBlock) ∧ some k_ ≠ (.slice Ao134 t704.length co134 : Value).ownBlock) ∧ some k_ ≠ (.slice Ao135 t707.length co135 : Value).ownBlock)) (n := t711.length) (c := co143) ?_).2.2; exact (by (with_reducible repeat (first | apply Kd.R_alloc | apply Kd.R_drewN | apply Kd.R_drew)); exact (Kd.R_mono (Kd.R_far (p := ⟨gb715, 1, none⟩) (Kd.R_far (p := ⟨gb715, 0, none⟩) (Kd.R_types HO713.out BK715.out (by decide)) (fun _ hk => hk.2) (.int .i64 t710)) (fun _ hk => hk.2) (.slice Ao143 t711.length co143)) (fun _ h_ => h_.1)))); (case side2 => exact (Kd.R_reads' HO713.out).2.1); (case side3 => refine (Kd.R_reads' (e := 3) (base := w.heap.size) (ok := fun k_ => ((((some k_ ≠ (.slice Ao36 t696.length co36 : Value).ownBlock ∧ some k_ ≠ (.slice Ao46 t680.length co46 : Value).ownBlock) ∧ some k_ ≠ (.slice Ao134 t704.length co134 : Value).ownBlock) ∧ some k_ ≠ (.slice Ao135 t707.length co135 : Value).ownBlock) ∧ some k_ ≠ (.slice Ao143 t711.length co143 : Value).ownBlock)) (n := t666.length) (c := co29) ?_).2.2; exact (by (with_reducible repeat (first | apply Kd.R_alloc | apply Kd.R_drewN | apply Kd.R_drew)); exact (Kd.R_mono (Kd.R_far (p := ⟨gb715, 1, none⟩) (Kd.R_far (p := ⟨gb715, 0, none⟩) (Kd.R_types HO_671001.out BK715.out (by decide)) (fun _ hk => hk.2) (.int .i64 t710)) (fun _ hk => hk.2) (.slice Ao143 t711.length co143)) (fun _ h_ => h_.1)))); (case side4 => exact (Kd.R_reads' HO_671001.out).2.1); rintro e w155 ⟨rfl, hb⟩; refine ⟨_, rfl, ?_⟩; have n0_ := Aside0.mk (Kd.R_below (by (with_reducible repeat (first | apply Kd.R_alloc | apply Kd.R_drewN | apply Kd.R_drew)); exact (Kd.R_mono (Kd.R_far (p := ⟨gb715, 1, none⟩) (Kd.R_far (p := ⟨gb715, 0, none⟩) (Kd.R_types HO_671001.out BK715.out (by decide)) (fun _ hk => hk.2) (.int .i64 t710)) (fun _ hk => hk.2) (.slice Ao143 t711.length co143)) (fun _ h_ => h_.1))) hb); have n1_ := Aside0.mk (Kd.R_below (by (with_reducible repeat (first | apply Kd.R_alloc | apply Kd.R_drewN | apply Kd.R_drew)); exact (Kd.R_mono (Kd.R_far (p := ⟨gb715, 1, none⟩) (Kd.R_far (p := ⟨gb715, 0, none⟩) (Kd.R_types HO_676001.out BK715.out (by decide)) (fun _ hk => hk.2) (.int .i64 t710)) (fun _ hk => hk.2) (.slice Ao143 t711.length co143)) (fun _ h_ => h_.1))) hb); have n2_ := Aside0.mk (Kd.R_below (by (with_reducible repeat (first | apply Kd.R_alloc | apply Kd.R_drewN | apply Kd.R_drew)); exact (Kd.R_mono (Kd.R_far (p := ⟨gb715, 1, none⟩) (Kd.R_far (p := ⟨gb715, 0, none⟩) (Kd.R_types HO_685001.out BK715.out (by decide)) (fun _ hk => hk.2) (.int .i64 t710)) (fun _ hk => hk.2) (.slice Ao143 t711.length co143)) (fun _ h_ => h_.1))) hb); have n3_ := Aside0.mk (Kd.R_below (by (with_reducible repeat (first | apply Kd.R_alloc | apply Kd.R_drewN | apply Kd.R_drew)); exact (Kd.R_mono (Kd.R_far (p := ⟨gb715, 1, none⟩) (Kd.R_far (p := ⟨gb715, 0, none⟩) (Kd.R_types HO706.out BK715.out (by decide)) (fun _ hk => hk.2) (.int .i64 t710)) (fun _ hk => hk.2) (.slice Ao143 t711.length co143)) (fun _ h_ => h_.1))) hb); have n4_ := Aside0.mk (Kd.R_below (by (with_reducible repeat (first | apply Kd.R_alloc | apply Kd.R_drewN | apply Kd.R_drew)); exact (Kd.R_mono (Kd.R_far (p := ⟨gb715, 1, none⟩) (Kd.R_far (p := ⟨gb715, 0, none⟩) (Kd.R_types HO709.out BK715.out (by decide)) (fun _ hk => hk.2) (.int .i64 t710)) (fun _ hk => hk.2) (.slice Ao143 t711.length co143)) (fun _ h_ => h_.1))) hb); have n5_ := Aside0.mk (Kd.R_below (by (with_reducible repeat (first | apply Kd.R_alloc | apply Kd.R_drewN | apply Kd.R_drew)); exact (Kd.R_mono (Kd.R_far (p := ⟨gb715, 1, none⟩) (Kd.R_far (p := ⟨gb715, 0, none⟩) (Kd.R_types HO713.out BK715.out (by decide)) (fun _ hk => hk.2) (.int .i64 t710)) (fun _ hk => hk.2) (.slice Ao143 t711.length co143)) (fun _ h_ => h_.1))) hb); have n6_ := Aside0.mk (blk_below (g := gb656) (o := .cells #[.int .i64 a0_0, .slice A0_1 l0_1.length c0_1] 24 (0, 0)) (by (with_reducible repeat (first | refine blk_drewN ?_ _ | refine blk_drew ?_ | refine blk_alloc ?_ _)); refine blk_far ?_ NB656_715.out _; (with_reducible repeat (first | refine blk_drewN ?_ _ | refine blk_drew ?_ | refine blk_alloc ?_ _)); refine blk_far ?_ NB656_715.out _; (with_reducible repeat (first | refine blk_drewN ?_ _ | refine blk_drew ?_ | refine blk_alloc ?_ _)); exact BK656.out) hb); have n7_ := Aside0.mk (blk_below (g := gb670) (o := .cells #[.int .i64 t665, .slice Ao29 t666.length co29] 26 (0, 0)) (by (with_reducible repeat (first | refine blk_drewN ?_ _ | refine blk_drew ?_ | refine blk_alloc ?_ _)); refine blk_far ?_ NB670_715.out _; (with_reducible repeat (first | refine blk_drewN ?_ _ | refine blk_drew ?_ | refine blk_alloc ?_ _)); refine blk_far ?_ NB670_715.out _; (with_reducible repeat (first | refine blk_drewN ?_ _ | refine blk_drew ?_ | refine blk_alloc ?_ _)); exact BK670.out) hb); have n8_ := Aside0.mk (blk_below (g := gb675) (o := .cells #[.int .i64 t671, .slice Ao36 t696.length co36] 26 (0, 0)) (by (with_reducible repeat (first | refine blk_drewN ?_ _ | refine blk_drew ?_ | refine blk_alloc ?_ _)); refine blk_far ?_ NB675_715.out _; (with_reducible repeat (first | refine blk_drewN ?_ _ | refine blk_drew ?_ | refine blk_alloc ?_ _)); refine blk_far ?_ NB675_715.out _; (with_reducible repeat (first | refine blk_drewN ?_ _ | refine blk_drew ?_ | refine blk_alloc ?_ _)); exact BK675.out) hb); have n9_ := Aside0.mk (blk_below (g := gb684) (o := .cells #[.int .i64 t679, .slice Ao46 t680.length co46] 26 (0, 0)) (by (with_reducible repeat (first | refine blk_drewN ?_ _ | refine blk_drew ?_ | refine blk_alloc ?_ _)); refine blk_far ?_ NB684_715.out _; (with_reducible repeat (first | refine blk_drewN ?_ _ | refine blk_drew ?_ | refine blk_alloc ?_ _)); refine blk_far ?_ NB684_715.out _; (with_reducible repeat (first | refine blk_drewN ?_ _ | refine blk_drew ?_ | refine blk_alloc ?_ _)); exact BK684.out) hb); have n10_ := Aside0.mk (blk_below (g := gb715) (o := .cells #[.int .i64 t710, .slice Ao143 t711.length co143] 26 (0, 0)) (by (with_reducible repeat (first | refine blk_drewN ?_ _ | refine blk_drew ?_ | refine blk_alloc ?_ _)); refine blk_put (cs := #[.int .i64 t710, .slice none 0 0]) ?_ 1 _ rfl; (with_reducible repeat (first | refine blk_drewN ?_ _ | refine blk_drew ?_ | refine blk_alloc ?_ _)); refine blk_put (cs := #[.int .i64 0, .slice none 0 0]) ?_ 0 _ rfl; (with_reducible repeat (first | refine blk_drewN ?_ _ | refine blk_drew ?_ | refine blk_alloc ?_ _)); exact BK715.out) hb); have n11_ := Aside0.mk (below_step (by repeat (first | (with_reducible first | exact HB.out | apply below_alloc | apply pw_below_drewN | apply below_drew1 | refine below_set ?_ GE656.out | refine below_set ?_ GE670.out | refine below_set ?_ GE675.out | refine below_set ?_ GE684.out | refine below_set ?_ GE715.out) | exact HB.out)) hb); clear HO_671001; clear HO_676001; clear HO_685001; clear HO706; clear HO709; clear HO713; clear BK656; clear BK670; clear BK675; clear BK684; clear BK715; clear HB; have HO_671001 := n0_; have HO_676001 := n1_; have HO_685001 := n2_; have HO706 := n3_; have HO709 := n4_; have HO713 := n5_; have BK656 := n6_; have BK670 := n7_; have BK675 := n8_; have BK684 := n9_; have BK715 := n10_; have HB := n11_; clear n0_ n1_ n2_ n3_ n4_ n5_ n6_ n7_ n8_ n9_ n10_ n11_; (try clear hb); (try clear hb2); (try clear hk); (try clear hi)))
                              go_meet
                              case rel => exact ⟨_, ((t714 != t669)), (by first | rfl | (simp; done) | (simp [*]; done)), H', ⟨by have := HJ15.out; have := HJ73.out; first | omega | exact Nat.le_refl _⟩, ⟨by (try simp only [hl676001_73]); (with_reducible repeat (first | apply Kd.R_alloc | apply Kd.R_drewN | apply Kd.R_drew)); exact Kd.R_mono HO_671001.out (fun _ hk => ⟨hk.1.1.1.1, ⟨hk.1.1.1.2, hk.2⟩⟩)⟩, ⟨by (try simp only [hl676001_73]); (with_reducible repeat (first | apply Kd.R_alloc | apply Kd.R_drewN | apply Kd.R_drew)); exact Kd.R_mono HO_676001.out (fun _ hk => ⟨hk.1.1.1.1, ⟨hk.1.1.1.2, hk.2⟩⟩)⟩, ⟨by (try simp only [hl676001_73]); (with_reducible repeat (first | apply Kd.R_alloc | apply Kd.R_drewN | apply Kd.R_drew)); exact Kd.R_mono HO_685001.out (fun _ hk => ⟨hk.1.1.1.1, ⟨hk.1.1.1.2, hk.2⟩⟩)⟩, ⟨by (try simp only [hl676001_73]); (with_reducible repeat (first | apply Kd.R_alloc | apply Kd.R_drewN | apply Kd.R_drew)); exact Kd.R_mono HO713.out (fun _ hk => ⟨hk.1.1.1.1.2, ⟨hk.1.1.1.2, hk.1.1.2⟩⟩)⟩, ⟨by (try simp only [hl676001_73]); (with_reducible repeat (first | refine blk_drewN ?_ _ | refine blk_drew ?_ | refine blk_alloc ?_ _)); exact BK656.out⟩, ⟨by (try simp only [hl676001_73]); (with_reducible repeat (first | refine blk_drewN ?_ _ | refine blk_drew ?_ | refine blk_alloc ?_ _)); exact BK670.out⟩, ⟨by (try simp only [hl676001_73]); (with_reducible repeat (first | refine blk_drewN ?_ _ | refine blk_drew ?_ | refine blk_alloc ?_ _)); exact BK675.out⟩, ⟨by (try simp only [hl676001_73]); (with_reducible repeat (first | refine blk_drewN ?_ _ | refine blk_drew ?_ | refine blk_alloc ?_ _)); exact BK684.out⟩, ⟨by (try simp only [hl676001_73]); (with_reducible repeat (first | refine blk_drewN ?_ _ | refine blk_drew ?_ | refine blk_alloc ?_ _)); exact BK715.out⟩, ⟨by repeat (first | (with_reducible first | exact HB.out | apply below_alloc | apply pw_below_drewN | apply below_drew1 | refine below_set ?_ GE656.out | refine below_set ?_ GE670.out | refine below_set ?_ GE675.out | refine below_set ?_ GE684.out | refine below_set ?_ GE715.out) | exact HB.out)⟩⟩
                            · replace c145 := Bool.eq_false_iff.mpr c145
                              subst c145
                              have H1 : (laws_FnExactRenameOf.j2 kj73 t700 true t679 t701) = some r := by rw [if_neg (show ¬ (false = true) by decide)] at H; exact H
                              clear H
                              have H := H1
                              clear H1
                              have H' := Aside0.mk H
                              clear H
                              have hnb156 := NB715_656.out
                              have hnc156 := NB656_715.out
                              have hnb157 := NB715_670.out
                              have hnc157 := NB670_715.out
                              have hnb158 := NB715_675.out
                              have hnc158 := NB675_715.out
                              have hnb159 := NB715_684.out
                              have hnc159 := NB684_715.out
                              have hcz160_0 : w137.cell? ⟨gb715, 0, none⟩ = some (.int .i64 0) := (blk_cell BK715.out 0).trans rfl
                              have hcz160_1 : w137.cell? ⟨gb715, 1, none⟩ = some (.slice none 0 0) := (blk_cell BK715.out 1).trans rfl
                              have hfz160_0 := blk_frozen BK715.out 0
                              have hfz160_1 := blk_frozen BK715.out 1
                              have hnb161 := NB670_656.out
                              have hnc161 := NB656_670.out
                              have hnb162 := NB670_675.out
                              have hnc162 := NB675_670.out
                              have hnb163 := NB670_684.out
                              have hnc163 := NB684_670.out
                              have hcz164_0 : w137.cell? ⟨gb670, 0, none⟩ = some (.int .i64 t665) := (blk_cell BK670.out 0).trans rfl
                              have hcz164_1 : w137.cell? ⟨gb670, 1, none⟩ = some (.slice Ao29 t666.length co29) := (blk_cell BK670.out 1).trans rfl
                              have hfz164_0 := blk_frozen BK670.out 0
                              have hfz164_1 := blk_frozen BK670.out 1
                              go_wp2_with (first | ((with_reducible refine gate_callee (f := 16) rfl ?_); refine goesL_ (some 102) rfl rfl Tryd.func16 (by kernel_rfl) rfl #[.agg #[.int .i64 t710, .slice Ao143 t711.length co143], .agg #[.int .i64 t665, .slice Ao29 t666.length co29]] rfl (by (try simp only [List.map_toArray, List.map_cons, List.map_nil]); first | done | rfl | (simp only [List.length_drop, List.length_take]; rfl)) ?_; (with_reducible refine (laws_eqOrder.calls kj73 t710 _ _ t711 t665 _ _ t666 false _ ?side1 ?side2 ?side3 ?side4 A144.out).mono ?_); (case side1 => refine (Kd.R_reads' (e := 3) (base := w.heap.size) (ok := fun k_ => (((((True ∧ some k_ ≠ (.slice Ao29 t666.length co29 : Value).ownBlock) ∧ some k_ ≠ (.slice Ao36 t696.length co36 : Value).ownBlock) ∧ some k_ ≠ (.slice Ao46 t680.length co46 : Value).ownBlock) ∧ some k_ ≠ (.slice Ao134 t704.length co134 : Value).ownBlock) ∧ some k_ ≠ (.slice Ao135 t707.length co135 : Value).ownBlock)) (n := t711.length) (c := co143) ?_).2.2; exact (by (with_reducible repeat (first | apply Kd.R_alloc | apply Kd.R_drewN | apply Kd.R_drew)); exact (Kd.R_mono (Kd.R_far (p := ⟨gb715, 1, none⟩) (Kd.R_far (p := ⟨gb715, 0, none⟩) (Kd.R_types HO713.out BK715.out (by decide)) (fun _ hk => hk.2) (.int .i64 t710)) (fun _ hk => hk.2) (.slice Ao143 t711.length co143)) (fun _ h_ => h_.1)))); (case side2 => exact (Kd.R_reads' HO713.out).2.1); (case side3 => refine (Kd.R_reads' (e := 3) (base := w.heap.size) (ok := fun k_ => ((((some k_ ≠ (.slice Ao36 t696.length co36 : Value).ownBlock ∧ some k_ ≠ (.slice Ao46 t680.length co46 : Value).ownBlock) ∧ some k_ ≠ (.slice Ao134 t704.length co134 : Value).ownBlock) ∧ some k_ ≠ (.slice Ao135 t707.length co135 : Value).ownBlock) ∧ some k_ ≠ (.slice Ao143 t711.length co143 : Value).ownBlock)) (n := t666.length) (c := co29) ?_).2.2; exact (by (with_reducible repeat (first | apply Kd.R_alloc | apply Kd.R_drewN | apply Kd.R_drew)); exact (Kd.R_mono (Kd.R_far (p := ⟨gb715, 1, none⟩) (Kd.R_far (p := ⟨gb715, 0, none⟩) (Kd.R_types HO_671001.out BK715.out (by decide)) (fun _ hk => hk.2) (.int .i64 t710)) (fun _ hk => hk.2) (.slice Ao143 t711.length co143)) (fun _ h_ => h_.1)))); (case side4 => exact (Kd.R_reads' HO_671001.out).2.1); rintro e w165 ⟨rfl, hb⟩; refine ⟨_, rfl, ?_⟩; have n0_ := Aside0.mk (Kd.R_below (by (with_reducible repeat (first | apply Kd.R_alloc | apply Kd.R_drewN | apply Kd.R_drew)); exact (Kd.R_mono (Kd.R_far (p := ⟨gb715, 1, none⟩) (Kd.R_far (p := ⟨gb715, 0, none⟩) (Kd.R_types HO_671001.out BK715.out (by decide)) (fun _ hk => hk.2) (.int .i64 t710)) (fun _ hk => hk.2) (.slice Ao143 t711.length co143)) (fun _ h_ => h_.1))) hb); have n1_ := Aside0.mk (Kd.R_below (by (with_reducible repeat (first | apply Kd.R_alloc | apply Kd.R_drewN | apply Kd.R_drew)); exact (Kd.R_mono (Kd.R_far (p := ⟨gb715, 1, none⟩) (Kd.R_far (p := ⟨gb715, 0, none⟩) (Kd.R_types HO_676001.out BK715.out (by decide)) (fun _ hk => hk.2) (.int .i64 t710)) (fun _ hk => hk.2) (.slice Ao143 t711.length co143)) (fun _ h_ => h_.1))) hb); have n2_ := Aside0.mk (Kd.R_below (by (with_reducible repeat (first | apply Kd.R_alloc | apply Kd.R_drewN | apply Kd.R_drew)); exact (Kd.R_mono (Kd.R_far (p := ⟨gb715, 1, none⟩) (Kd.R_far (p := ⟨gb715, 0, none⟩) (Kd.R_types HO_685001.out BK715.out (by decide)) (fun _ hk => hk.2) (.int .i64 t710)) (fun _ hk => hk.2) (.slice Ao143 t711.length co143)) (fun _ h_ => h_.1))) hb); have n3_ := Aside0.mk (Kd.R_below (by (with_reducible repeat (first | apply Kd.R_alloc | apply Kd.R_drewN | apply Kd.R_drew)); exact (Kd.R_mono (Kd.R_far (p := ⟨gb715, 1, none⟩) (Kd.R_far (p := ⟨gb715, 0, none⟩) (Kd.R_types HO706.out BK715.out (by decide)) (fun _ hk => hk.2) (.int .i64 t710)) (fun _ hk => hk.2) (.slice Ao143 t711.length co143)) (fun _ h_ => h_.1))) hb); have n4_ := Aside0.mk (Kd.R_below (by (with_reducible repeat (first | apply Kd.R_alloc | apply Kd.R_drewN | apply Kd.R_drew)); exact (Kd.R_mono (Kd.R_far (p := ⟨gb715, 1, none⟩) (Kd.R_far (p := ⟨gb715, 0, none⟩) (Kd.R_types HO709.out BK715.out (by decide)) (fun _ hk => hk.2) (.int .i64 t710)) (fun _ hk => hk.2) (.slice Ao143 t711.length co143)) (fun _ h_ => h_.1))) hb); have n5_ := Aside0.mk (Kd.R_below (by (with_reducible repeat (first | apply Kd.R_alloc | apply Kd.R_drewN | apply Kd.R_drew)); exact (Kd.R_mono (Kd.R_far (p := ⟨gb715, 1, none⟩) (Kd.R_far (p := ⟨gb715, 0, none⟩) (Kd.R_types HO713.out BK715.out (by decide)) (fun _ hk => hk.2) (.int .i64 t710)) (fun _ hk => hk.2) (.slice Ao143 t711.length co143)) (fun _ h_ => h_.1))) hb); have n6_ := Aside0.mk (blk_below (g := gb656) (o := .cells #[.int .i64 a0_0, .slice A0_1 l0_1.length c0_1] 24 (0, 0)) (by (with_reducible repeat (first | refine blk_drewN ?_ _ | refine blk_drew ?_ | refine blk_alloc ?_ _)); refine blk_far ?_ NB656_715.out _; (with_reducible repeat (first | refine blk_drewN ?_ _ | refine blk_drew ?_ | refine blk_alloc ?_ _)); refine blk_far ?_ NB656_715.out _; (with_reducible repeat (first | refine blk_drewN ?_ _ | refine blk_drew ?_ | refine blk_alloc ?_ _)); exact BK656.out) hb); have n7_ := Aside0.mk (blk_below (g := gb670) (o := .cells #[.int .i64 t665, .slice Ao29 t666.length co29] 26 (0, 0)) (by (with_reducible repeat (first | refine blk_drewN ?_ _ | refine blk_drew ?_ | refine blk_alloc ?_ _)); refine blk_far ?_ NB670_715.out _; (with_reducible repeat (first | refine blk_drewN ?_ _ | refine blk_drew ?_ | refine blk_alloc ?_ _)); refine blk_far ?_ NB670_715.out _; (with_reducible repeat (first | refine blk_drewN ?_ _ | refine blk_drew ?_ | refine blk_alloc ?_ _)); exact BK670.out) hb); have n8_ := Aside0.mk (blk_below (g := gb675) (o := .cells #[.int .i64 t671, .slice Ao36 t696.length co36] 26 (0, 0)) (by (with_reducible repeat (first | refine blk_drewN ?_ _ | refine blk_drew ?_ | refine blk_alloc ?_ _)); refine blk_far ?_ NB675_715.out _; (with_reducible repeat (first | refine blk_drewN ?_ _ | refine blk_drew ?_ | refine blk_alloc ?_ _)); refine blk_far ?_ NB675_715.out _; (with_reducible repeat (first | refine blk_drewN ?_ _ | refine blk_drew ?_ | refine blk_alloc ?_ _)); exact BK675.out) hb); have n9_ := Aside0.mk (blk_below (g := gb684) (o := .cells #[.int .i64 t679, .slice Ao46 t680.length co46] 26 (0, 0)) (by (with_reducible repeat (first | refine blk_drewN ?_ _ | refine blk_drew ?_ | refine blk_alloc ?_ _)); refine blk_far ?_ NB684_715.out _; (with_reducible repeat (first | refine blk_drewN ?_ _ | refine blk_drew ?_ | refine blk_alloc ?_ _)); refine blk_far ?_ NB684_715.out _; (with_reducible repeat (first | refine blk_drewN ?_ _ | refine blk_drew ?_ | refine blk_alloc ?_ _)); exact BK684.out) hb); have n10_ := Aside0.mk (blk_below (g := gb715) (o := .cells #[.int .i64 t710, .slice Ao143 t711.length co143] 26 (0, 0)) (by (with_reducible repeat (first | refine blk_drewN ?_ _ | refine blk_drew ?_ | refine blk_alloc ?_ _)); refine blk_put (cs := #[.int .i64 t710, .slice none 0 0]) ?_ 1 _ rfl; (with_reducible repeat (first | refine blk_drewN ?_ _ | refine blk_drew ?_ | refine blk_alloc ?_ _)); refine blk_put (cs := #[.int .i64 0, .slice none 0 0]) ?_ 0 _ rfl; (with_reducible repeat (first | refine blk_drewN ?_ _ | refine blk_drew ?_ | refine blk_alloc ?_ _)); exact BK715.out) hb); have n11_ := Aside0.mk (below_step (by repeat (first | (with_reducible first | exact HB.out | apply below_alloc | apply pw_below_drewN | apply below_drew1 | refine below_set ?_ GE656.out | refine below_set ?_ GE670.out | refine below_set ?_ GE675.out | refine below_set ?_ GE684.out | refine below_set ?_ GE715.out) | exact HB.out)) hb); clear HO_671001; clear HO_676001; clear HO_685001; clear HO706; clear HO709; clear HO713; clear BK656; clear BK670; clear BK675; clear BK684; clear BK715; clear HB; have HO_671001 := n0_; have HO_676001 := n1_; have HO_685001 := n2_; have HO706 := n3_; have HO709 := n4_; have HO713 := n5_; have BK656 := n6_; have BK670 := n7_; have BK675 := n8_; have BK684 := n9_; have BK715 := n10_; have HB := n11_; clear n0_ n1_ n2_ n3_ n4_ n5_ n6_ n7_ n8_ n9_ n10_ n11_; (try clear hb); (try clear hb2); (try clear hk); (try clear hi)))
                              go_meet
                              case rel => exact ⟨_, (true), (by first | rfl | (simp; done) | (simp [*]; done)), H', ⟨by have := HJ15.out; have := HJ73.out; first | omega | exact Nat.le_refl _⟩, ⟨by (try simp only [hl676001_73]); (with_reducible repeat (first | apply Kd.R_alloc | apply Kd.R_drewN | apply Kd.R_drew)); exact Kd.R_mono HO_671001.out (fun _ hk => ⟨hk.1.1.1.1, ⟨hk.1.1.1.2, hk.2⟩⟩)⟩, ⟨by (try simp only [hl676001_73]); (with_reducible repeat (first | apply Kd.R_alloc | apply Kd.R_drewN | apply Kd.R_drew)); exact Kd.R_mono HO_676001.out (fun _ hk => ⟨hk.1.1.1.1, ⟨hk.1.1.1.2, hk.2⟩⟩)⟩, ⟨by (try simp only [hl676001_73]); (with_reducible repeat (first | apply Kd.R_alloc | apply Kd.R_drewN | apply Kd.R_drew)); exact Kd.R_mono HO_685001.out (fun _ hk => ⟨hk.1.1.1.1, ⟨hk.1.1.1.2, hk.2⟩⟩)⟩, ⟨by (try simp only [hl676001_73]); (with_reducible repeat (first | apply Kd.R_alloc | apply Kd.R_drewN | apply Kd.R_drew)); exact Kd.R_mono HO713.out (fun _ hk => ⟨hk.1.1.1.1.2, ⟨hk.1.1.1.2, hk.1.1.2⟩⟩)⟩, ⟨by (try simp only [hl676001_73]); (with_reducible repeat (first | refine blk_drewN ?_ _ | refine blk_drew ?_ | refine blk_alloc ?_ _)); exact BK656.out⟩, ⟨by (try simp only [hl676001_73]); (with_reducible repeat (first | refine blk_drewN ?_ _ | refine blk_drew ?_ | refine blk_alloc ?_ _)); exact BK670.out⟩, ⟨by (try simp only [hl676001_73]); (with_reducible repeat (first | refine blk_drewN ?_ _ | refine blk_drew ?_ | refine blk_alloc ?_ _)); exact BK675.out⟩, ⟨by (try simp only [hl676001_73]); (with_reducible repeat (first | refine blk_drewN ?_ _ | refine blk_drew ?_ | refine blk_alloc ?_ _)); exact BK684.out⟩, ⟨by (try simp only [hl676001_73]); (with_reducible repeat (first | refine blk_drewN ?_ _ | refine blk_drew ?_ | refine blk_alloc ?_ _)); exact BK715.out⟩, ⟨by repeat (first | (with_reducible first | exact HB.out | apply below_alloc | apply pw_below_drewN | apply below_drew1 | refine below_set ?_ GE656.out | refine below_set ?_ GE670.out | refine below_set ?_ GE675.out | refine below_set ?_ GE684.out | refine below_set ?_ GE715.out) | exact HB.out)⟩⟩
                          case rest =>
                            clear HC121
                            try clear c1
                            try clear c2
                            try clear p2
                            try clear c3
                            try clear c3b0
                            try clear c3b1
                            try clear c4
                            try clear c5
                            try clear c6
                            try clear c6b0
                            try clear c7
                            try clear c8
                            try clear c9
                            try clear c10
                            try clear c11
                            try clear c12
                            try clear c13
                            try clear c14
                            try clear c15
                            try clear c16
                            try clear c17
                            try clear c18
                            try clear c19
                            try clear c20
                            try clear c27
                            try clear c33
                            try clear c34
                            try clear c42
                            try clear c43
                            try clear c44
                            try clear c48
                            try clear c49
                            try clear c50
                            try clear c51
                            try clear c53
                            try clear c54
                            try clear c57
                            try clear c58
                            try clear c59
                            try clear c61
                            try clear c62
                            try clear c65
                            try clear c68
                            try clear c71
                            try clear c81
                            try clear c82
                            try clear c83
                            try clear c87
                            try clear c87b0
                            try clear c89
                            try clear c90
                            try clear c91
                            try clear c92
                            try clear c94
                            try clear c95
                            try clear c98
                            try clear c99
                            try clear c100
                            try clear c102
                            try clear c103
                            try clear c106
                            try clear c109
                            try clear c109b0
                            try clear c110
                            try clear c111
                            try clear c112
                            try clear c117
                            try clear c117b0
                            try clear c117b1
                            try clear c122
                            try clear c123
                            try clear c124
                            try clear c129
                            try clear c130
                            try clear c138
                            try clear c139
                            try clear c140
                            try clear c141
                            try clear c145
                            try clear c146
                            try clear c147
                            try clear c148
                            try clear c149
                            try clear c151
                            try clear c152
                            try clear c153
                            try clear c156
                            try clear c157
                            try clear c158
                            try clear c159
                            try clear c161
                            try clear c162
                            try clear c163
                            try clear hcz101_0
                            try clear hcz101_1
                            try clear hcz104_0
                            try clear hcz104_1
                            try clear hcz113_0
                            try clear hcz113_1
                            try clear hcz115_0
                            try clear hcz115_1
                            try clear hcz125_0
                            try clear hcz125_1
                            try clear hcz127_0
                            try clear hcz127_1
                            try clear hcz131_0
                            try clear hcz131_1
                            try clear hcz142_0
                            try clear hcz142_1
                            try clear hcz150_0
                            try clear hcz150_1
                            try clear hcz154_0
                            try clear hcz154_1
                            try clear hcz160_0
                            try clear hcz160_1
                            try clear hcz164_0
                            try clear hcz164_1
                            try clear hcz18_0
                            try clear hcz18_1
                            try clear hcz20_0
                            try clear hcz20_1
                            try clear hcz28_0
                            try clear hcz28_1
                            try clear hcz30_0
                            try clear hcz30_1
                            try clear hcz35_0
                            try clear hcz35_1
                            try clear hcz38_0
                            try clear hcz38_1
                            try clear hcz45_0
                            try clear hcz45_1
                            try clear hcz52_0
                            try clear hcz52_1
                            try clear hcz55_0
                            try clear hcz55_1
                            try clear hcz60_0
                            try clear hcz60_1
                            try clear hcz63_0
                            try clear hcz63_1
                            try clear hcz84_0
                            try clear hcz84_1
                            try clear hcz8_0
                            try clear hcz8_1
                            try clear hcz93_0
                            try clear hcz93_1
                            try clear hcz96_0
                            try clear hcz96_1
                            try clear hfz101_0
                            try clear hfz101_1
                            try clear hfz104_0
                            try clear hfz104_1
                            try clear hfz113_0
                            try clear hfz113_1
                            try clear hfz115_0
                            try clear hfz115_1
                            try clear hfz125_0
                            try clear hfz125_1
                            try clear hfz127_0
                            try clear hfz127_1
                            try clear hfz131_0
                            try clear hfz131_1
                            try clear hfz142_0
                            try clear hfz142_1
                            try clear hfz150_0
                            try clear hfz150_1
                            try clear hfz154_0
                            try clear hfz154_1
                            try clear hfz160_0
                            try clear hfz160_1
                            try clear hfz164_0
                            try clear hfz164_1
                            try clear hfz18_0
                            try clear hfz18_1
                            try clear hfz20_0
                            try clear hfz20_1
                            try clear hfz28_0
                            try clear hfz28_1
                            try clear hfz30_0
                            try clear hfz30_1
                            try clear hfz35_0
                            try clear hfz35_1
                            try clear hfz38_0
                            try clear hfz38_1
                            try clear hfz45_0
                            try clear hfz45_1
                            try clear hfz52_0
                            try clear hfz52_1
                            try clear hfz55_0
                            try clear hfz55_1
                            try clear hfz60_0
                            try clear hfz60_1
                            try clear hfz63_0
                            try clear hfz63_1
                            try clear hfz84_0
                            try clear hfz84_1
                            try clear hfz8_0
                            try clear hfz8_1
                            try clear hfz93_0
                            try clear hfz93_1
                            try clear hfz96_0
                            try clear hfz96_1
                            try clear p2
                            obtain ⟨kq, x108_120, rfl, HA, HJ120, HO_671001, HO_676001, HO_685001, HO_716001, BK656, BK670, BK675, BK684, BK715, HB⟩ := hcut
                            have hl685001_120 := (Kd.R_reads' HO_685001.out).1
                            rw [hl685001_120] at HO_685001
                            (try simp only [hl685001_120])
                            (try simp only [hl685001_120] at BK656)
                            (try simp only [hl685001_120] at BK670)
                            (try simp only [hl685001_120] at BK675)
                            (try simp only [hl685001_120] at BK684)
                            (try simp only [hl685001_120] at BK715)
                            (try simp only [hl685001_120] at HO_671001)
                            (try simp only [hl685001_120] at HO_676001)
                            (try simp only [hl685001_120] at HO_716001)
                            cases kq with
                            | zero => exact absurd HA.out (by simp [laws_FnExactRenameOf.j2])
                            | succ kj120 =>
                              have H := HA.out
                              clear HA
                              simp only [laws_FnExactRenameOf.j2] at H
                              by_cases c166 : x108_120 = true
                              · subst c166
                                have H1 : (some false) = some r := by rw [if_pos rfl] at H; exact H
                                clear H
                                have H := H1
                                clear H1
                                obtain rfl := Option.some.inj H
                                go_wp2
                                go_ret
                                exact ⟨by first | rfl | (simp [errW_none, errW_some] <;> rfl) | (simp [*, errW_none, errW_some] <;> rfl), by repeat (first | (with_reducible first | exact HB.out | apply below_alloc | apply pw_below_drewN | apply below_drew1 | refine below_set ?_ GE656.out | refine below_set ?_ GE670.out | refine below_set ?_ GE675.out | refine below_set ?_ GE684.out | refine below_set ?_ GE715.out) | exact HB.out)⟩
                              · replace c166 := Bool.eq_false_iff.mpr c166
                                subst c166
                                have H1 : ((laws_heldOrder.f kj120 t679 t701 1).bind fun t717 => (if t717 < 0 then (some false) else (if t717 = t700 then (some true) else (some false)))) = some r := by rw [if_neg (show ¬ (false = true) by decide)] at H; exact H
                                clear H
                                have H := H1
                                clear H1
                                replace H := Option.bind_eq_some_iff.mp H
                                obtain ⟨t717, A1670, H⟩ := H
                                replace H : (if t717 < 0 then (some false) else (if t717 = t700 then (some true) else (some false))) = some r := H
                                have A167 := Aside0.mk A1670
                                clear A1670
                                by_cases c168 : t717 < 0
                                · rw [if_pos c168] at H
                                  have c168b0 : decide (t717 < 0) = true := decide_eq_true c168
                                  clear c168
                                  obtain rfl := Option.some.inj H
                                  have hnb169 := NB684_656.out
                                  have hnc169 := NB656_684.out
                                  have hnb170 := NB684_670.out
                                  have hnc170 := NB670_684.out
                                  have hnb171 := NB684_675.out
                                  have hnc171 := NB675_684.out
                                  have hnb172 := NB684_715.out
                                  have hnc172 := NB715_684.out
                                  have hcz173_0 : wc.cell? ⟨gb684, 0, none⟩ = some (.int .i64 t679) := (blk_cell BK684.out 0).trans rfl
                                  have hcz173_1 : wc.cell? ⟨gb684, 1, none⟩ = some (.slice Ao46 t701.length co46) := (blk_cell BK684.out 1).trans rfl
                                  have hfz173_0 := blk_frozen BK684.out 0
                                  have hfz173_1 := blk_frozen BK684.out 1
                                  go_wp2_with (first | ((with_reducible refine gate_callee (f := 20) rfl ?_); refine goesL_ (some 111) rfl rfl Tryd.func20 (by kernel_rfl) rfl #[.agg #[.int .i64 t679, .slice Ao46 t701.length co46], .int .i64 1] rfl (by (try simp only [List.map_toArray, List.map_cons, List.map_nil]); first | done | rfl | (simp only [List.length_drop, List.length_take]; rfl)) ?_; (with_reducible refine (laws_heldOrder.calls kj120 t679 _ _ t701 1 t717 _ ?side1 ?side2 A167.out).mono ?_); (case side1 => repeat (first | exact (Kd.R_reads' HO_685001.out).2.2 | (with_reducible refine Kd.C_alloc ?_ _) | (with_reducible refine Kd.C_drewN ?_ _) | (with_reducible refine Kd.C_drew ?_))); (case side2 => exact (Kd.R_reads' HO_685001.out).2.1); rintro e w174 ⟨rfl, hb⟩; refine ⟨_, rfl, ?_⟩; have n0_ := Aside0.mk (Kd.R_below (by (with_reducible repeat (first | apply Kd.R_alloc | apply Kd.R_drewN | apply Kd.R_drew)); exact HO_671001.out) hb); have n1_ := Aside0.mk (Kd.R_below (by (with_reducible repeat (first | apply Kd.R_alloc | apply Kd.R_drewN | apply Kd.R_drew)); exact HO_676001.out) hb); have n2_ := Aside0.mk (Kd.R_below (by (with_reducible repeat (first | apply Kd.R_alloc | apply Kd.R_drewN | apply Kd.R_drew)); exact HO_685001.out) hb); have n3_ := Aside0.mk (Kd.R_below (by (with_reducible repeat (first | apply Kd.R_alloc | apply Kd.R_drewN | apply Kd.R_drew)); exact HO_716001.out) hb); have n4_ := Aside0.mk (blk_below (g := gb656) (o := .cells #[.int .i64 a0_0, .slice A0_1 l0_1.length c0_1] 24 (0, 0)) (by (with_reducible repeat (first | refine blk_drewN ?_ _ | refine blk_drew ?_ | refine blk_alloc ?_ _)); exact BK656.out) hb); have n5_ := Aside0.mk (blk_below (g := gb670) (o := .cells #[.int .i64 t665, .slice Ao29 t666.length co29] 26 (0, 0)) (by (with_reducible repeat (first | refine blk_drewN ?_ _ | refine blk_drew ?_ | refine blk_alloc ?_ _)); exact BK670.out) hb); have n6_ := Aside0.mk (blk_below (g := gb675) (o := .cells #[.int .i64 t671, .slice Ao36 t696.length co36] 26 (0, 0)) (by (with_reducible repeat (first | refine blk_drewN ?_ _ | refine blk_drew ?_ | refine blk_alloc ?_ _)); exact BK675.out) hb); have n7_ := Aside0.mk (blk_below (g := gb684) (o := .cells #[.int .i64 t679, .slice Ao46 t701.length co46] 26 (0, 0)) (by (with_reducible repeat (first | refine blk_drewN ?_ _ | refine blk_drew ?_ | refine blk_alloc ?_ _)); exact BK684.out) hb); have n8_ := Aside0.mk (blk_below (g := gb715) (o := .cells #[.int .i64 t710, .slice Ao143 t711.length co143] 26 (0, 0)) (by (with_reducible repeat (first | refine blk_drewN ?_ _ | refine blk_drew ?_ | refine blk_alloc ?_ _)); exact BK715.out) hb); have n9_ := Aside0.mk (below_step (by repeat (first | (with_reducible first | exact HB.out | apply below_alloc | apply pw_below_drewN | apply below_drew1 | refine below_set ?_ GE656.out | refine below_set ?_ GE670.out | refine below_set ?_ GE675.out | refine below_set ?_ GE684.out | refine below_set ?_ GE715.out) | exact HB.out)) hb); clear HO_671001; clear HO_676001; clear HO_685001; clear HO_716001; clear BK656; clear BK670; clear BK675; clear BK684; clear BK715; clear HB; have HO_671001 := n0_; have HO_676001 := n1_; have HO_685001 := n2_; have HO_716001 := n3_; have BK656 := n4_; have BK670 := n5_; have BK675 := n6_; have BK684 := n7_; have BK715 := n8_; have HB := n9_; clear n0_ n1_ n2_ n3_ n4_ n5_ n6_ n7_ n8_ n9_; (try clear hb); (try clear hb2); (try clear hk); (try clear hi)))
                                  go_ret
                                  exact ⟨by first | rfl | (simp [errW_none, errW_some] <;> rfl) | (simp [*, errW_none, errW_some] <;> rfl), by repeat (first | (with_reducible first | exact HB.out | apply below_alloc | apply pw_below_drewN | apply below_drew1 | refine below_set ?_ GE656.out | refine below_set ?_ GE670.out | refine below_set ?_ GE675.out | refine below_set ?_ GE684.out | refine below_set ?_ GE715.out) | exact HB.out)⟩
                                · rw [if_neg c168] at H
                                  have c168b0 : decide (t717 < 0) = false := decide_eq_false c168
                                  clear c168
                                  by_cases c175 : t717 = t700
                                  · rw [if_pos c175] at H
                                    have c175b0 : (t717 == t700) = true := beq_iff_eq.mpr c175
                                    have c175b1 : (t717 != t700) = false := bne_eq_false_iff_eq.mpr c175
                                    clear c175
                                    obtain rfl := Option.some.inj H
                                    have hnb176 := NB684_656.out
                                    have hnc176 := NB656_684.out
                                    have hnb177 := NB684_670.out
                                    have hnc177 := NB670_684.out
                                    have hnb178 := NB684_675.out
                                    have hnc178 := NB675_684.out
                                    have hnb179 := NB684_715.out
                                    have hnc179 := NB715_684.out
                                    have hcz180_0 : wc.cell? ⟨gb684, 0, none⟩ = some (.int .i64 t679) := (blk_cell BK684.out 0).trans rfl
                                    have hcz180_1 : wc.cell? ⟨gb684, 1, none⟩ = some (.slice Ao46 t701.length co46) := (blk_cell BK684.out 1).trans rfl
                                    have hfz180_0 := blk_frozen BK684.out 0
                                    have hfz180_1 := blk_frozen BK684.out 1
                                    go_wp2_with (first | ((with_reducible refine gate_callee (f := 20) rfl ?_); refine goesL_ (some 111) rfl rfl Tryd.func20 (by kernel_rfl) rfl #[.agg #[.int .i64 t679, .slice Ao46 t701.length co46], .int .i64 1] rfl (by (try simp only [List.map_toArray, List.map_cons, List.map_nil]); first | done | rfl | (simp only [List.length_drop, List.length_take]; rfl)) ?_; (with_reducible refine (laws_heldOrder.calls kj120 t679 _ _ t701 1 t717 _ ?side1 ?side2 A167.out).mono ?_); (case side1 => repeat (first | exact (Kd.R_reads' HO_685001.out).2.2 | (with_reducible refine Kd.C_alloc ?_ _) | (with_reducible refine Kd.C_drewN ?_ _) | (with_reducible refine Kd.C_drew ?_))); (case side2 => exact (Kd.R_reads' HO_685001.out).2.1); rintro e w181 ⟨rfl, hb⟩; refine ⟨_, rfl, ?_⟩; have n0_ := Aside0.mk (Kd.R_below (by (with_reducible repeat (first | apply Kd.R_alloc | apply Kd.R_drewN | apply Kd.R_drew)); exact HO_671001.out) hb); have n1_ := Aside0.mk (Kd.R_below (by (with_reducible repeat (first | apply Kd.R_alloc | apply Kd.R_drewN | apply Kd.R_drew)); exact HO_676001.out) hb); have n2_ := Aside0.mk (Kd.R_below (by (with_reducible repeat (first | apply Kd.R_alloc | apply Kd.R_drewN | apply Kd.R_drew)); exact HO_685001.out) hb); have n3_ := Aside0.mk (Kd.R_below (by (with_reducible repeat (first | apply Kd.R_alloc | apply Kd.R_drewN | apply Kd.R_drew)); exact HO_716001.out) hb); have n4_ := Aside0.mk (blk_below (g := gb656) (o := .cells #[.int .i64 a0_0, .slice A0_1 l0_1.length c0_1] 24 (0, 0)) (by (with_reducible repeat (first | refine blk_drewN ?_ _ | refine blk_drew ?_ | refine blk_alloc ?_ _)); exact BK656.out) hb); have n5_ := Aside0.mk (blk_below (g := gb670) (o := .cells #[.int .i64 t665, .slice Ao29 t666.length co29] 26 (0, 0)) (by (with_reducible repeat (first | refine blk_drewN ?_ _ | refine blk_drew ?_ | refine blk_alloc ?_ _)); exact BK670.out) hb); have n6_ := Aside0.mk (blk_below (g := gb675) (o := .cells #[.int .i64 t671, .slice Ao36 t696.length co36] 26 (0, 0)) (by (with_reducible repeat (first | refine blk_drewN ?_ _ | refine blk_drew ?_ | refine blk_alloc ?_ _)); exact BK675.out) hb); have n7_ := Aside0.mk (blk_below (g := gb684) (o := .cells #[.int .i64 t679, .slice Ao46 t701.length co46] 26 (0, 0)) (by (with_reducible repeat (first | refine blk_drewN ?_ _ | refine blk_drew ?_ | refine blk_alloc ?_ _)); exact BK684.out) hb); have n8_ := Aside0.mk (blk_below (g := gb715) (o := .cells #[.int .i64 t710, .slice Ao143 t711.length co143] 26 (0, 0)) (by (with_reducible repeat (first | refine blk_drewN ?_ _ | refine blk_drew ?_ | refine blk_alloc ?_ _)); exact BK715.out) hb); have n9_ := Aside0.mk (below_step (by repeat (first | (with_reducible first | exact HB.out | apply below_alloc | apply pw_below_drewN | apply below_drew1 | refine below_set ?_ GE656.out | refine below_set ?_ GE670.out | refine below_set ?_ GE675.out | refine below_set ?_ GE684.out | refine below_set ?_ GE715.out) | exact HB.out)) hb); clear HO_671001; clear HO_676001; clear HO_685001; clear HO_716001; clear BK656; clear BK670; clear BK675; clear BK684; clear BK715; clear HB; have HO_671001 := n0_; have HO_676001 := n1_; have HO_685001 := n2_; have HO_716001 := n3_; have BK656 := n4_; have BK670 := n5_; have BK675 := n6_; have BK684 := n7_; have BK715 := n8_; have HB := n9_; clear n0_ n1_ n2_ n3_ n4_ n5_ n6_ n7_ n8_ n9_; (try clear hb); (try clear hb2); (try clear hk); (try clear hi)))
                                    go_ret
                                    exact ⟨by first | rfl | (simp [errW_none, errW_some] <;> rfl) | (simp [*, errW_none, errW_some] <;> rfl), by repeat (first | (with_reducible first | exact HB.out | apply below_alloc | apply pw_below_drewN | apply below_drew1 | refine below_set ?_ GE656.out | refine below_set ?_ GE670.out | refine below_set ?_ GE675.out | refine below_set ?_ GE684.out | refine below_set ?_ GE715.out) | exact HB.out)⟩
                                  · rw [if_neg c175] at H
                                    have c175b0 : (t717 == t700) = false := beq_eq_false_iff_ne.mpr c175
                                    have c175b1 : (t717 != t700) = true := bne_iff_ne.mpr c175
                                    obtain rfl := Option.some.inj H
                                    have hnb182 := NB684_656.out
                                    have hnc182 := NB656_684.out
                                    have hnb183 := NB684_670.out
                                    have hnc183 := NB670_684.out
                                    have hnb184 := NB684_675.out
                                    have hnc184 := NB675_684.out
                                    have hnb185 := NB684_715.out
                                    have hnc185 := NB715_684.out
                                    have hcz186_0 : wc.cell? ⟨gb684, 0, none⟩ = some (.int .i64 t679) := (blk_cell BK684.out 0).trans rfl
                                    have hcz186_1 : wc.cell? ⟨gb684, 1, none⟩ = some (.slice Ao46 t701.length co46) := (blk_cell BK684.out 1).trans rfl
                                    have hfz186_0 := blk_frozen BK684.out 0
                                    have hfz186_1 := blk_frozen BK684.out 1
                                    go_wp2_with (first | ((with_reducible refine gate_callee (f := 20) rfl ?_); refine goesL_ (some 111) rfl rfl Tryd.func20 (by kernel_rfl) rfl #[.agg #[.int .i64 t679, .slice Ao46 t701.length co46], .int .i64 1] rfl (by (try simp only [List.map_toArray, List.map_cons, List.map_nil]); first | done | rfl | (simp only [List.length_drop, List.length_take]; rfl)) ?_; (with_reducible refine (laws_heldOrder.calls kj120 t679 _ _ t701 1 t717 _ ?side1 ?side2 A167.out).mono ?_); (case side1 => repeat (first | exact (Kd.R_reads' HO_685001.out).2.2 | (with_reducible refine Kd.C_alloc ?_ _) | (with_reducible refine Kd.C_drewN ?_ _) | (with_reducible refine Kd.C_drew ?_))); (case side2 => exact (Kd.R_reads' HO_685001.out).2.1); rintro e w187 ⟨rfl, hb⟩; refine ⟨_, rfl, ?_⟩; have n0_ := Aside0.mk (Kd.R_below (by (with_reducible repeat (first | apply Kd.R_alloc | apply Kd.R_drewN | apply Kd.R_drew)); exact HO_671001.out) hb); have n1_ := Aside0.mk (Kd.R_below (by (with_reducible repeat (first | apply Kd.R_alloc | apply Kd.R_drewN | apply Kd.R_drew)); exact HO_676001.out) hb); have n2_ := Aside0.mk (Kd.R_below (by (with_reducible repeat (first | apply Kd.R_alloc | apply Kd.R_drewN | apply Kd.R_drew)); exact HO_685001.out) hb); have n3_ := Aside0.mk (Kd.R_below (by (with_reducible repeat (first | apply Kd.R_alloc | apply Kd.R_drewN | apply Kd.R_drew)); exact HO_716001.out) hb); have n4_ := Aside0.mk (blk_below (g := gb656) (o := .cells #[.int .i64 a0_0, .slice A0_1 l0_1.length c0_1] 24 (0, 0)) (by (with_reducible repeat (first | refine blk_drewN ?_ _ | refine blk_drew ?_ | refine blk_alloc ?_ _)); exact BK656.out) hb); have n5_ := Aside0.mk (blk_below (g := gb670) (o := .cells #[.int .i64 t665, .slice Ao29 t666.length co29] 26 (0, 0)) (by (with_reducible repeat (first | refine blk_drewN ?_ _ | refine blk_drew ?_ | refine blk_alloc ?_ _)); exact BK670.out) hb); have n6_ := Aside0.mk (blk_below (g := gb675) (o := .cells #[.int .i64 t671, .slice Ao36 t696.length co36] 26 (0, 0)) (by (with_reducible repeat (first | refine blk_drewN ?_ _ | refine blk_drew ?_ | refine blk_alloc ?_ _)); exact BK675.out) hb); have n7_ := Aside0.mk (blk_below (g := gb684) (o := .cells #[.int .i64 t679, .slice Ao46 t701.length co46] 26 (0, 0)) (by (with_reducible repeat (first | refine blk_drewN ?_ _ | refine blk_drew ?_ | refine blk_alloc ?_ _)); exact BK684.out) hb); have n8_ := Aside0.mk (blk_below (g := gb715) (o := .cells #[.int .i64 t710, .slice Ao143 t711.length co143] 26 (0, 0)) (by (with_reducible repeat (first | refine blk_drewN ?_ _ | refine blk_drew ?_ | refine blk_alloc ?_ _)); exact BK715.out) hb); have n9_ := Aside0.mk (below_step (by repeat (first | (with_reducible first | exact HB.out | apply below_alloc | apply pw_below_drewN | apply below_drew1 | refine below_set ?_ GE656.out | refine below_set ?_ GE670.out | refine below_set ?_ GE675.out | refine below_set ?_ GE684.out | refine below_set ?_ GE715.out) | exact HB.out)) hb); clear HO_671001; clear HO_676001; clear HO_685001; clear HO_716001; clear BK656; clear BK670; clear BK675; clear BK684; clear BK715; clear HB; have HO_671001 := n0_; have HO_676001 := n1_; have HO_685001 := n2_; have HO_716001 := n3_; have BK656 := n4_; have BK670 := n5_; have BK675 := n6_; have BK684 := n7_; have BK715 := n8_; have HB := n9_; clear n0_ n1_ n2_ n3_ n4_ n5_ n6_ n7_ n8_ n9_; (try clear hb); (try clear hb2); (try clear hk); (try clear hi)))
                                    go_ret
                                    exact ⟨by first | rfl | (simp [errW_none, errW_some] <;> rfl) | (simp [*, errW_none, errW_some] <;> rfl), by repeat (first | (with_reducible first | exact HB.out | apply below_alloc | apply pw_below_drewN | apply below_drew1 | refine below_set ?_ GE656.out | refine below_set ?_ GE670.out | refine below_set ?_ GE675.out | refine below_set ?_ GE684.out | refine below_set ?_ GE715.out) | exact HB.out)⟩
                        · rw [if_neg c117] at H
                          have c117b0 : (t702 == t700) = false := beq_eq_false_iff_ne.mpr c117
                          have c117b1 : (t702 != t700) = true := bne_iff_ne.mpr c117
                          obtain rfl := Option.some.inj H
                          have hnb188 := NB684_656.out
                          have hnc188 := NB656_684.out
                          have hnb189 := NB684_670.out
                          have hnc189 := NB670_684.out
                          have hnb190 := NB684_675.out
                          have hnc190 := NB675_684.out
                          have hcz191_0 : wc.cell? ⟨gb684, 0, none⟩ = some (.int .i64 t679) := (blk_cell BK684.out 0).trans rfl
                          have hcz191_1 : wc.cell? ⟨gb684, 1, none⟩ = some (.slice Ao46 t680.length co46) := (blk_cell BK684.out 1).trans rfl
                          have hfz191_0 := blk_frozen BK684.out 0
                          have hfz191_1 := blk_frozen BK684.out 1
                          go_wp2_with (first | ((with_reducible refine gate_callee (f := 18) rfl ?_); refine goesL_ (some 83) rfl rfl Tryd.func18 (by kernel_rfl) rfl #[.agg #[.int .i64 t679, .slice Ao46 t680.length co46], .int .i64 1] rfl (by (try simp only [List.map_toArray, List.map_cons, List.map_nil]); first | done | rfl | (simp only [List.length_drop, List.length_take]; rfl)) ?_; (with_reducible refine (laws_markOrder.calls kj73 t679 (fun k_ => some k_ = (.slice Ao46 t680.length co46 : Value).ownBlock) (.slice Ao46 t680.length co46) t680 1 t700 t701 w _ ?side1 ?side2 A107.out).mono ?_); (case side1 => repeat (first | (with_reducible first | exact HB.out | apply below_alloc | apply pw_below_drewN | apply below_drew1 | refine below_set ?_ GE656.out | refine below_set ?_ GE670.out | refine below_set ?_ GE675.out | refine below_set ?_ GE684.out) | exact HB.out)); (case side2 => exact Kd.R_tight rfl HO_685001.out); rintro e w192 ⟨rfl, hy0, hb, hkp⟩; refine ⟨_, rfl, ?_⟩; have n0_ := Aside0.mk (Kd.R_mono (ok' := fun k_ => some k_ ≠ (.slice Ao36 t696.length co36 : Value).ownBlock ∧ some k_ ≠ (.slice Ao46 t680.length co46 : Value).ownBlock) (Kd.R_keptB (HO_671001.out) hkp (fun k_ hk_ hs_ => (hk_.2) hs_)) (fun k_ hk_ => ⟨hk_.1.1, hk_.1.2⟩)); have n1_ := Aside0.mk (Kd.R_mono (ok' := fun k_ => some k_ ≠ (.slice Ao29 t666.length co29 : Value).ownBlock ∧ some k_ ≠ (.slice Ao46 t680.length co46 : Value).ownBlock) (Kd.R_keptB (HO_676001.out) hkp (fun k_ hk_ hs_ => (hk_.2) hs_)) (fun k_ hk_ => ⟨hk_.1.1, hk_.1.2⟩)); have n2_ := Aside0.mk (Kd.R_reok rfl hy0 (fun k_ e_ => HO_685001.out.1 k_ e_)); have n3_ := Aside0.mk (blk_kept (by (with_reducible repeat (first | refine blk_drewN ?_ _ | refine blk_drew ?_ | refine blk_alloc ?_ _)); exact BK656.out) hkp (fun hs_ => (fun e_ => (Kd.R_ne HO_685001.out BK656.out (by decide)) e_) hs_)); have n4_ := Aside0.mk (blk_kept (by (with_reducible repeat (first | refine blk_drewN ?_ _ | refine blk_drew ?_ | refine blk_alloc ?_ _)); exact BK670.out) hkp (fun hs_ => (fun e_ => (Kd.R_ne HO_685001.out BK670.out (by decide)) e_) hs_)); have n5_ := Aside0.mk (blk_kept (by (with_reducible repeat (first | refine blk_drewN ?_ _ | refine blk_drew ?_ | refine blk_alloc ?_ _)); exact BK675.out) hkp (fun hs_ => (fun e_ => (Kd.R_ne HO_685001.out BK675.out (by decide)) e_) hs_)); have n6_ := Aside0.mk (blk_kept (by (with_reducible repeat (first | refine blk_drewN ?_ _ | refine blk_drew ?_ | refine blk_alloc ?_ _)); exact BK684.out) hkp (fun hs_ => (fun e_ => (Kd.R_ne HO_685001.out BK684.out (by decide)) e_) hs_)); have n7_ := Aside0.mk (hb); clear HO_671001; clear HO_676001; clear HO_685001; clear BK656; clear BK670; clear BK675; clear BK684; clear HB; have HO_671001 := n0_; have HO_676001 := n1_; have HO_685001 := n2_; have BK656 := n3_; have BK670 := n4_; have BK675 := n5_; have BK684 := n6_; have HB := n7_; clear n0_ n1_ n2_ n3_ n4_ n5_ n6_ n7_; (try clear hb); (try clear hkp); (try clear hy0); have hcz193_0 : w192.cell? ⟨gb684, 0, none⟩ = some (.int .i64 t679) := (blk_cell BK684.out 0).trans rfl; have hcz193_1 : w192.cell? ⟨gb684, 1, none⟩ = some (.slice Ao46 t680.length co46) := (blk_cell BK684.out 1).trans rfl; have hfz193_0 := blk_frozen BK684.out 0; have hfz193_1 := blk_frozen BK684.out 1) | ((with_reducible refine gate_callee (f := 20) rfl ?_); refine goesL_ (some 86) rfl rfl Tryd.func20 (by kernel_rfl) rfl #[.agg #[.int .i64 t679, .slice Ao46 t701.length co46], .int .i64 1] rfl (by (try simp only [List.map_toArray, List.map_cons, List.map_nil]); first | done | (rw [show t701.length = t680.length from (Kd.R_reads' HO_685001.out).1.symm] <;> rfl) | rfl | (simp only [List.length_drop, List.length_take]; rfl)) ?_; (with_reducible refine (laws_heldOrder.calls kj73 t679 _ _ t701 1 t702 _ ?side1 ?side2 A108.out).mono ?_); (case side1 => repeat (first | exact (Kd.R_reads' HO_685001.out).2.2 | (with_reducible refine Kd.C_alloc ?_ _) | (with_reducible refine Kd.C_drewN ?_ _) | (with_reducible refine Kd.C_drew ?_))); (case side2 => rw [show t701.length = t680.length from (Kd.R_reads' HO_685001.out).1.symm]; exact (Kd.R_reads' HO_685001.out).2.1); rintro e w194 ⟨rfl, hb⟩; refine ⟨_, rfl, ?_⟩; have n0_ := Aside0.mk (Kd.R_below (by (with_reducible repeat (first | apply Kd.R_alloc | apply Kd.R_drewN | apply Kd.R_drew)); exact HO_671001.out) hb); have n1_ := Aside0.mk (Kd.R_below (by (with_reducible repeat (first | apply Kd.R_alloc | apply Kd.R_drewN | apply Kd.R_drew)); exact HO_676001.out) hb); have n2_ := Aside0.mk (Kd.R_below (by (with_reducible repeat (first | apply Kd.R_alloc | apply Kd.R_drewN | apply Kd.R_drew)); exact HO_685001.out) hb); have n3_ := Aside0.mk (blk_below (g := gb656) (o := .cells #[.int .i64 a0_0, .slice A0_1 l0_1.length c0_1] 24 (0, 0)) (by (with_reducible repeat (first | refine blk_drewN ?_ _ | refine blk_drew ?_ | refine blk_alloc ?_ _)); exact BK656.out) hb); have n4_ := Aside0.mk (blk_below (g := gb670) (o := .cells #[.int .i64 t665, .slice Ao29 t666.length co29] 26 (0, 0)) (by (with_reducible repeat (first | refine blk_drewN ?_ _ | refine blk_drew ?_ | refine blk_alloc ?_ _)); exact BK670.out) hb); have n5_ := Aside0.mk (blk_below (g := gb675) (o := .cells #[.int .i64 t671, .slice Ao36 t696.length co36] 26 (0, 0)) (by (with_reducible repeat (first | refine blk_drewN ?_ _ | refine blk_drew ?_ | refine blk_alloc ?_ _)); exact BK675.out) hb); have n6_ := Aside0.mk (blk_below (g := gb684) (o := .cells #[.int .i64 t679, .slice Ao46 t680.length co46] 26 (0, 0)) (by (with_reducible repeat (first | refine blk_drewN ?_ _ | refine blk_drew ?_ | refine blk_alloc ?_ _)); exact BK684.out) hb); have n7_ := Aside0.mk (below_step (by repeat (first | (with_reducible first | exact HB.out | apply below_alloc | apply pw_below_drewN | apply below_drew1 | refine below_set ?_ GE656.out | refine below_set ?_ GE670.out | refine below_set ?_ GE675.out | refine below_set ?_ GE684.out) | exact HB.out)) hb); clear HO_671001; clear HO_676001; clear HO_685001; clear BK656; clear BK670; clear BK675; clear BK684; clear HB; have HO_671001 := n0_; have HO_676001 := n1_; have HO_685001 := n2_; have BK656 := n3_; have BK670 := n4_; have BK675 := n5_; have BK684 := n6_; have HB := n7_; clear n0_ n1_ n2_ n3_ n4_ n5_ n6_ n7_; (try clear hb); (try clear hb2); (try clear hk); (try clear hi)))
                          go_ret
                          exact ⟨by first | rfl | (simp [errW_none, errW_some] <;> rfl) | (simp [*, errW_none, errW_some] <;> rfl), by repeat (first | (with_reducible first | exact HB.out | apply below_alloc | apply pw_below_drewN | apply below_drew1 | refine below_set ?_ GE656.out | refine below_set ?_ GE670.out | refine below_set ?_ GE675.out | refine below_set ?_ GE684.out) | exact HB.out)⟩
              · replace c71 := Bool.eq_false_iff.mpr c71
                subst c71
                have H1 : (some false) = some r := by rw [if_neg (show ¬ (false = true) by decide)] at H; exact H
                clear H
                have H := H1
                clear H1
                obtain rfl := Option.some.inj H
                try go_wp2
                have n0_ := Aside0.mk (Kd.R_drew HO_9.out)
                have n1_ := Aside0.mk (Kd.R_drew HO_671001.out)
                have n2_ := Aside0.mk (Kd.R_drew HO_676001.out)
                have n3_ := Aside0.mk (Kd.R_drew HO_685001.out)
                have n4_ := Aside0.mk (blk_drew BK656.out)
                have n5_ := Aside0.mk (blk_drew BK670.out)
                have n6_ := Aside0.mk (blk_drew BK675.out)
                have n7_ := Aside0.mk (blk_drew BK684.out)
                have n8_ := Aside0.mk (below_drew1 HB.out)
                clear HO_9
                clear HO_671001
                clear HO_676001
                clear HO_685001
                clear BK656
                clear BK670
                clear BK675
                clear BK684
                clear HB
                have HO_9 := n0_
                have HO_671001 := n1_
                have HO_676001 := n2_
                have HO_685001 := n3_
                have BK656 := n4_
                have BK670 := n5_
                have BK675 := n6_
                have BK684 := n7_
                have HB := n8_
                clear n0_ n1_ n2_ n3_ n4_ n5_ n6_ n7_ n8_
                refine start_ (n := 5) (S := fun w' => w'.cell? ⟨gb675, 0, none⟩ = some (.int .i64 t671) ∧ w'.cell? ⟨gb675, 1, none⟩ = some (.slice Ao36 t672.length co36) ∧ w'.cell? ⟨gb656, 0, none⟩ = some (.int .i64 a0_0) ∧ w'.cell? ⟨gb656, 1, none⟩ = some (.slice A0_1 l0_1.length c0_1)) (ds := []) #[false, false, false, false, false] (by kernel_rfl) rfl rfl ⟨(blk_cell BK675.out 0).trans rfl, (blk_cell BK675.out 1).trans rfl, (blk_cell BK656.out 0).trans rfl, (blk_cell BK656.out 1).trans rfl⟩ (fun hHeld => ?_)
                generalize wc.drew = w195 at HO_9 HO_671001 HO_676001 HO_685001 BK656 BK670 BK675 BK684 HB hHeld ⊢
                refine take_ (i := 0) (N := some 52) (v := ?_) (a' := ?_) #[true, false, false, false, false] rfl rfl (by kernel_rfl) (fun _ _ _ h => h) (Or.inl ⟨by rfl, ?_⟩) hHeld ?_ ?_
                rotate_left
                · rintro w' ⟨s0, s1, s2, s3⟩
                  go_simp
                  with_reducible rfl
                rotate_left
                · simp only [Act.put, List.setIfInBounds_toArray, List.set_cons_zero, List.set_cons_succ, i64_w, i32_w]
                  rfl
                refine take_ (i := 1) (N := some 53) (v := ?_) (a' := ?_) #[true, true, false, false, false] rfl rfl (by kernel_rfl) (fun _ _ _ h => h) (Or.inl ⟨by rfl, ?_⟩) hHeld ?_ ?_
                rotate_left
                · rintro w' ⟨s0, s1, s2, s3⟩
                  go_simp
                  with_reducible rfl
                rotate_left
                · simp only [Act.put, List.setIfInBounds_toArray, List.set_cons_zero, List.set_cons_succ, i64_w, i32_w]
                  rfl
                refine one_ (i := 2) (N := some 54) #[true, true, true, false, false] rfl rfl (by kernel_rfl) (by decide) (fun K hK => ?_)
                refine goes_ Tryd.func13 (by kernel_rfl) rfl #[.agg #[.int .i64 a0_0, .slice A0_1 l0_1.length c0_1]] (by rfl) rfl rfl (by (try simp only [List.map_toArray, List.map_cons, List.map_nil]); first | done | rfl | (simp only [List.length_drop, List.length_take]; rfl)) ?_
                with_reducible refine (laws_toOrder.calls kj15 a0_0 _ _ l0_1 t686 t687 _ ?side1 ?side2 A66.out).mono ?_
                (case side1 => repeat (first | exact (Kd.C_below HR0_1.out HB.out) | (with_reducible refine Kd.C_alloc ?_ _) | (with_reducible refine Kd.C_drewN ?_ _) | (with_reducible refine Kd.C_drew ?_)))
                (case side2 => exact HC0_1.out)
                rintro e w196 ⟨v688, rfl, ho0, hb⟩
                refine ⟨_, rfl, ?_⟩
                have n0_ := Aside0.mk (Kd.R_elder' (by (with_reducible repeat (first | apply Kd.R_alloc | apply Kd.R_drewN | apply Kd.R_drew)); exact HO_9.out) (Kd.R_base ho0) hb)
                have n1_ := Aside0.mk (Kd.R_elder' (by (with_reducible repeat (first | apply Kd.R_alloc | apply Kd.R_drewN | apply Kd.R_drew)); exact HO_671001.out) (Kd.R_base ho0) hb)
                have n2_ := Aside0.mk (Kd.R_elder' (by (with_reducible repeat (first | apply Kd.R_alloc | apply Kd.R_drewN | apply Kd.R_drew)); exact HO_676001.out) (Kd.R_base ho0) hb)
                have n3_ := Aside0.mk (Kd.R_elder' (by (with_reducible repeat (first | apply Kd.R_alloc | apply Kd.R_drewN | apply Kd.R_drew)); exact HO_685001.out) (Kd.R_base ho0) hb)
                have n4_ := Aside0.mk (Kd.R_lower (Kd.R_new' (Kd.R_new' (Kd.R_new' (Kd.R_new' ho0 (Kd.R_lt (by (with_reducible repeat (first | apply Kd.R_alloc | apply Kd.R_drewN | apply Kd.R_drew)); exact HO_9.out))) (Kd.R_lt (by (with_reducible repeat (first | apply Kd.R_alloc | apply Kd.R_drewN | apply Kd.R_drew)); exact HO_671001.out))) (Kd.R_lt (by (with_reducible repeat (first | apply Kd.R_alloc | apply Kd.R_drewN | apply Kd.R_drew)); exact HO_676001.out))) (Kd.R_lt (by (with_reducible repeat (first | apply Kd.R_alloc | apply Kd.R_drewN | apply Kd.R_drew)); exact HO_685001.out))) (below_size (by repeat (first | (with_reducible first | exact HB.out | apply below_alloc | apply pw_below_drewN | apply below_drew1 | refine below_set ?_ GE656.out | refine below_set ?_ GE670.out | refine below_set ?_ GE675.out | refine below_set ?_ GE684.out) | exact HB.out))))
                have n5_ := Aside0.mk (blk_below (g := gb656) (o := .cells #[.int .i64 a0_0, .slice A0_1 l0_1.length c0_1] 24 (0, 0)) (by (with_reducible repeat (first | refine blk_drewN ?_ _ | refine blk_drew ?_ | refine blk_alloc ?_ _)); exact BK656.out) hb)
                have n6_ := Aside0.mk (blk_below (g := gb670) (o := .cells #[.int .i64 t665, .slice Ao29 t666.length co29] 26 (0, 0)) (by (with_reducible repeat (first | refine blk_drewN ?_ _ | refine blk_drew ?_ | refine blk_alloc ?_ _)); exact BK670.out) hb)
                have n7_ := Aside0.mk (blk_below (g := gb675) (o := .cells #[.int .i64 t671, .slice Ao36 t672.length co36] 26 (0, 0)) (by (with_reducible repeat (first | refine blk_drewN ?_ _ | refine blk_drew ?_ | refine blk_alloc ?_ _)); exact BK675.out) hb)
                have n8_ := Aside0.mk (blk_below (g := gb684) (o := .cells #[.int .i64 t679, .slice Ao46 t680.length co46] 26 (0, 0)) (by (with_reducible repeat (first | refine blk_drewN ?_ _ | refine blk_drew ?_ | refine blk_alloc ?_ _)); exact BK684.out) hb)
                have n9_ := Aside0.mk (below_step (by repeat (first | (with_reducible first | exact HB.out | apply below_alloc | apply pw_below_drewN | apply below_drew1 | refine below_set ?_ GE656.out | refine below_set ?_ GE670.out | refine below_set ?_ GE675.out | refine below_set ?_ GE684.out) | exact HB.out)) hb)
                clear HO_9
                clear HO_671001
                clear HO_676001
                clear HO_685001
                clear BK656
                clear BK670
                clear BK675
                clear BK684
                clear HB
                have HO_9 := n0_
                have HO_671001 := n1_
                have HO_676001 := n2_
                have HO_685001 := n3_
                have HO689 := n4_
                have BK656 := n5_
                have BK670 := n6_
                have BK675 := n7_
                have BK684 := n8_
                have HB := n9_
                clear n0_ n1_ n2_ n3_ n4_ n5_ n6_ n7_ n8_ n9_
                (try clear hb)
                (try clear hb2)
                (try clear hk)
                (try clear hi)
                (try clear ho0)
                obtain ⟨Ao197, co197, eo197⟩ := Kd.R_slice HO689.out
                (first | subst eo197 | (injection eo197 with f1_ f2_ f3_; have f4_ := f1_.symm; have f5_ := f3_.symm; clear f1_ f2_ f3_; subst f4_; subst f5_))
                refine hK.out _ _ ⟨(blk_cell BK675.out 0).trans rfl, (blk_cell BK675.out 1).trans rfl, (blk_cell BK656.out 0).trans rfl, (blk_cell BK656.out 1).trans rfl⟩ (fun hHeld => ?_)
                clear hK K
                refine norm_ (a' := ?_) ?_ ?_
                rotate_left
                · show Act.put _ (some 54) _ = _
                  simp only [Act.put, List.setIfInBounds_toArray, List.set_cons_zero, List.set_cons_succ, i64_w, i32_w]
                  rfl
                refine one_ (i := 3) (N := some 55) #[true, true, true, true, false] rfl rfl (by kernel_rfl) (by decide) (fun K hK => ?_)
                refine goes_ Tryd.func16 (by kernel_rfl) rfl #[.agg #[.int .i64 t671, .slice Ao36 t672.length co36], .agg #[.int .i64 t686, .slice Ao197 t687.length co197]] (by rfl) rfl rfl (by (try simp only [List.map_toArray, List.map_cons, List.map_nil]); first | done | rfl | (simp only [List.length_drop, List.length_take]; rfl)) ?_
                with_reducible refine (laws_eqOrder.calls kj15 t671 _ _ t672 t686 _ _ t687 true _ ?side1 ?side2 ?side3 ?side4 A67.out).mono ?_
                (case side1 => repeat (first | exact (Kd.R_reads' HO_676001.out).2.2 | (with_reducible refine Kd.C_alloc ?_ _) | (with_reducible refine Kd.C_drewN ?_ _) | (with_reducible refine Kd.C_drew ?_)))
                (case side2 => exact (Kd.R_reads' HO_676001.out).2.1)
                (case side3 => repeat (first | exact (Kd.R_reads' HO689.out).2.2 | (with_reducible refine Kd.C_alloc ?_ _) | (with_reducible refine Kd.C_drewN ?_ _) | (with_reducible refine Kd.C_drew ?_)))
                (case side4 => exact (Kd.R_reads' HO689.out).2.1)
                rintro e w198 ⟨rfl, hb⟩
                refine ⟨_, rfl, ?_⟩
                have n0_ := Aside0.mk (Kd.R_below (by (with_reducible repeat (first | apply Kd.R_alloc | apply Kd.R_drewN | apply Kd.R_drew)); exact HO_9.out) hb)
                have n1_ := Aside0.mk (Kd.R_below (by (with_reducible repeat (first | apply Kd.R_alloc | apply Kd.R_drewN | apply Kd.R_drew)); exact HO_671001.out) hb)
                have n2_ := Aside0.mk (Kd.R_below (by (with_reducible repeat (first | apply Kd.R_alloc | apply Kd.R_drewN | apply Kd.R_drew)); exact HO_676001.out) hb)
                have n3_ := Aside0.mk (Kd.R_below (by (with_reducible repeat (first | apply Kd.R_alloc | apply Kd.R_drewN | apply Kd.R_drew)); exact HO_685001.out) hb)
                have n4_ := Aside0.mk (Kd.R_below (by (with_reducible repeat (first | apply Kd.R_alloc | apply Kd.R_drewN | apply Kd.R_drew)); exact HO689.out) hb)
                have n5_ := Aside0.mk (blk_below (g := gb656) (o := .cells #[.int .i64 a0_0, .slice A0_1 l0_1.length c0_1] 24 (0, 0)) (by (with_reducible repeat (first | refine blk_drewN ?_ _ | refine blk_drew ?_ | refine blk_alloc ?_ _)); exact BK656.out) hb)
                have n6_ := Aside0.mk (blk_below (g := gb670) (o := .cells #[.int .i64 t665, .slice Ao29 t666.length co29] 26 (0, 0)) (by (with_reducible repeat (first | refine blk_drewN ?_ _ | refine blk_drew ?_ | refine blk_alloc ?_ _)); exact BK670.out) hb)
                have n7_ := Aside0.mk (blk_below (g := gb675) (o := .cells #[.int .i64 t671, .slice Ao36 t672.length co36] 26 (0, 0)) (by (with_reducible repeat (first | refine blk_drewN ?_ _ | refine blk_drew ?_ | refine blk_alloc ?_ _)); exact BK675.out) hb)
                have n8_ := Aside0.mk (blk_below (g := gb684) (o := .cells #[.int .i64 t679, .slice Ao46 t680.length co46] 26 (0, 0)) (by (with_reducible repeat (first | refine blk_drewN ?_ _ | refine blk_drew ?_ | refine blk_alloc ?_ _)); exact BK684.out) hb)
                have n9_ := Aside0.mk (below_step (by repeat (first | (with_reducible first | exact HB.out | apply below_alloc | apply pw_below_drewN | apply below_drew1 | refine below_set ?_ GE656.out | refine below_set ?_ GE670.out | refine below_set ?_ GE675.out | refine below_set ?_ GE684.out) | exact HB.out)) hb)
                clear HO_9
                clear HO_671001
                clear HO_676001
                clear HO_685001
                clear HO689
                clear BK656
                clear BK670
                clear BK675
                clear BK684
                clear HB
                have HO_9 := n0_
                have HO_671001 := n1_
                have HO_676001 := n2_
                have HO_685001 := n3_
                have HO689 := n4_
                have BK656 := n5_
                have BK670 := n6_
                have BK675 := n7_
                have BK684 := n8_
                have HB := n9_
                clear n0_ n1_ n2_ n3_ n4_ n5_ n6_ n7_ n8_ n9_
                (try clear hb)
                (try clear hb2)
                (try clear hk)
                (try clear hi)
                refine hK.out _ _ ⟨(blk_cell BK675.out 0).trans rfl, (blk_cell BK675.out 1).trans rfl, (blk_cell BK656.out 0).trans rfl, (blk_cell BK656.out 1).trans rfl⟩ (fun hHeld => ?_)
                clear hK K
                refine norm_ (a' := ?_) ?_ ?_
                rotate_left
                · show Act.put _ (some 55) _ = _
                  simp only [Act.put, List.setIfInBounds_toArray, List.set_cons_zero, List.set_cons_succ, i64_w, i32_w]
                  rfl
                refine pure_ (i := 4) (N := some 56) (v := ?_) (a' := ?_) #[true, true, true, true, true] rfl rfl (by kernel_rfl) (fun _ _ _ h => h) (Or.inl ⟨by rfl, ?_⟩) ?_ ?_
                rotate_left
                · intro w'
                  go_simp
                  with_reducible rfl
                rotate_left
                · simp only [Act.put, List.setIfInBounds_toArray, List.set_cons_zero, List.set_cons_succ, i64_w, i32_w]
                  rfl
                refine done_ (by kernel_rfl) ?_
                try go_wp2_with (first | ((with_reducible refine gate_callee (f := 14) rfl ?_); refine goesL_ (some 59) rfl rfl Tryd.func14 (by kernel_rfl) rfl #[.slice A1 l1.length c1] rfl (by (try simp only [List.map_toArray, List.map_cons, List.map_nil]); first | done | rfl | (simp only [List.length_drop, List.length_take]; rfl)) ?_; (with_reducible refine (laws_toIntS.calls kj15 _ _ l1 t691 _ ?side1 ?side2 A69.out).mono ?_); (case side1 => repeat (first | exact (Kd.C_below HR1.out HB.out) | (with_reducible refine Kd.C_alloc ?_ _) | (with_reducible refine Kd.C_drewN ?_ _) | (with_reducible refine Kd.C_drew ?_))); (case side2 => exact HC1.out); rintro e w199 ⟨v692, rfl, ho0, hb⟩; refine ⟨_, rfl, ?_⟩; have n0_ := Aside0.mk (Kd.R_elder' (by (with_reducible repeat (first | apply Kd.R_alloc | apply Kd.R_drewN | apply Kd.R_drew)); exact HO_9.out) (Kd.R_base ho0) hb); have n1_ := Aside0.mk (Kd.R_elder' (by (with_reducible repeat (first | apply Kd.R_alloc | apply Kd.R_drewN | apply Kd.R_drew)); exact HO_671001.out) (Kd.R_base ho0) hb); have n2_ := Aside0.mk (Kd.R_elder' (by (with_reducible repeat (first | apply Kd.R_alloc | apply Kd.R_drewN | apply Kd.R_drew)); exact HO_676001.out) (Kd.R_base ho0) hb); have n3_ := Aside0.mk (Kd.R_elder' (by (with_reducible repeat (first | apply Kd.R_alloc | apply Kd.R_drewN | apply Kd.R_drew)); exact HO_685001.out) (Kd.R_base ho0) hb); have n4_ := Aside0.mk (Kd.R_elder' (by (with_reducible repeat (first | apply Kd.R_alloc | apply Kd.R_drewN | apply Kd.R_drew)); exact HO689.out) (Kd.R_base ho0) hb); have n5_ := Aside0.mk (Kd.R_lower (Kd.R_new' (Kd.R_new' (Kd.R_new' (Kd.R_new' (Kd.R_new' ho0 (Kd.R_lt (by (with_reducible repeat (first | apply Kd.R_alloc | apply Kd.R_drewN | apply Kd.R_drew)); exact HO_9.out))) (Kd.R_lt (by (with_reducible repeat (first | apply Kd.R_alloc | apply Kd.R_drewN | apply Kd.R_drew)); exact HO_671001.out))) (Kd.R_lt (by (with_reducible repeat (first | apply Kd.R_alloc | apply Kd.R_drewN | apply Kd.R_drew)); exact HO_676001.out))) (Kd.R_lt (by (with_reducible repeat (first | apply Kd.R_alloc | apply Kd.R_drewN | apply Kd.R_drew)); exact HO_685001.out))) (Kd.R_lt (by (with_reducible repeat (first | apply Kd.R_alloc | apply Kd.R_drewN | apply Kd.R_drew)); exact HO689.out))) (below_size (by repeat (first | (with_reducible first | exact HB.out | apply below_alloc | apply pw_below_drewN | apply below_drew1 | refine below_set ?_ GE656.out | refine below_set ?_ GE670.out | refine below_set ?_ GE675.out | refine below_set ?_ GE684.out) | exact HB.out)))); have n6_ := Aside0.mk (blk_below (g := gb656) (o := .cells #[.int .i64 a0_0, .slice A0_1 l0_1.length c0_1] 24 (0, 0)) (by (with_reducible repeat (first | refine blk_drewN ?_ _ | refine blk_drew ?_ | refine blk_alloc ?_ _)); exact BK656.out) hb); have n7_ := Aside0.mk (blk_below (g := gb670) (o := .cells #[.int .i64 t665, .slice Ao29 t666.length co29] 26 (0, 0)) (by (with_reducible repeat (first | refine blk_drewN ?_ _ | refine blk_drew ?_ | refine blk_alloc ?_ _)); exact BK670.out) hb); have n8_ := Aside0.mk (blk_below (g := gb675) (o := .cells #[.int .i64 t671, .slice Ao36 t672.length co36] 26 (0, 0)) (by (with_reducible repeat (first | refine blk_drewN ?_ _ | refine blk_drew ?_ | refine blk_alloc ?_ _)); exact BK675.out) hb); have n9_ := Aside0.mk (blk_below (g := gb684) (o := .cells #[.int .i64 t679, .slice Ao46 t680.length co46] 26 (0, 0)) (by (with_reducible repeat (first | refine blk_drewN ?_ _ | refine blk_drew ?_ | refine blk_alloc ?_ _)); exact BK684.out) hb); have n10_ := Aside0.mk (below_step (by repeat (first | (with_reducible first | exact HB.out | apply below_alloc | apply pw_below_drewN | apply below_drew1 | refine below_set ?_ GE656.out | refine below_set ?_ GE670.out | refine below_set ?_ GE675.out | refine below_set ?_ GE684.out) | exact HB.out)) hb); clear HO_9; clear HO_671001; clear HO_676001; clear HO_685001; clear HO689; clear BK656; clear BK670; clear BK675; clear BK684; clear HB; have HO_9 := n0_; have HO_671001 := n1_; have HO_676001 := n2_; have HO_685001 := n3_; have HO689 := n4_; have HO693 := n5_; have BK656 := n6_; have BK670 := n7_; have BK675 := n8_; have BK684 := n9_; have HB := n10_; clear n0_ n1_ n2_ n3_ n4_ n5_ n6_ n7_ n8_ n9_ n10_; (try clear hb); (try clear hb2); (try clear hk); (try clear hi); (try clear ho0); obtain ⟨Ao200, co200, eo200⟩ := Kd.R_slice HO693.out; subst eo200) | ((with_reducible refine gate_callee (f := 17) rfl ?_); refine goesL_ (some 60) rfl rfl Tryd.func17 (by kernel_rfl) rfl #[.slice Ao39 t676.length co39, .slice Ao200 t691.length co200] rfl (by (try simp only [List.map_toArray, List.map_cons, List.map_nil]); first | done | rfl | (simp only [List.length_drop, List.length_take]; rfl)) ?_; (with_reducible refine (laws_eqIntS.calls kj15 _ _ t676 _ _ t691 false _ ?side1 ?side2 ?side3 ?side4 A70.out).mono ?_); (case side1 => repeat (first | exact (Kd.R_reads' HO_9.out).2.2 | (with_reducible refine Kd.C_alloc ?_ _) | (with_reducible refine Kd.C_drewN ?_ _) | (with_reducible refine Kd.C_drew ?_))); (case side2 => exact (Kd.R_reads' HO_9.out).2.1); (case side3 => repeat (first | exact (Kd.R_reads' HO693.out).2.2 | (with_reducible refine Kd.C_alloc ?_ _) | (with_reducible refine Kd.C_drewN ?_ _) | (with_reducible refine Kd.C_drew ?_))); (case side4 => exact (Kd.R_reads' HO693.out).2.1); rintro e w' ⟨rfl, ⟨nd, rfl⟩⟩; refine ⟨_, rfl, ?_⟩))
                go_ret
                exact ⟨by first | rfl | (simp [errW_none, errW_some] <;> rfl) | (simp [*, errW_none, errW_some] <;> rfl), by repeat (first | (with_reducible first | exact HB.out | apply below_alloc | apply pw_below_drewN | apply below_drew1 | refine below_set ?_ GE656.out | refine below_set ?_ GE670.out | refine below_set ?_ GE675.out | refine below_set ?_ GE684.out) | exact HB.out)⟩
            · replace c68 := Bool.eq_false_iff.mpr c68
              subst c68
              have H1 : (some false) = some r := by rw [if_neg (show ¬ (false = true) by decide)] at H; exact H
              clear H
              have H := H1
              clear H1
              obtain rfl := Option.some.inj H
              try go_wp2
              have n0_ := Aside0.mk (Kd.R_drew HO_9.out)
              have n1_ := Aside0.mk (Kd.R_drew HO_671001.out)
              have n2_ := Aside0.mk (Kd.R_drew HO_676001.out)
              have n3_ := Aside0.mk (Kd.R_drew HO_685001.out)
              have n4_ := Aside0.mk (blk_drew BK656.out)
              have n5_ := Aside0.mk (blk_drew BK670.out)
              have n6_ := Aside0.mk (blk_drew BK675.out)
              have n7_ := Aside0.mk (blk_drew BK684.out)
              have n8_ := Aside0.mk (below_drew1 HB.out)
              clear HO_9
              clear HO_671001
              clear HO_676001
              clear HO_685001
              clear BK656
              clear BK670
              clear BK675
              clear BK684
              clear HB
              have HO_9 := n0_
              have HO_671001 := n1_
              have HO_676001 := n2_
              have HO_685001 := n3_
              have BK656 := n4_
              have BK670 := n5_
              have BK675 := n6_
              have BK684 := n7_
              have HB := n8_
              clear n0_ n1_ n2_ n3_ n4_ n5_ n6_ n7_ n8_
              refine start_ (n := 5) (S := fun w' => w'.cell? ⟨gb675, 0, none⟩ = some (.int .i64 t671) ∧ w'.cell? ⟨gb675, 1, none⟩ = some (.slice Ao36 t672.length co36) ∧ w'.cell? ⟨gb656, 0, none⟩ = some (.int .i64 a0_0) ∧ w'.cell? ⟨gb656, 1, none⟩ = some (.slice A0_1 l0_1.length c0_1)) (ds := []) #[false, false, false, false, false] (by kernel_rfl) rfl rfl ⟨(blk_cell BK675.out 0).trans rfl, (blk_cell BK675.out 1).trans rfl, (blk_cell BK656.out 0).trans rfl, (blk_cell BK656.out 1).trans rfl⟩ (fun hHeld => ?_)
              generalize wc.drew = w201 at HO_9 HO_671001 HO_676001 HO_685001 BK656 BK670 BK675 BK684 HB hHeld ⊢
              refine take_ (i := 0) (N := some 52) (v := ?_) (a' := ?_) #[true, false, false, false, false] rfl rfl (by kernel_rfl) (fun _ _ _ h => h) (Or.inl ⟨by rfl, ?_⟩) hHeld ?_ ?_
              rotate_left
              · rintro w' ⟨s0, s1, s2, s3⟩
                go_simp
                with_reducible rfl
              rotate_left
              · simp only [Act.put, List.setIfInBounds_toArray, List.set_cons_zero, List.set_cons_succ, i64_w, i32_w]
                rfl
              refine take_ (i := 1) (N := some 53) (v := ?_) (a' := ?_) #[true, true, false, false, false] rfl rfl (by kernel_rfl) (fun _ _ _ h => h) (Or.inl ⟨by rfl, ?_⟩) hHeld ?_ ?_
              rotate_left
              · rintro w' ⟨s0, s1, s2, s3⟩
                go_simp
                with_reducible rfl
              rotate_left
              · simp only [Act.put, List.setIfInBounds_toArray, List.set_cons_zero, List.set_cons_succ, i64_w, i32_w]
                rfl
              refine one_ (i := 2) (N := some 54) #[true, true, true, false, false] rfl rfl (by kernel_rfl) (by decide) (fun K hK => ?_)
              refine goes_ Tryd.func13 (by kernel_rfl) rfl #[.agg #[.int .i64 a0_0, .slice A0_1 l0_1.length c0_1]] (by rfl) rfl rfl (by (try simp only [List.map_toArray, List.map_cons, List.map_nil]); first | done | rfl | (simp only [List.length_drop, List.length_take]; rfl)) ?_
              with_reducible refine (laws_toOrder.calls kj15 a0_0 _ _ l0_1 t686 t687 _ ?side1 ?side2 A66.out).mono ?_
              (case side1 => repeat (first | exact (Kd.C_below HR0_1.out HB.out) | (with_reducible refine Kd.C_alloc ?_ _) | (with_reducible refine Kd.C_drewN ?_ _) | (with_reducible refine Kd.C_drew ?_)))
              (case side2 => exact HC0_1.out)
              rintro e w202 ⟨v688, rfl, ho0, hb⟩
              refine ⟨_, rfl, ?_⟩
              have n0_ := Aside0.mk (Kd.R_elder' (by (with_reducible repeat (first | apply Kd.R_alloc | apply Kd.R_drewN | apply Kd.R_drew)); exact HO_9.out) (Kd.R_base ho0) hb)
              have n1_ := Aside0.mk (Kd.R_elder' (by (with_reducible repeat (first | apply Kd.R_alloc | apply Kd.R_drewN | apply Kd.R_drew)); exact HO_671001.out) (Kd.R_base ho0) hb)
              have n2_ := Aside0.mk (Kd.R_elder' (by (with_reducible repeat (first | apply Kd.R_alloc | apply Kd.R_drewN | apply Kd.R_drew)); exact HO_676001.out) (Kd.R_base ho0) hb)
              have n3_ := Aside0.mk (Kd.R_elder' (by (with_reducible repeat (first | apply Kd.R_alloc | apply Kd.R_drewN | apply Kd.R_drew)); exact HO_685001.out) (Kd.R_base ho0) hb)
              have n4_ := Aside0.mk (Kd.R_lower (Kd.R_new' (Kd.R_new' (Kd.R_new' (Kd.R_new' ho0 (Kd.R_lt (by (with_reducible repeat (first | apply Kd.R_alloc | apply Kd.R_drewN | apply Kd.R_drew)); exact HO_9.out))) (Kd.R_lt (by (with_reducible repeat (first | apply Kd.R_alloc | apply Kd.R_drewN | apply Kd.R_drew)); exact HO_671001.out))) (Kd.R_lt (by (with_reducible repeat (first | apply Kd.R_alloc | apply Kd.R_drewN | apply Kd.R_drew)); exact HO_676001.out))) (Kd.R_lt (by (with_reducible repeat (first | apply Kd.R_alloc | apply Kd.R_drewN | apply Kd.R_drew)); exact HO_685001.out))) (below_size (by repeat (first | (with_reducible first | exact HB.out | apply below_alloc | apply pw_below_drewN | apply below_drew1 | refine below_set ?_ GE656.out | refine below_set ?_ GE670.out | refine below_set ?_ GE675.out | refine below_set ?_ GE684.out) | exact HB.out))))
              have n5_ := Aside0.mk (blk_below (g := gb656) (o := .cells #[.int .i64 a0_0, .slice A0_1 l0_1.length c0_1] 24 (0, 0)) (by (with_reducible repeat (first | refine blk_drewN ?_ _ | refine blk_drew ?_ | refine blk_alloc ?_ _)); exact BK656.out) hb)
              have n6_ := Aside0.mk (blk_below (g := gb670) (o := .cells #[.int .i64 t665, .slice Ao29 t666.length co29] 26 (0, 0)) (by (with_reducible repeat (first | refine blk_drewN ?_ _ | refine blk_drew ?_ | refine blk_alloc ?_ _)); exact BK670.out) hb)
              have n7_ := Aside0.mk (blk_below (g := gb675) (o := .cells #[.int .i64 t671, .slice Ao36 t672.length co36] 26 (0, 0)) (by (with_reducible repeat (first | refine blk_drewN ?_ _ | refine blk_drew ?_ | refine blk_alloc ?_ _)); exact BK675.out) hb)
              have n8_ := Aside0.mk (blk_below (g := gb684) (o := .cells #[.int .i64 t679, .slice Ao46 t680.length co46] 26 (0, 0)) (by (with_reducible repeat (first | refine blk_drewN ?_ _ | refine blk_drew ?_ | refine blk_alloc ?_ _)); exact BK684.out) hb)
              have n9_ := Aside0.mk (below_step (by repeat (first | (with_reducible first | exact HB.out | apply below_alloc | apply pw_below_drewN | apply below_drew1 | refine below_set ?_ GE656.out | refine below_set ?_ GE670.out | refine below_set ?_ GE675.out | refine below_set ?_ GE684.out) | exact HB.out)) hb)
              clear HO_9
              clear HO_671001
              clear HO_676001
              clear HO_685001
              clear BK656
              clear BK670
              clear BK675
              clear BK684
              clear HB
              have HO_9 := n0_
              have HO_671001 := n1_
              have HO_676001 := n2_
              have HO_685001 := n3_
              have HO689 := n4_
              have BK656 := n5_
              have BK670 := n6_
              have BK675 := n7_
              have BK684 := n8_
              have HB := n9_
              clear n0_ n1_ n2_ n3_ n4_ n5_ n6_ n7_ n8_ n9_
              (try clear hb)
              (try clear hb2)
              (try clear hk)
              (try clear hi)
              (try clear ho0)
              obtain ⟨Ao203, co203, eo203⟩ := Kd.R_slice HO689.out
              (first | subst eo203 | (injection eo203 with f1_ f2_ f3_; have f4_ := f1_.symm; have f5_ := f3_.symm; clear f1_ f2_ f3_; subst f4_; subst f5_))
              refine hK.out _ _ ⟨(blk_cell BK675.out 0).trans rfl, (blk_cell BK675.out 1).trans rfl, (blk_cell BK656.out 0).trans rfl, (blk_cell BK656.out 1).trans rfl⟩ (fun hHeld => ?_)
              clear hK K
              refine norm_ (a' := ?_) ?_ ?_
              rotate_left
              · show Act.put _ (some 54) _ = _
                simp only [Act.put, List.setIfInBounds_toArray, List.set_cons_zero, List.set_cons_succ, i64_w, i32_w]
                rfl
              refine one_ (i := 3) (N := some 55) #[true, true, true, true, false] rfl rfl (by kernel_rfl) (by decide) (fun K hK => ?_)
              refine goes_ Tryd.func16 (by kernel_rfl) rfl #[.agg #[.int .i64 t671, .slice Ao36 t672.length co36], .agg #[.int .i64 t686, .slice Ao203 t687.length co203]] (by rfl) rfl rfl (by (try simp only [List.map_toArray, List.map_cons, List.map_nil]); first | done | rfl | (simp only [List.length_drop, List.length_take]; rfl)) ?_
              with_reducible refine (laws_eqOrder.calls kj15 t671 _ _ t672 t686 _ _ t687 false _ ?side1 ?side2 ?side3 ?side4 A67.out).mono ?_
              (case side1 => repeat (first | exact (Kd.R_reads' HO_676001.out).2.2 | (with_reducible refine Kd.C_alloc ?_ _) | (with_reducible refine Kd.C_drewN ?_ _) | (with_reducible refine Kd.C_drew ?_)))
              (case side2 => exact (Kd.R_reads' HO_676001.out).2.1)
              (case side3 => repeat (first | exact (Kd.R_reads' HO689.out).2.2 | (with_reducible refine Kd.C_alloc ?_ _) | (with_reducible refine Kd.C_drewN ?_ _) | (with_reducible refine Kd.C_drew ?_)))
              (case side4 => exact (Kd.R_reads' HO689.out).2.1)
              rintro e w204 ⟨rfl, hb⟩
              refine ⟨_, rfl, ?_⟩
              have n0_ := Aside0.mk (Kd.R_below (by (with_reducible repeat (first | apply Kd.R_alloc | apply Kd.R_drewN | apply Kd.R_drew)); exact HO_9.out) hb)
              have n1_ := Aside0.mk (Kd.R_below (by (with_reducible repeat (first | apply Kd.R_alloc | apply Kd.R_drewN | apply Kd.R_drew)); exact HO_671001.out) hb)
              have n2_ := Aside0.mk (Kd.R_below (by (with_reducible repeat (first | apply Kd.R_alloc | apply Kd.R_drewN | apply Kd.R_drew)); exact HO_676001.out) hb)
              have n3_ := Aside0.mk (Kd.R_below (by (with_reducible repeat (first | apply Kd.R_alloc | apply Kd.R_drewN | apply Kd.R_drew)); exact HO_685001.out) hb)
              have n4_ := Aside0.mk (Kd.R_below (by (with_reducible repeat (first | apply Kd.R_alloc | apply Kd.R_drewN | apply Kd.R_drew)); exact HO689.out) hb)
              have n5_ := Aside0.mk (blk_below (g := gb656) (o := .cells #[.int .i64 a0_0, .slice A0_1 l0_1.length c0_1] 24 (0, 0)) (by (with_reducible repeat (first | refine blk_drewN ?_ _ | refine blk_drew ?_ | refine blk_alloc ?_ _)); exact BK656.out) hb)
              have n6_ := Aside0.mk (blk_below (g := gb670) (o := .cells #[.int .i64 t665, .slice Ao29 t666.length co29] 26 (0, 0)) (by (with_reducible repeat (first | refine blk_drewN ?_ _ | refine blk_drew ?_ | refine blk_alloc ?_ _)); exact BK670.out) hb)
              have n7_ := Aside0.mk (blk_below (g := gb675) (o := .cells #[.int .i64 t671, .slice Ao36 t672.length co36] 26 (0, 0)) (by (with_reducible repeat (first | refine blk_drewN ?_ _ | refine blk_drew ?_ | refine blk_alloc ?_ _)); exact BK675.out) hb)
              have n8_ := Aside0.mk (blk_below (g := gb684) (o := .cells #[.int .i64 t679, .slice Ao46 t680.length co46] 26 (0, 0)) (by (with_reducible repeat (first | refine blk_drewN ?_ _ | refine blk_drew ?_ | refine blk_alloc ?_ _)); exact BK684.out) hb)
              have n9_ := Aside0.mk (below_step (by repeat (first | (with_reducible first | exact HB.out | apply below_alloc | apply pw_below_drewN | apply below_drew1 | refine below_set ?_ GE656.out | refine below_set ?_ GE670.out | refine below_set ?_ GE675.out | refine below_set ?_ GE684.out) | exact HB.out)) hb)
              clear HO_9
              clear HO_671001
              clear HO_676001
              clear HO_685001
              clear HO689
              clear BK656
              clear BK670
              clear BK675
              clear BK684
              clear HB
              have HO_9 := n0_
              have HO_671001 := n1_
              have HO_676001 := n2_
              have HO_685001 := n3_
              have HO689 := n4_
              have BK656 := n5_
              have BK670 := n6_
              have BK675 := n7_
              have BK684 := n8_
              have HB := n9_
              clear n0_ n1_ n2_ n3_ n4_ n5_ n6_ n7_ n8_ n9_
              (try clear hb)
              (try clear hb2)
              (try clear hk)
              (try clear hi)
              refine hK.out _ _ ⟨(blk_cell BK675.out 0).trans rfl, (blk_cell BK675.out 1).trans rfl, (blk_cell BK656.out 0).trans rfl, (blk_cell BK656.out 1).trans rfl⟩ (fun hHeld => ?_)
              clear hK K
              refine norm_ (a' := ?_) ?_ ?_
              rotate_left
              · show Act.put _ (some 55) _ = _
                simp only [Act.put, List.setIfInBounds_toArray, List.set_cons_zero, List.set_cons_succ, i64_w, i32_w]
                rfl
              refine pure_ (i := 4) (N := some 56) (v := ?_) (a' := ?_) #[true, true, true, true, true] rfl rfl (by kernel_rfl) (fun _ _ _ h => h) (Or.inl ⟨by rfl, ?_⟩) ?_ ?_
              rotate_left
              · intro w'
                go_simp
                with_reducible rfl
              rotate_left
              · simp only [Act.put, List.setIfInBounds_toArray, List.set_cons_zero, List.set_cons_succ, i64_w, i32_w]
                rfl
              refine done_ (by kernel_rfl) ?_
              try go_wp2
              go_ret
              exact ⟨by first | rfl | (simp [errW_none, errW_some] <;> rfl) | (simp [*, errW_none, errW_some] <;> rfl), by repeat (first | (with_reducible first | exact HB.out | apply below_alloc | apply pw_below_drewN | apply below_drew1 | refine below_set ?_ GE656.out | refine below_set ?_ GE670.out | refine below_set ?_ GE675.out | refine below_set ?_ GE684.out) | exact HB.out)⟩

end Go.Proofs.YtjbloapoaphgjaaDoor.P
