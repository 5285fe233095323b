-- Written by wip/myprint.py of this session (a driver of the kit's print); Lean checks it.
import Derived.Test.YtbodhioladafnaaDoorPx0
import Derived.Test.YtbodhioladafnaaDoorPx1
import Derived.Test.YtbodhioladafnaaDoorPx2
import Derived.Test.YtbodhioladafnaaDoorPx14
import Derived.Test.YtbodhioladafnaaDoorPx41
import Derived.Test.YtbodhioladafnaaDoorPx50
namespace Go.Proofs.YtbodhioladafnaaDoor.P
open Go.RowKit Go.Proofs.YtbodhioladafnaaDoorW.PrintWords Go.Proofs.YtbodhioladafnaaDoorW.PrintLast Go.Proofs.YtbodhioladafnaaDoorW.PrintMore
attribute [local go_sem] max2_int min2_int max_two min_two max_three min_three max_four min_four   -- for this text's walks alone
set_option linter.unusedVariables false
set_option linter.unusedSimpArgs false

/-! ### laws_FnExactTraceList: function 7 -/
mutual
def laws_FnExactTraceList.j0 : Nat → Int → List Int → Option (Bool)
  | 0, _, _ => none
  | k + 1, x721000, x721001 => (laws_toOrder.f k x721000 x721001).bind fun bt722 => ((spec_TraceList.f k bt722.1 bt722.2).bind fun bt726 => ((laws_toOrder.f k x721000 x721001).bind fun bt730 => ((impl_TraceList.f k bt730.1 bt730.2).bind fun bt735 => ((laws_eqIntS.f k bt735.1 bt726.1).bind fun t739 => (if t739 = true then (if (bt735.2 != bt726.2) = true then (none) else (laws_FnExactTraceList.j1 k bt726.1 bt726.2 bt735.1 bt735.2 x721000 x721001 bt730.1 bt730.2)) else (none))))))
def laws_FnExactTraceList.j1 : Nat → List Int → Bool → List Int → Bool → Int → List Int → Int → List Int → Option (Bool)
  | 0, _, _, _, _, _, _, _, _ => none
  | k + 1, x4, x5, x7, x8, x721000, x721001, x735000, x735001 => (laws_toOrder.f k x721000 x721001).bind fun bt740 => ((laws_eqOrder.f k x735000 x735001 bt740.1 bt740.2).bind fun t744 => (if t744 = true then (laws_FnExactTraceList.j2 k x4 x5 x7 x8 x721000 x721001 x735000 x735001) else (none)))
def laws_FnExactTraceList.j2 : Nat → List Int → Bool → List Int → Bool → Int → List Int → Int → List Int → Option (Bool)
  | 0, _, _, _, _, _, _, _, _ => none
  | k + 1, x4, x5, x7, x8, x721000, x721001, x735000, x735001 => (laws_markOrder.f k x735000 x735001 1).bind fun bt745 => (if bt745.1 < 0 then (none) else ((laws_eqIntS.f k x7 x4).bind fun t747 => (if t747 = true then (if (x8 != x5) = true then (none) else (laws_FnExactTraceList.j3 k x4 x5 x7 x721000 x721001)) else (none))))
def laws_FnExactTraceList.j3 : Nat → List Int → Bool → List Int → Int → List Int → Option (Bool)
  | 0, _, _, _, _, _ => none
  | k + 1, x4, x5, x7, x721000, x721001 => (laws_markIntS.f k x7 1).bind fun bt748 => ((laws_heldIntS.f k bt748.2 1).bind fun t750 => (if t750 < 0 then (none) else (laws_FnExactTraceList.j4 k x4 x5 bt748.2 bt748.1 t750 x721000 x721001)))
def laws_FnExactTraceList.j4 : Nat → List Int → Bool → List Int → Int → Int → Int → List Int → Option (Bool)
  | 0, _, _, _, _, _, _, _ => none
  | k + 1, x4, x5, x7, x10, x11, x721000, x721001 => if x11 = x10 then (laws_FnExactTraceList.j5 k x4 x5 x7 x10 x721000 x721001) else (none)
def laws_FnExactTraceList.j5 : Nat → List Int → Bool → List Int → Int → Int → List Int → Option (Bool)
  | 0, _, _, _, _, _, _ => none
  | k + 1, x4, x5, x7, x10, x721000, x721001 => (laws_toOrder.f k x721000 x721001).bind fun bt751 => ((impl_TraceList.f k bt751.1 bt751.2).bind fun bt755 => ((laws_eqIntS.f k bt755.1 x4).bind fun t759 => (if t759 = true then (if (bt755.2 != x5) = true then (none) else (laws_FnExactTraceList.j6 k x7 x10)) else (none))))
def laws_FnExactTraceList.j6 : Nat → List Int → Int → Option (Bool)
  | 0, _, _ => none
  | k + 1, x7, x10 => (laws_heldIntS.f k x7 1).bind fun t760 => (if t760 < 0 then (none) else (if t760 = x10 then (some true) else (none)))
end
def laws_FnExactTraceList.f (k : Nat) (a0_0 : Int) (l0_1 : List Int) : Option (Bool) := (laws_szOrder.f a0_0 l0_1 1048576).bind fun t721 => (if t721 < 0 then (some true) else (laws_FnExactTraceList.j0 k a0_0 l0_1))
set_option maxHeartbeats 8000000 in
set_option maxRecDepth 100000 in
theorem laws_FnExactTraceList.calls (k : Nat) (a0_0 : Int) (A0_1 : Option Addr) (c0_1 : Nat) (l0_1 : List Int) (r : Bool) (w : World) (hr0_1 : Kd.C (Kd.int .i64) w A0_1 l0_1.length l0_1) (hc0_1 : l0_1.length ≤ c0_1) (hT : TzW w) (h : laws_FnExactTraceList.f k a0_0 l0_1 = some r) :
    Calls Tryd.prog 7 #[.agg #[.int .i64 a0_0, .slice A0_1 l0_1.length c0_1]] w fun e w' => e = .returned (.bool r) ∧ Below w.heap.size w w' := by
  have hu24 := Tryd.underlying24
  have hu28 := Tryd.underlying28
  have HR0_1 := Aside0.mk hr0_1
  have HC0_1 := Aside0.mk hc0_1
  clear hr0_1 hc0_1
  have HT := Aside0.mk hT
  clear hT
  have HB := Aside0.mk (Below.refl w.heap.size w)
  have H : ((laws_szOrder.f a0_0 l0_1 1048576).bind fun t721 => (if t721 < 0 then (some true) else (laws_FnExactTraceList.j0 k a0_0 l0_1))) = some r := h
  clear h
  replace H := Option.bind_eq_some_iff.mp H
  obtain ⟨t721, A20, H⟩ := H
  replace H : (if t721 < 0 then (some true) else (laws_FnExactTraceList.j0 k a0_0 l0_1)) = some r := H
  have A2 := Aside0.mk A20
  clear A20
  have HC3 := Aside0.mk H
  clear H
  go_enter Tryd.func7, Tryd.ntmps7
  go_upto_if 18 with (first | ((with_reducible refine gate_dst (N := 1) rfl ?_); refine box_event ?hg (N := 1) ?hd (cs := #[.int .i64 a0_0, .slice A0_1 l0_1.length c0_1]) (t := 24) ?hr ?_; (case hd => rfl); (case hg => rfl); (case hr => first | (go_simp; done) | (go_simp; rfl)); intro gb720 hg w4 hbox hb; have n0_ := Aside0.mk (below_step (by repeat (first | (with_reducible first | exact HB.out | apply below_alloc | apply pw_below_drewN | apply below_drew1) | exact HB.out)) hb); have n1_ := Aside0.mk (hbox); have n2_ := Aside0.mk ((by rw [hg]; exact (below_size (by repeat (first | (with_reducible first | exact HB.out | apply below_alloc | apply pw_below_drewN | apply below_drew1) | exact HB.out))) : w.heap.size ≤ gb720)); have n3_ := Aside0.mk ((by rw [hg]; exact (below_size (by repeat (first | (with_reducible first | exact HB.out | apply below_alloc | apply pw_below_drewN | apply below_drew1) | exact HB.out))) : w.heap.size ≤ gb720)); clear HB; have HB := n0_; have BK720 := n1_; have GW720 := n2_; have GE720 := n3_; clear n0_ n1_ n2_ n3_; clear hb hbox hg; have hcz5_0 : w4.cell? ⟨gb720, 0, none⟩ = some (.int .i64 a0_0) := (blk_cell BK720.out 0).trans rfl; have hcz5_1 : w4.cell? ⟨gb720, 1, none⟩ = some (.slice A0_1 l0_1.length c0_1) := (blk_cell BK720.out 1).trans rfl; have hfz5_0 := blk_frozen BK720.out 0; have hfz5_1 := blk_frozen BK720.out 1) | ((with_reducible refine gate_callee (f := 8) rfl ?_); refine goesL_ (some 16) rfl rfl Tryd.func8 (by kernel_rfl) rfl #[.agg #[.int .i64 a0_0, .slice A0_1 l0_1.length c0_1], .int .i64 1048576] rfl (by (try simp only [List.map_toArray, List.map_cons, List.map_nil]); first | done | rfl | (simp only [List.length_drop, List.length_take]; rfl)) ?_; (with_reducible refine (laws_szOrder.calls a0_0 _ _ l0_1 1048576 t721 _ ?side1 ?side2 A2.out).mono ?_); (case side1 => repeat (first | exact (Kd.C_below HR0_1.out HB.out) | (with_reducible refine Kd.C_alloc ?_ _) | (with_reducible refine Kd.C_drewN ?_ _) | (with_reducible refine Kd.C_drew ?_))); (case side2 => exact HC0_1.out); rintro e w6 ⟨rfl, hb⟩; refine ⟨_, rfl, ?_⟩; have n0_ := Aside0.mk (blk_below (g := gb720) (o := .cells #[.int .i64 a0_0, .slice A0_1 l0_1.length c0_1] 24 (0, 0)) (by (with_reducible repeat (first | refine blk_drewN ?_ _ | refine blk_drew ?_ | refine blk_alloc ?_ _)); exact BK720.out) hb); have n1_ := Aside0.mk (below_step (by repeat (first | (with_reducible first | exact HB.out | apply below_alloc | apply pw_below_drewN | apply below_drew1 | refine below_set ?_ GE720.out) | exact HB.out)) hb); clear BK720; clear HB; have BK720 := n0_; have HB := n1_; clear n0_ n1_; (try clear hb); (try clear hb2); (try clear hk); (try clear hi)))
  (try simp only [Act.put, List.setIfInBounds_toArray, List.set_cons_zero, List.set_cons_succ])
  go_cut [] (fun wc => ∃ (kq : Nat), Aside0 (laws_FnExactTraceList.j0 kq a0_0 l0_1 = some r) ∧ Aside0 (kq ≤ k) ∧ Aside0 (wc.heap[gb720]? = some (.cells #[.int .i64 a0_0, (.slice A0_1 l0_1.length c0_1)] 24 (0, 0))) ∧ Aside0 (Below w.heap.size w wc))
  case first =>
    have H := HC3.out
    clear HC3
    by_cases c7 : t721 < 0
    · rw [if_pos c7] at H
      have c7b0 : decide (t721 < 0) = true := decide_eq_true c7
      clear c7
      (first | rw [c7b0] | (simp only [i64_w, i32_w]; rw [c7b0]) | skip)
      obtain rfl := Option.some.inj H
      go_wp2
      go_ret
      exact ⟨by first | rfl | (simp [errW_none, errW_some] <;> rfl) | (simp [*, errW_none, errW_some] <;> rfl), by repeat (first | (with_reducible first | exact HB.out | apply below_alloc | apply pw_below_drewN | apply below_drew1 | refine below_set ?_ GE720.out) | exact HB.out)⟩
    · rw [if_neg c7] at H
      have c7b0 : decide (t721 < 0) = false := decide_eq_false c7
      clear c7
      (first | rw [c7b0] | (simp only [i64_w, i32_w]; rw [c7b0]) | skip)
      have H' := Aside0.mk H
      clear H
      go_wp2
      go_meet
      case rel => exact ⟨_, H', ⟨by first | omega | exact Nat.le_refl _⟩, ⟨by (with_reducible repeat (first | refine blk_drewN ?_ _ | refine blk_drew ?_ | refine blk_alloc ?_ _)); exact BK720.out⟩, ⟨by repeat (first | (with_reducible first | exact HB.out | apply below_alloc | apply pw_below_drewN | apply below_drew1 | refine below_set ?_ GE720.out) | exact HB.out)⟩⟩
  case rest =>
    clear HC3
    try clear p2
    try clear c7
    try clear c7b0
    try clear hcz5_0
    try clear hcz5_1
    try clear hfz5_0
    try clear hfz5_1
    obtain ⟨kq, HA, HJ2, BK720, HB⟩ := hcut
    cases kq with
    | zero => exact absurd HA.out (by simp [laws_FnExactTraceList.j0])
    | succ kj2 =>
      have H := HA.out
      clear HA
      simp only [laws_FnExactTraceList.j0] at H
      replace H := Option.bind_eq_some_iff.mp H
      obtain ⟨⟨t722, t723⟩, A80, H⟩ := H
      replace H : ((spec_TraceList.f kj2 t722 t723).bind fun bt726 => ((laws_toOrder.f kj2 a0_0 l0_1).bind fun bt730 => ((impl_TraceList.f kj2 bt730.1 bt730.2).bind fun bt735 => ((laws_eqIntS.f kj2 bt735.1 bt726.1).bind fun t739 => (if t739 = true then (if (bt735.2 != bt726.2) = true then (none) else (laws_FnExactTraceList.j1 kj2 bt726.1 bt726.2 bt735.1 bt735.2 a0_0 l0_1 bt730.1 bt730.2)) else (none)))))) = some r := H
      have A8 := Aside0.mk A80
      clear A80
      replace H := Option.bind_eq_some_iff.mp H
      obtain ⟨⟨t726, t729⟩, A90, H⟩ := H
      replace H : ((laws_toOrder.f kj2 a0_0 l0_1).bind fun bt730 => ((impl_TraceList.f kj2 bt730.1 bt730.2).bind fun bt735 => ((laws_eqIntS.f kj2 bt735.1 t726).bind fun t739 => (if t739 = true then (if (bt735.2 != t729) = true then (none) else (laws_FnExactTraceList.j1 kj2 t726 t729 bt735.1 bt735.2 a0_0 l0_1 bt730.1 bt730.2)) else (none))))) = some r := H
      have A9 := Aside0.mk A90
      clear A90
      replace H := Option.bind_eq_some_iff.mp H
      obtain ⟨⟨t730, t731⟩, A100, H⟩ := H
      replace H : ((impl_TraceList.f kj2 t730 t731).bind fun bt735 => ((laws_eqIntS.f kj2 bt735.1 t726).bind fun t739 => (if t739 = true then (if (bt735.2 != t729) = true then (none) else (laws_FnExactTraceList.j1 kj2 t726 t729 bt735.1 bt735.2 a0_0 l0_1 t730 t731)) else (none)))) = some r := H
      have A10 := Aside0.mk A100
      clear A100
      replace H := Option.bind_eq_some_iff.mp H
      obtain ⟨⟨t735, t738⟩, A110, H⟩ := H
      replace H : ((laws_eqIntS.f kj2 t735 t726).bind fun t739 => (if t739 = true then (if (t738 != t729) = true then (none) else (laws_FnExactTraceList.j1 kj2 t726 t729 t735 t738 a0_0 l0_1 t730 t731)) else (none))) = some r := H
      have A11 := Aside0.mk A110
      clear A110
      replace H := Option.bind_eq_some_iff.mp H
      obtain ⟨t739, A120, H⟩ := H
      replace H : (if t739 = true then (if (t738 != t729) = true then (none) else (laws_FnExactTraceList.j1 kj2 t726 t729 t735 t738 a0_0 l0_1 t730 t731)) else (none)) = some r := H
      have A12 := Aside0.mk A120
      clear A120
      by_cases c13 : t739 = true
      · subst c13
        have H1 : (if (t738 != t729) = true then (none) else (laws_FnExactTraceList.j1 kj2 t726 t729 t735 t738 a0_0 l0_1 t730 t731)) = some r := by rw [if_pos rfl] at H; exact H
        clear H
        have H := H1
        clear H1
        have HC14 := Aside0.mk H
        clear H
        have hcz15_0 : wc.cell? ⟨gb720, 0, none⟩ = some (.int .i64 a0_0) := (blk_cell BK720.out 0).trans rfl
        have hcz15_1 : wc.cell? ⟨gb720, 1, none⟩ = some (.slice A0_1 l0_1.length c0_1) := (blk_cell BK720.out 1).trans rfl
        have hfz15_0 := blk_frozen BK720.out 0
        have hfz15_1 := blk_frozen BK720.out 1
        go_upto_if 40 with (first | ((with_reducible refine gate_callee (f := 10) rfl ?_); refine goesL_ (some 21) rfl rfl Tryd.func10 (by kernel_rfl) rfl #[.agg #[.int .i64 a0_0, .slice A0_1 l0_1.length c0_1]] rfl (by (try simp only [List.map_toArray, List.map_cons, List.map_nil]); first | done | rfl | (simp only [List.length_drop, List.length_take]; rfl)) ?_; (with_reducible refine (laws_toOrder.calls kj2 a0_0 _ _ l0_1 t722 t723 _ ?side1 ?side2 A8.out).mono ?_); (case side1 => repeat (first | exact (Kd.C_below HR0_1.out HB.out) | (with_reducible refine Kd.C_alloc ?_ _) | (with_reducible refine Kd.C_drewN ?_ _) | (with_reducible refine Kd.C_drew ?_))); (case side2 => exact HC0_1.out); rintro e w16 ⟨v724, rfl, ho0, hb⟩; refine ⟨_, rfl, ?_⟩; have n0_ := Aside0.mk (Kd.R_lower ho0 (below_size (by repeat (first | (with_reducible first | exact HB.out | apply below_alloc | apply pw_below_drewN | apply below_drew1 | refine below_set ?_ GE720.out) | exact HB.out)))); have n1_ := Aside0.mk (blk_below (g := gb720) (o := .cells #[.int .i64 a0_0, .slice A0_1 l0_1.length c0_1] 24 (0, 0)) (by (with_reducible repeat (first | refine blk_drewN ?_ _ | refine blk_drew ?_ | refine blk_alloc ?_ _)); exact BK720.out) hb); have n2_ := Aside0.mk (below_step (by repeat (first | (with_reducible first | exact HB.out | apply below_alloc | apply pw_below_drewN | apply below_drew1 | refine below_set ?_ GE720.out) | exact HB.out)) hb); clear BK720; clear HB; have HO725 := n0_; have BK720 := n1_; have HB := n2_; clear n0_ n1_ n2_; (try clear hb); (try clear hb2); (try clear hk); (try clear hi); (try clear ho0); obtain ⟨Ao17, co17, eo17⟩ := Kd.R_slice HO725.out; subst eo17) | ((with_reducible refine gate_callee (f := 24) rfl ?_); refine goesL_ (some 22) rfl rfl Tryd.func24 (by kernel_rfl) rfl #[.agg #[.int .i64 t722, .slice Ao17 t723.length co17]] rfl (by (try simp only [List.map_toArray, List.map_cons, List.map_nil]); first | done | rfl | (simp only [List.length_drop, List.length_take]; rfl)) ?_; (with_reducible refine (spec_TraceList.calls kj2 t722 _ _ t723 t726 t729 _ ?side1 ?side2 A9.out).mono ?_); (case side1 => repeat (first | exact (Kd.R_reads' HO725.out).2.2 | (with_reducible refine Kd.C_alloc ?_ _) | (with_reducible refine Kd.C_drewN ?_ _) | (with_reducible refine Kd.C_drew ?_))); (case side2 => exact (Kd.R_reads' HO725.out).2.1); rintro e w18 ⟨v727, rfl, ho0, hb⟩; refine ⟨_, rfl, ?_⟩; have n0_ := Aside0.mk (Kd.R_elder' (by (with_reducible repeat (first | apply Kd.R_alloc | apply Kd.R_drewN | apply Kd.R_drew)); exact HO725.out) (Kd.R_base ho0) hb); have n1_ := Aside0.mk (Kd.R_lower (Kd.R_new' ho0 (Kd.R_lt (by (with_reducible repeat (first | apply Kd.R_alloc | apply Kd.R_drewN | apply Kd.R_drew)); exact HO725.out))) (below_size (by repeat (first | (with_reducible first | exact HB.out | apply below_alloc | apply pw_below_drewN | apply below_drew1 | refine below_set ?_ GE720.out) | exact HB.out)))); have n2_ := Aside0.mk (blk_below (g := gb720) (o := .cells #[.int .i64 a0_0, .slice A0_1 l0_1.length c0_1] 24 (0, 0)) (by (with_reducible repeat (first | refine blk_drewN ?_ _ | refine blk_drew ?_ | refine blk_alloc ?_ _)); exact BK720.out) hb); have n3_ := Aside0.mk (below_step (by repeat (first | (with_reducible first | exact HB.out | apply below_alloc | apply pw_below_drewN | apply below_drew1 | refine below_set ?_ GE720.out) | exact HB.out)) hb); clear HO725; clear BK720; clear HB; have HO725 := n0_; have HO728 := n1_; have BK720 := n2_; have HB := n3_; clear n0_ n1_ n2_ n3_; (try clear hb); (try clear hb2); (try clear hk); (try clear hi); (try clear ho0); have hcz19_0 : w18.cell? ⟨gb720, 0, none⟩ = some (.int .i64 a0_0) := (blk_cell BK720.out 0).trans rfl; have hcz19_1 : w18.cell? ⟨gb720, 1, none⟩ = some (.slice A0_1 l0_1.length c0_1) := (blk_cell BK720.out 1).trans rfl; have hfz19_0 := blk_frozen BK720.out 0; have hfz19_1 := blk_frozen BK720.out 1) | ((with_reducible refine gate_callee (f := 10) rfl ?_); refine goesL_ (some 26) rfl rfl Tryd.func10 (by kernel_rfl) rfl #[.agg #[.int .i64 a0_0, .slice A0_1 l0_1.length c0_1]] rfl (by (try simp only [List.map_toArray, List.map_cons, List.map_nil]); first | done | rfl | (simp only [List.length_drop, List.length_take]; rfl)) ?_; (with_reducible refine (laws_toOrder.calls kj2 a0_0 _ _ l0_1 t730 t731 _ ?side1 ?side2 A10.out).mono ?_); (case side1 => repeat (first | exact (Kd.C_below HR0_1.out HB.out) | (with_reducible refine Kd.C_alloc ?_ _) | (with_reducible refine Kd.C_drewN ?_ _) | (with_reducible refine Kd.C_drew ?_))); (case side2 => exact HC0_1.out); rintro e w20 ⟨v732, rfl, ho0, hb⟩; refine ⟨_, rfl, ?_⟩; have n0_ := Aside0.mk (Kd.R_elder' (by (with_reducible repeat (first | apply Kd.R_alloc | apply Kd.R_drewN | apply Kd.R_drew)); exact HO725.out) (Kd.R_base ho0) hb); have n1_ := Aside0.mk (Kd.R_elder' (by (with_reducible repeat (first | apply Kd.R_alloc | apply Kd.R_drewN | apply Kd.R_drew)); exact HO728.out) (Kd.R_base ho0) hb); have n2_ := Aside0.mk (Kd.R_lower (Kd.R_new' (Kd.R_new' ho0 (Kd.R_lt (by (with_reducible repeat (first | apply Kd.R_alloc | apply Kd.R_drewN | apply Kd.R_drew)); exact HO725.out))) (Kd.R_lt (by (with_reducible repeat (first | apply Kd.R_alloc | apply Kd.R_drewN | apply Kd.R_drew)); exact HO728.out))) (below_size (by repeat (first | (with_reducible first | exact HB.out | apply below_alloc | apply pw_below_drewN | apply below_drew1 | refine below_set ?_ GE720.out) | exact HB.out)))); have n3_ := Aside0.mk (blk_below (g := gb720) (o := .cells #[.int .i64 a0_0, .slice A0_1 l0_1.length c0_1] 24 (0, 0)) (by (with_reducible repeat (first | refine blk_drewN ?_ _ | refine blk_drew ?_ | refine blk_alloc ?_ _)); exact BK720.out) hb); have n4_ := Aside0.mk (below_step (by repeat (first | (with_reducible first | exact HB.out | apply below_alloc | apply pw_below_drewN | apply below_drew1 | refine below_set ?_ GE720.out) | exact HB.out)) hb); clear HO725; clear HO728; clear BK720; clear HB; have HO725 := n0_; have HO728 := n1_; have HO733 := n2_; have BK720 := n3_; have HB := n4_; clear n0_ n1_ n2_ n3_ n4_; (try clear hb); (try clear hb2); (try clear hk); (try clear hi); (try clear ho0)) | ((with_reducible refine gate_dst (N := 6) rfl ?_); refine box_event ?hg (N := 6) ?hd (cs := #[.int .i64 0, .slice none 0 0]) (t := 28) ?hr ?_; (case hd => rfl); (case hg => rfl); (case hr => first | (go_simp; done) | (go_simp; rfl)); intro gb734 hg w21 hbox hb; have n0_ := Aside0.mk (Kd.R_below (by (with_reducible repeat (first | apply Kd.R_alloc | apply Kd.R_drewN | apply Kd.R_drew)); exact HO725.out) hb); have n1_ := Aside0.mk (Kd.R_below (by (with_reducible repeat (first | apply Kd.R_alloc | apply Kd.R_drewN | apply Kd.R_drew)); exact HO728.out) hb); have n2_ := Aside0.mk (Kd.R_below (by (with_reducible repeat (first | apply Kd.R_alloc | apply Kd.R_drewN | apply Kd.R_drew)); exact HO733.out) hb); have n3_ := Aside0.mk (blk_below (g := gb720) (o := .cells #[.int .i64 a0_0, .slice A0_1 l0_1.length c0_1] 24 (0, 0)) (by (with_reducible repeat (first | refine blk_drewN ?_ _ | refine blk_drew ?_ | refine blk_alloc ?_ _)); exact BK720.out) hb); have n4_ := Aside0.mk (below_step (by repeat (first | (with_reducible first | exact HB.out | apply below_alloc | apply pw_below_drewN | apply below_drew1 | refine below_set ?_ GE720.out) | exact HB.out)) hb); have n5_ := Aside0.mk (hbox); have n6_ := Aside0.mk ((by rw [hg]; exact (below_size (by repeat (first | (with_reducible first | exact HB.out | apply below_alloc | apply pw_below_drewN | apply below_drew1 | refine below_set ?_ GE720.out) | exact HB.out))) : w.heap.size ≤ gb734)); have n7_ := Aside0.mk ((by rw [hg]; exact (below_size (by repeat (first | (with_reducible first | exact HB.out | apply below_alloc | apply pw_below_drewN | apply below_drew1 | refine below_set ?_ GE720.out) | exact HB.out))) : w.heap.size ≤ gb734)); have n8_ := Aside0.mk ((by rw [hg]; exact Nat.ne_of_lt (blk_lt (g := gb720) (o := .cells #[.int .i64 a0_0, .slice A0_1 l0_1.length c0_1] 24 (0, 0)) (by (with_reducible repeat (first | refine blk_drewN ?_ _ | refine blk_drew ?_ | refine blk_alloc ?_ _)); exact BK720.out)) : gb720 ≠ gb734)); have n9_ := Aside0.mk ((by rw [hg]; exact Nat.ne_of_gt (blk_lt (g := gb720) (o := .cells #[.int .i64 a0_0, .slice A0_1 l0_1.length c0_1] 24 (0, 0)) (by (with_reducible repeat (first | refine blk_drewN ?_ _ | refine blk_drew ?_ | refine blk_alloc ?_ _)); exact BK720.out)) : gb734 ≠ gb720)); clear HO725; clear HO728; clear HO733; clear BK720; clear HB; have HO725 := n0_; have HO728 := n1_; have HO733 := n2_; have BK720 := n3_; have HB := n4_; have BK734 := n5_; have GW734 := n6_; have GE734 := n7_; have NB720_734 := n8_; have NB734_720 := n9_; clear n0_ n1_ n2_ n3_ n4_ n5_ n6_ n7_ n8_ n9_; clear hb hbox hg; have hnb22 := NB734_720.out; have hnc22 := NB720_734.out; have hcz23_0 : w21.cell? ⟨gb734, 0, none⟩ = some (.int .i64 0) := (blk_cell BK734.out 0).trans rfl; have hcz23_1 : w21.cell? ⟨gb734, 1, none⟩ = some (.slice none 0 0) := (blk_cell BK734.out 1).trans rfl; have hfz23_0 := blk_frozen BK734.out 0; have hfz23_1 := blk_frozen BK734.out 1; obtain ⟨Ao24, co24, eo24⟩ := Kd.R_slice HO733.out; subst eo24) | ((with_reducible refine gate_callee (f := 25) rfl ?_); refine goesL_ (some 29) rfl rfl Tryd.func25 (by kernel_rfl) rfl #[.agg #[.int .i64 t730, .slice Ao24 t731.length co24]] rfl (by (try simp only [List.map_toArray, List.map_cons, List.map_nil]); first | done | rfl | (simp only [List.length_drop, List.length_take]; rfl)) ?_; (with_reducible refine (impl_TraceList.calls kj2 t730 _ _ t731 t735 t738 _ ?side1 ?side2 ?side3 A11.out).mono ?_); (case side1 => refine (Kd.R_reads' (e := 3) (base := w.heap.size) (ok := fun k_ => ((True ∧ some k_ ≠ (.slice Ao17 t723.length co17 : Value).ownBlock) ∧ some k_ ≠ (v727 : Value).ownBlock)) (n := t731.length) (c := co24) ?_).2.2; exact (by (with_reducible repeat (first | apply Kd.R_alloc | apply Kd.R_drewN | apply Kd.R_drew)); exact (Kd.R_mono (Kd.R_far (p := ⟨gb734, 1, none⟩) (Kd.R_far (p := ⟨gb734, 0, none⟩) (Kd.R_types HO733.out BK734.out (by decide)) (fun _ hk => hk.2) (.int .i64 t730)) (fun _ hk => hk.2) (.slice Ao24 t731.length co24)) (fun _ h_ => h_.1)))); (case side2 => exact (Kd.R_reads' HO733.out).2.1); (case side3 => exact TzW.below HT.out (by repeat (first | (with_reducible first | exact HB.out | apply below_alloc | apply pw_below_drewN | apply below_drew1 | refine below_set ?_ GE720.out | refine below_set ?_ GE734.out) | exact HB.out))); rintro e w25 ⟨v736, rfl, ho0, hb⟩; refine ⟨_, rfl, ?_⟩; have n0_ := Aside0.mk (Kd.R_elder' (by (with_reducible repeat (first | apply Kd.R_alloc | apply Kd.R_drewN | apply Kd.R_drew)); exact (Kd.R_mono (Kd.R_far (p := ⟨gb734, 1, none⟩) (Kd.R_far (p := ⟨gb734, 0, none⟩) (Kd.R_types HO725.out BK734.out (by decide)) (fun _ hk => hk.2) (.int .i64 t730)) (fun _ hk => hk.2) (.slice Ao24 t731.length co24)) (fun _ h_ => h_.1))) (Kd.R_base ho0) hb); have n1_ := Aside0.mk (Kd.R_elder' (by (with_reducible repeat (first | apply Kd.R_alloc | apply Kd.R_drewN | apply Kd.R_drew)); exact (Kd.R_mono (Kd.R_far (p := ⟨gb734, 1, none⟩) (Kd.R_far (p := ⟨gb734, 0, none⟩) (Kd.R_types HO728.out BK734.out (by decide)) (fun _ hk => hk.2) (.int .i64 t730)) (fun _ hk => hk.2) (.slice Ao24 t731.length co24)) (fun _ h_ => h_.1))) (Kd.R_base ho0) hb); have n2_ := Aside0.mk (Kd.R_elder' (by (with_reducible repeat (first | apply Kd.R_alloc | apply Kd.R_drewN | apply Kd.R_drew)); exact (Kd.R_mono (Kd.R_far (p := ⟨gb734, 1, none⟩) (Kd.R_far (p := ⟨gb734, 0, none⟩) (Kd.R_types HO733.out BK734.out (by decide)) (fun _ hk => hk.2) (.int .i64 t730)) (fun _ hk => hk.2) (.slice Ao24 t731.length co24)) (fun _ h_ => h_.1))) (Kd.R_base ho0) hb); have n3_ := Aside0.mk (Kd.R_lower (Kd.R_new' (Kd.R_new' (Kd.R_new' ho0 (Kd.R_lt (by (with_reducible repeat (first | apply Kd.R_alloc | apply Kd.R_drewN | apply Kd.R_drew)); exact (Kd.R_mono (Kd.R_far (p := ⟨gb734, 1, none⟩) (Kd.R_far (p := ⟨gb734, 0, none⟩) (Kd.R_types HO725.out BK734.out (by decide)) (fun _ hk => hk.2) (.int .i64 t730)) (fun _ hk => hk.2) (.slice Ao24 t731.length co24)) (fun _ h_ => h_.1))))) (Kd.R_lt (by (with_reducible repeat (first | apply Kd.R_alloc | apply Kd.R_drewN | apply Kd.R_drew)); exact (Kd.R_mono (Kd.R_far (p := ⟨gb734, 1, none⟩) (Kd.R_far (p := ⟨gb734, 0, none⟩) (Kd.R_types HO728.out BK734.out (by decide)) (fun _ hk => hk.2) (.int .i64 t730)) (fun _ hk => hk.2) (.slice Ao24 t731.length co24)) (fun _ h_ => h_.1))))) (Kd.R_lt (by (with_reducible repeat (first | apply Kd.R_alloc | apply Kd.R_drewN | apply Kd.R_drew)); exact (Kd.R_mono (Kd.R_far (p := ⟨gb734, 1, none⟩) (Kd.R_far (p := ⟨gb734, 0, none⟩) (Kd.R_types HO733.out BK734.out (by decide)) (fun _ hk => hk.2) (.int .i64 t730)) (fun _ hk => hk.2) (.slice Ao24 t731.length co24)) (fun _ h_ => h_.1))))) (below_size (by repeat (first | (with_reducible first | exact HB.out | apply below_alloc | apply pw_below_drewN | apply below_drew1 | refine below_set ?_ GE720.out | refine below_set ?_ GE734.out) | exact HB.out)))); have n4_ := Aside0.mk (blk_below (g := gb720) (o := .cells #[.int .i64 a0_0, .slice A0_1 l0_1.length c0_1] 24 (0, 0)) (by (with_reducible repeat (first | refine blk_drewN ?_ _ | refine blk_drew ?_ | refine blk_alloc ?_ _)); refine blk_far ?_ NB720_734.out _; (with_reducible repeat (first | refine blk_drewN ?_ _ | refine blk_drew ?_ | refine blk_alloc ?_ _)); refine blk_far ?_ NB720_734.out _; (with_reducible repeat (first | refine blk_drewN ?_ _ | refine blk_drew ?_ | refine blk_alloc ?_ _)); exact BK720.out) hb); have n5_ := Aside0.mk (blk_below (g := gb734) (o := .cells #[.int .i64 t730, .slice Ao24 t731.length co24] 28 (0, 0)) (by (with_reducible repeat (first | refine blk_drewN ?_ _ | refine blk_drew ?_ | refine blk_alloc ?_ _)); refine blk_put (cs := #[.int .i64 t730, .slice none 0 0]) ?_ 1 _ rfl; (with_reducible repeat (first | refine blk_drewN ?_ _ | refine blk_drew ?_ | refine blk_alloc ?_ _)); refine blk_put (cs := #[.int .i64 0, .slice none 0 0]) ?_ 0 _ rfl; (with_reducible repeat (first | refine blk_drewN ?_ _ | refine blk_drew ?_ | refine blk_alloc ?_ _)); exact BK734.out) hb); have n6_ := Aside0.mk (below_step (by repeat (first | (with_reducible first | exact HB.out | apply below_alloc | apply pw_below_drewN | apply below_drew1 | refine below_set ?_ GE720.out | refine below_set ?_ GE734.out) | exact HB.out)) hb); clear HO725; clear HO728; clear HO733; clear BK720; clear BK734; clear HB; have HO725 := n0_; have HO728 := n1_; have HO733 := n2_; have HO737 := n3_; have BK720 := n4_; have BK734 := n5_; have HB := n6_; clear n0_ n1_ n2_ n3_ n4_ n5_ n6_; (try clear hb); (try clear hb2); (try clear hk); (try clear hi); (try clear ho0); obtain ⟨Ao26, co26, eo26⟩ := Kd.R_slice HO737.out; subst eo26; obtain ⟨Ao27, co27, eo27⟩ := Kd.R_slice HO728.out; subst eo27) | ((with_reducible refine gate_callee (f := 15) rfl ?_); refine goesL_ (some 34) rfl rfl Tryd.func15 (by kernel_rfl) rfl #[.slice Ao26 t735.length co26, .slice Ao27 t726.length co27] rfl (by (try simp only [List.map_toArray, List.map_cons, List.map_nil]); first | done | rfl | (simp only [List.length_drop, List.length_take]; rfl)) ?_; (with_reducible refine (laws_eqIntS.calls kj2 _ _ t735 _ _ t726 true _ ?side1 ?side2 ?side3 ?side4 A12.out).mono ?_); (case side1 => repeat (first | exact (Kd.R_reads' HO737.out).2.2 | (with_reducible refine Kd.C_alloc ?_ _) | (with_reducible refine Kd.C_drewN ?_ _) | (with_reducible refine Kd.C_drew ?_))); (case side2 => exact (Kd.R_reads' HO737.out).2.1); (case side3 => repeat (first | exact (Kd.R_reads' HO728.out).2.2 | (with_reducible refine Kd.C_alloc ?_ _) | (with_reducible refine Kd.C_drewN ?_ _) | (with_reducible refine Kd.C_drew ?_))); (case side4 => exact (Kd.R_reads' HO728.out).2.1); rintro e w' ⟨rfl, ⟨nd, rfl⟩⟩; refine ⟨_, rfl, ?_⟩))
        (try simp only [Act.put, List.setIfInBounds_toArray, List.set_cons_zero, List.set_cons_succ])
        go_cut [] (fun wc => ∃ (kq : Nat), Aside0 (laws_FnExactTraceList.j1 kq t726 t729 t735 t738 a0_0 l0_1 t730 t731 = some r) ∧ Aside0 (kq ≤ kj2) ∧ Aside0 (Kd.R (Kd.int .i64) 3 wc w.heap.size (fun k_ => some k_ ≠ ((.slice Ao26 t735.length co26) : Value).ownBlock ∧ some k_ ≠ ((.slice Ao24 t731.length co24) : Value).ownBlock) (.slice Ao27 t726.length co27) t726) ∧ Aside0 (Kd.R (Kd.int .i64) 3 wc w.heap.size (fun k_ => some k_ ≠ ((.slice Ao27 t726.length co27) : Value).ownBlock ∧ some k_ ≠ ((.slice Ao24 t731.length co24) : Value).ownBlock) (.slice Ao26 t735.length co26) t735) ∧ Aside0 (Kd.R (Kd.int .i64) 3 wc w.heap.size (fun k_ => some k_ ≠ ((.slice Ao27 t726.length co27) : Value).ownBlock ∧ some k_ ≠ ((.slice Ao26 t735.length co26) : Value).ownBlock) (.slice Ao24 t731.length co24) t731) ∧ Aside0 (wc.heap[gb720]? = some (.cells #[.int .i64 a0_0, (.slice A0_1 l0_1.length c0_1)] 24 (0, 0))) ∧ Aside0 (wc.heap[gb734]? = some (.cells #[.int .i64 t730, (.slice Ao24 t731.length co24)] 28 (0, 0))) ∧ Aside0 (Below w.heap.size w wc))
        case first =>
          have H := HC14.out
          clear HC14
          by_cases c28 : (t738 != t729) = true
          · rw [if_pos c28] at H
            exact absurd H (by simp)
          · rw [if_neg c28] at H
            have c28b0 : (t738 != t729) = false := by simpa using c28
            (try (have c28b1 : decide (t738 = t729) = true := by simpa using c28))
            (try (have c28b2 : (t738 == t729) = true := by simpa using c28))
            clear c28
            (first | rw [c28b0] | rw [c28b2, Bool.not_true] | rw [c28b2, Bool.not_false] | (simp only [i64_w, i32_w]; rw [c28b0]) | skip)
            have H' := Aside0.mk H
            clear H
            go_wp2
            go_meet
            case rel => exact ⟨_, H', ⟨by have := HJ2.out; first | omega | exact Nat.le_refl _⟩, ⟨by (with_reducible repeat (first | apply Kd.R_alloc | apply Kd.R_drewN | apply Kd.R_drew)); exact Kd.R_mono HO728.out (fun _ hk => ⟨hk.2, hk.1.2⟩)⟩, ⟨by (with_reducible repeat (first | apply Kd.R_alloc | apply Kd.R_drewN | apply Kd.R_drew)); exact Kd.R_mono HO737.out (fun _ hk => ⟨hk.1.2, hk.2⟩)⟩, ⟨by (with_reducible repeat (first | apply Kd.R_alloc | apply Kd.R_drewN | apply Kd.R_drew)); exact Kd.R_mono HO733.out (fun _ hk => ⟨hk.1.2, hk.2⟩)⟩, ⟨by (with_reducible repeat (first | refine blk_drewN ?_ _ | refine blk_drew ?_ | refine blk_alloc ?_ _)); exact BK720.out⟩, ⟨by (with_reducible repeat (first | refine blk_drewN ?_ _ | refine blk_drew ?_ | refine blk_alloc ?_ _)); exact BK734.out⟩, ⟨by repeat (first | (with_reducible first | exact HB.out | apply below_alloc | apply pw_below_drewN | apply below_drew1 | refine below_set ?_ GE720.out | refine below_set ?_ GE734.out) | exact HB.out)⟩⟩
        case rest =>
          clear HC14
          try clear c1
          try clear c2
          try clear p2
          try clear c7
          try clear c7b0
          try clear c8
          try clear c10
          try clear c13
          try clear c15
          try clear c22
          try clear c24
          try clear c25
          try clear c28
          try clear c28b0
          try clear c28b1
          try clear c28b2
          try clear hcz15_0
          try clear hcz15_1
          try clear hcz19_0
          try clear hcz19_1
          try clear hcz23_0
          try clear hcz23_1
          try clear hcz5_0
          try clear hcz5_1
          try clear hfz15_0
          try clear hfz15_1
          try clear hfz19_0
          try clear hfz19_1
          try clear hfz23_0
          try clear hfz23_1
          try clear hfz5_0
          try clear hfz5_1
          try clear p2
          obtain ⟨kq, HA, HJ13, HO_4, HO_7, HO_735001, BK720, BK734, HB⟩ := hcut
          cases kq with
          | zero => exact absurd HA.out (by simp [laws_FnExactTraceList.j1])
          | succ kj13 =>
            have H := HA.out
            clear HA
            simp only [laws_FnExactTraceList.j1] at H
            replace H := Option.bind_eq_some_iff.mp H
            obtain ⟨⟨t740, t741⟩, A290, H⟩ := H
            replace H : ((laws_eqOrder.f kj13 t730 t731 t740 t741).bind fun t744 => (if t744 = true then (laws_FnExactTraceList.j2 kj13 t726 t729 t735 t738 a0_0 l0_1 t730 t731) else (none))) = some r := H
            have A29 := Aside0.mk A290
            clear A290
            replace H := Option.bind_eq_some_iff.mp H
            obtain ⟨t744, A300, H⟩ := H
            replace H : (if t744 = true then (laws_FnExactTraceList.j2 kj13 t726 t729 t735 t738 a0_0 l0_1 t730 t731) else (none)) = some r := H
            have A30 := Aside0.mk A300
            clear A300
            have HC31 := Aside0.mk H
            clear H
            try go_wp2
            have n0_ := Aside0.mk (Kd.R_drew HO_4.out)
            have n1_ := Aside0.mk (Kd.R_drew HO_7.out)
            have n2_ := Aside0.mk (Kd.R_drew HO_735001.out)
            have n3_ := Aside0.mk (blk_drew BK720.out)
            have n4_ := Aside0.mk (blk_drew BK734.out)
            have n5_ := Aside0.mk (below_drew1 HB.out)
            clear HO_4
            clear HO_7
            clear HO_735001
            clear BK720
            clear BK734
            clear HB
            have HO_4 := n0_
            have HO_7 := n1_
            have HO_735001 := n2_
            have BK720 := n3_
            have BK734 := n4_
            have HB := n5_
            clear n0_ n1_ n2_ n3_ n4_ n5_
            refine start_ (n := 5) (S := fun w' => w'.cell? ⟨gb734, 0, none⟩ = some (.int .i64 t730) ∧ w'.cell? ⟨gb734, 1, none⟩ = some (.slice Ao24 t731.length co24) ∧ w'.cell? ⟨gb720, 0, none⟩ = some (.int .i64 a0_0) ∧ w'.cell? ⟨gb720, 1, none⟩ = some (.slice A0_1 l0_1.length c0_1)) (ds := []) #[false, false, false, false, false] (by kernel_rfl) rfl rfl ⟨(blk_cell BK734.out 0).trans rfl, (blk_cell BK734.out 1).trans rfl, (blk_cell BK720.out 0).trans rfl, (blk_cell BK720.out 1).trans rfl⟩ (fun hHeld => ?_)
            generalize wc.drew = w32 at HO_4 HO_7 HO_735001 BK720 BK734 HB hHeld ⊢
            refine take_ (i := 0) (N := some 41) (v := ?_) (a' := ?_) #[true, false, false, false, false] rfl rfl (by kernel_rfl) (fun _ _ _ h => h) (Or.inl ⟨by rfl, ?_⟩) hHeld ?_ ?_
            rotate_left
            · rintro w' ⟨s0, s1, s2, s3⟩
              go_simp
              with_reducible rfl
            rotate_left
            · simp only [Act.put, List.setIfInBounds_toArray, List.set_cons_zero, List.set_cons_succ, i64_w, i32_w]
              rfl
            refine take_ (i := 1) (N := some 42) (v := ?_) (a' := ?_) #[true, true, false, false, false] rfl rfl (by kernel_rfl) (fun _ _ _ h => h) (Or.inl ⟨by rfl, ?_⟩) hHeld ?_ ?_
            rotate_left
            · rintro w' ⟨s0, s1, s2, s3⟩
              go_simp
              with_reducible rfl
            rotate_left
            · simp only [Act.put, List.setIfInBounds_toArray, List.set_cons_zero, List.set_cons_succ, i64_w, i32_w]
              rfl
            refine one_ (i := 2) (N := some 43) #[true, true, true, false, false] rfl rfl (by kernel_rfl) (by decide) (fun K hK => ?_)
            refine goes_ Tryd.func10 (by kernel_rfl) rfl #[.agg #[.int .i64 a0_0, .slice A0_1 l0_1.length c0_1]] (by rfl) rfl rfl (by (try simp only [List.map_toArray, List.map_cons, List.map_nil]); first | done | rfl | (simp only [List.length_drop, List.length_take]; rfl)) ?_
            with_reducible refine (laws_toOrder.calls kj13 a0_0 _ _ l0_1 t740 t741 _ ?side1 ?side2 A29.out).mono ?_
            (case side1 => repeat (first | exact (Kd.C_below HR0_1.out HB.out) | (with_reducible refine Kd.C_alloc ?_ _) | (with_reducible refine Kd.C_drewN ?_ _) | (with_reducible refine Kd.C_drew ?_)))
            (case side2 => exact HC0_1.out)
            rintro e w33 ⟨v742, rfl, ho0, hb⟩
            refine ⟨_, rfl, ?_⟩
            have n0_ := Aside0.mk (Kd.R_elder' (by (with_reducible repeat (first | apply Kd.R_alloc | apply Kd.R_drewN | apply Kd.R_drew)); exact HO_4.out) (Kd.R_base ho0) hb)
            have n1_ := Aside0.mk (Kd.R_elder' (by (with_reducible repeat (first | apply Kd.R_alloc | apply Kd.R_drewN | apply Kd.R_drew)); exact HO_7.out) (Kd.R_base ho0) hb)
            have n2_ := Aside0.mk (Kd.R_elder' (by (with_reducible repeat (first | apply Kd.R_alloc | apply Kd.R_drewN | apply Kd.R_drew)); exact HO_735001.out) (Kd.R_base ho0) hb)
            have n3_ := Aside0.mk (Kd.R_lower (Kd.R_new' (Kd.R_new' (Kd.R_new' ho0 (Kd.R_lt (by (with_reducible repeat (first | apply Kd.R_alloc | apply Kd.R_drewN | apply Kd.R_drew)); exact HO_4.out))) (Kd.R_lt (by (with_reducible repeat (first | apply Kd.R_alloc | apply Kd.R_drewN | apply Kd.R_drew)); exact HO_7.out))) (Kd.R_lt (by (with_reducible repeat (first | apply Kd.R_alloc | apply Kd.R_drewN | apply Kd.R_drew)); exact HO_735001.out))) (below_size (by repeat (first | (with_reducible first | exact HB.out | apply below_alloc | apply pw_below_drewN | apply below_drew1 | refine below_set ?_ GE720.out | refine below_set ?_ GE734.out) | exact HB.out))))
            have n4_ := Aside0.mk (blk_below (g := gb720) (o := .cells #[.int .i64 a0_0, .slice A0_1 l0_1.length c0_1] 24 (0, 0)) (by (with_reducible repeat (first | refine blk_drewN ?_ _ | refine blk_drew ?_ | refine blk_alloc ?_ _)); exact BK720.out) hb)
            have n5_ := Aside0.mk (blk_below (g := gb734) (o := .cells #[.int .i64 t730, .slice Ao24 t731.length co24] 28 (0, 0)) (by (with_reducible repeat (first | refine blk_drewN ?_ _ | refine blk_drew ?_ | refine blk_alloc ?_ _)); exact BK734.out) hb)
            have n6_ := Aside0.mk (below_step (by repeat (first | (with_reducible first | exact HB.out | apply below_alloc | apply pw_below_drewN | apply below_drew1 | refine below_set ?_ GE720.out | refine below_set ?_ GE734.out) | exact HB.out)) hb)
            clear HO_4
            clear HO_7
            clear HO_735001
            clear BK720
            clear BK734
            clear HB
            have HO_4 := n0_
            have HO_7 := n1_
            have HO_735001 := n2_
            have HO743 := n3_
            have BK720 := n4_
            have BK734 := n5_
            have HB := n6_
            clear n0_ n1_ n2_ n3_ n4_ n5_ n6_
            (try clear hb)
            (try clear hb2)
            (try clear hk)
            (try clear hi)
            (try clear ho0)
            obtain ⟨Ao34, co34, eo34⟩ := Kd.R_slice HO743.out
            (first | subst eo34 | (injection eo34 with f1_ f2_ f3_; have f4_ := f1_.symm; have f5_ := f3_.symm; clear f1_ f2_ f3_; subst f4_; subst f5_))
            refine hK.out _ _ ⟨(blk_cell BK734.out 0).trans rfl, (blk_cell BK734.out 1).trans rfl, (blk_cell BK720.out 0).trans rfl, (blk_cell BK720.out 1).trans rfl⟩ (fun hHeld => ?_)
            clear hK K
            refine norm_ (a' := ?_) ?_ ?_
            rotate_left
            · show Act.put _ (some 43) _ = _
              simp only [Act.put, List.setIfInBounds_toArray, List.set_cons_zero, List.set_cons_succ, i64_w, i32_w]
              rfl
            refine one_ (i := 3) (N := some 44) #[true, true, true, true, false] rfl rfl (by kernel_rfl) (by decide) (fun K hK => ?_)
            refine goes_ Tryd.func12 (by kernel_rfl) rfl #[.agg #[.int .i64 t730, .slice Ao24 t731.length co24], .agg #[.int .i64 t740, .slice Ao34 t741.length co34]] (by rfl) rfl rfl (by (try simp only [List.map_toArray, List.map_cons, List.map_nil]); first | done | rfl | (simp only [List.length_drop, List.length_take]; rfl)) ?_
            with_reducible refine (laws_eqOrder.calls kj13 t730 _ _ t731 t740 _ _ t741 t744 _ ?side1 ?side2 ?side3 ?side4 A30.out).mono ?_
            (case side1 => repeat (first | exact (Kd.R_reads' HO_735001.out).2.2 | (with_reducible refine Kd.C_alloc ?_ _) | (with_reducible refine Kd.C_drewN ?_ _) | (with_reducible refine Kd.C_drew ?_)))
            (case side2 => exact (Kd.R_reads' HO_735001.out).2.1)
            (case side3 => repeat (first | exact (Kd.R_reads' HO743.out).2.2 | (with_reducible refine Kd.C_alloc ?_ _) | (with_reducible refine Kd.C_drewN ?_ _) | (with_reducible refine Kd.C_drew ?_)))
            (case side4 => exact (Kd.R_reads' HO743.out).2.1)
            rintro e w35 ⟨rfl, hb⟩
            refine ⟨_, rfl, ?_⟩
            have n0_ := Aside0.mk (Kd.R_below (by (with_reducible repeat (first | apply Kd.R_alloc | apply Kd.R_drewN | apply Kd.R_drew)); exact HO_4.out) hb)
            have n1_ := Aside0.mk (Kd.R_below (by (with_reducible repeat (first | apply Kd.R_alloc | apply Kd.R_drewN | apply Kd.R_drew)); exact HO_7.out) hb)
            have n2_ := Aside0.mk (Kd.R_below (by (with_reducible repeat (first | apply Kd.R_alloc | apply Kd.R_drewN | apply Kd.R_drew)); exact HO_735001.out) hb)
            have n3_ := Aside0.mk (Kd.R_below (by (with_reducible repeat (first | apply Kd.R_alloc | apply Kd.R_drewN | apply Kd.R_drew)); exact HO743.out) hb)
            have n4_ := Aside0.mk (blk_below (g := gb720) (o := .cells #[.int .i64 a0_0, .slice A0_1 l0_1.length c0_1] 24 (0, 0)) (by (with_reducible repeat (first | refine blk_drewN ?_ _ | refine blk_drew ?_ | refine blk_alloc ?_ _)); exact BK720.out) hb)
            have n5_ := Aside0.mk (blk_below (g := gb734) (o := .cells #[.int .i64 t730, .slice Ao24 t731.length co24] 28 (0, 0)) (by (with_reducible repeat (first | refine blk_drewN ?_ _ | refine blk_drew ?_ | refine blk_alloc ?_ _)); exact BK734.out) hb)
            have n6_ := Aside0.mk (below_step (by repeat (first | (with_reducible first | exact HB.out | apply below_alloc | apply pw_below_drewN | apply below_drew1 | refine below_set ?_ GE720.out | refine below_set ?_ GE734.out) | exact HB.out)) hb)
            clear HO_4
            clear HO_7
            clear HO_735001
            clear HO743
            clear BK720
            clear BK734
            clear HB
            have HO_4 := n0_
            have HO_7 := n1_
            have HO_735001 := n2_
            have HO743 := n3_
            have BK720 := n4_
            have BK734 := n5_
            have HB := n6_
            clear n0_ n1_ n2_ n3_ n4_ n5_ n6_
            (try clear hb)
            (try clear hb2)
            (try clear hk)
            (try clear hi)
            refine hK.out _ _ ⟨(blk_cell BK734.out 0).trans rfl, (blk_cell BK734.out 1).trans rfl, (blk_cell BK720.out 0).trans rfl, (blk_cell BK720.out 1).trans rfl⟩ (fun hHeld => ?_)
            clear hK K
            refine norm_ (a' := ?_) ?_ ?_
            rotate_left
            · show Act.put _ (some 44) _ = _
              simp only [Act.put, List.setIfInBounds_toArray, List.set_cons_zero, List.set_cons_succ, i64_w, i32_w]
              rfl
            refine pure_ (i := 4) (N := some 45) (v := ?_) (a' := ?_) #[true, true, true, true, true] rfl rfl (by kernel_rfl) (fun _ _ _ h => h) (Or.inl ⟨by rfl, ?_⟩) ?_ ?_
            rotate_left
            · intro w'
              go_simp
              with_reducible rfl
            rotate_left
            · simp only [Act.put, List.setIfInBounds_toArray, List.set_cons_zero, List.set_cons_succ, i64_w, i32_w]
              rfl
            refine done_ (by kernel_rfl) ?_
            go_upto_if 45 with (fail)
            go_cut [] (fun wc => ∃ (kq : Nat), Aside0 (laws_FnExactTraceList.j2 kq t726 t729 t735 t738 a0_0 l0_1 t730 t731 = some r) ∧ Aside0 (kq ≤ kj13) ∧ Aside0 (Kd.R (Kd.int .i64) 3 wc w.heap.size (fun k_ => some k_ ≠ ((.slice Ao26 t735.length co26) : Value).ownBlock ∧ some k_ ≠ ((.slice Ao24 t731.length co24) : Value).ownBlock) (.slice Ao27 t726.length co27) t726) ∧ Aside0 (Kd.R (Kd.int .i64) 3 wc w.heap.size (fun k_ => some k_ ≠ ((.slice Ao27 t726.length co27) : Value).ownBlock ∧ some k_ ≠ ((.slice Ao24 t731.length co24) : Value).ownBlock) (.slice Ao26 t735.length co26) t735) ∧ Aside0 (Kd.R (Kd.int .i64) 3 wc w.heap.size (fun k_ => some k_ ≠ ((.slice Ao27 t726.length co27) : Value).ownBlock ∧ some k_ ≠ ((.slice Ao26 t735.length co26) : Value).ownBlock) (.slice Ao24 t731.length co24) t731) ∧ Aside0 (wc.heap[gb720]? = some (.cells #[.int .i64 a0_0, (.slice A0_1 l0_1.length c0_1)] 24 (0, 0))) ∧ Aside0 (wc.heap[gb734]? = some (.cells #[.int .i64 t730, (.slice Ao24 t731.length co24)] 28 (0, 0))) ∧ Aside0 (Below w.heap.size w wc))
            case first =>
              have H := HC31.out
              clear HC31
              by_cases c36 : t744 = true
              · subst c36
                have H1 : (laws_FnExactTraceList.j2 kj13 t726 t729 t735 t738 a0_0 l0_1 t730 t731) = some r := by rw [if_pos rfl] at H; exact H
                clear H
                have H := H1
                clear H1
                have H' := Aside0.mk H
                clear H
                go_wp2
                go_meet
                case rel => exact ⟨_, H', ⟨by have := HJ2.out; have := HJ13.out; first | omega | exact Nat.le_refl _⟩, ⟨by (with_reducible repeat (first | apply Kd.R_alloc | apply Kd.R_drewN | apply Kd.R_drew)); exact Kd.R_mono HO_4.out (fun _ hk => ⟨hk.1.1, hk.1.2⟩)⟩, ⟨by (with_reducible repeat (first | apply Kd.R_alloc | apply Kd.R_drewN | apply Kd.R_drew)); exact Kd.R_mono HO_7.out (fun _ hk => ⟨hk.1.1, hk.1.2⟩)⟩, ⟨by (with_reducible repeat (first | apply Kd.R_alloc | apply Kd.R_drewN | apply Kd.R_drew)); exact Kd.R_mono HO_735001.out (fun _ hk => ⟨hk.1.1, hk.1.2⟩)⟩, ⟨by (with_reducible repeat (first | refine blk_drewN ?_ _ | refine blk_drew ?_ | refine blk_alloc ?_ _)); exact BK720.out⟩, ⟨by (with_reducible repeat (first | refine blk_drewN ?_ _ | refine blk_drew ?_ | refine blk_alloc ?_ _)); exact BK734.out⟩, ⟨by repeat (first | (with_reducible first | exact HB.out | apply below_alloc | apply pw_below_drewN | apply below_drew1 | refine below_set ?_ GE720.out | refine below_set ?_ GE734.out) | exact HB.out)⟩⟩
              · replace c36 := Bool.eq_false_iff.mpr c36
                subst c36
                have H1 : (none) = some r := by rw [if_neg (show ¬ (false = true) by decide)] at H; exact H
                clear H
                have H := H1
                clear H1
                exact absurd H (by simp)
            case rest =>
              clear HC31
              try clear c1
              try clear c2
              try clear p2
              try clear c3
              try clear c7
              try clear c7b0
              try clear c8
              try clear c10
              try clear c12
              try clear c13
              try clear c15
              try clear c22
              try clear c24
              try clear c25
              try clear c28
              try clear c28b0
              try clear c28b1
              try clear c28b2
              try clear c36
              try clear hcz15_0
              try clear hcz15_1
              try clear hcz19_0
              try clear hcz19_1
              try clear hcz23_0
              try clear hcz23_1
              try clear hcz5_0
              try clear hcz5_1
              try clear hfz15_0
              try clear hfz15_1
              try clear hfz19_0
              try clear hfz19_1
              try clear hfz23_0
              try clear hfz23_1
              try clear hfz5_0
              try clear hfz5_1
              try clear p2
              obtain ⟨kq, HA, HJ30, HO_4, HO_7, HO_735001, BK720, BK734, HB⟩ := hcut
              cases kq with
              | zero => exact absurd HA.out (by simp [laws_FnExactTraceList.j2])
              | succ kj30 =>
                have H := HA.out
                clear HA
                simp only [laws_FnExactTraceList.j2] at H
                replace H := Option.bind_eq_some_iff.mp H
                obtain ⟨⟨t745, t746⟩, A370, H⟩ := H
                replace H : (if t745 < 0 then (none) else ((laws_eqIntS.f kj30 t735 t726).bind fun t747 => (if t747 = true then (if (t738 != t729) = true then (none) else (laws_FnExactTraceList.j3 kj30 t726 t729 t735 a0_0 l0_1)) else (none)))) = some r := H
                have A37 := Aside0.mk A370
                clear A370
                by_cases c38 : t745 < 0
                · rw [if_pos c38] at H
                  exact absurd H (by simp)
                · rw [if_neg c38] at H
                  have c38b0 : decide (t745 < 0) = false := decide_eq_false c38
                  clear c38
                  replace H := Option.bind_eq_some_iff.mp H
                  obtain ⟨t747, A390, H⟩ := H
                  replace H : (if t747 = true then (if (t738 != t729) = true then (none) else (laws_FnExactTraceList.j3 kj30 t726 t729 t735 a0_0 l0_1)) else (none)) = some r := H
                  have A39 := Aside0.mk A390
                  clear A390
                  by_cases c40 : t747 = true
                  · subst c40
                    have H1 : (if (t738 != t729) = true then (none) else (laws_FnExactTraceList.j3 kj30 t726 t729 t735 a0_0 l0_1)) = some r := by rw [if_pos rfl] at H; exact H
                    clear H
                    have H := H1
                    clear H1
                    have HC41 := Aside0.mk H
                    clear H
                    have hnb42 := NB734_720.out
                    have hnc42 := NB720_734.out
                    have hcz43_0 : wc.cell? ⟨gb734, 0, none⟩ = some (.int .i64 t730) := (blk_cell BK734.out 0).trans rfl
                    have hcz43_1 : wc.cell? ⟨gb734, 1, none⟩ = some (.slice Ao24 t731.length co24) := (blk_cell BK734.out 1).trans rfl
                    have hfz43_0 := blk_frozen BK734.out 0
                    have hfz43_1 := blk_frozen BK734.out 1
                    go_upto_if 61 with (first | ((with_reducible refine gate_callee (f := 16) rfl ?_); refine goesL_ (some 48) rfl rfl Tryd.func16 (by kernel_rfl) rfl #[.agg #[.int .i64 t730, .slice Ao24 t731.length co24], .int .i64 1] rfl (by (try simp only [List.map_toArray, List.map_cons, List.map_nil]); first | done | rfl | (simp only [List.length_drop, List.length_take]; rfl)) ?_; (with_reducible refine (laws_markOrder.calls kj30 t730 (fun k_ => some k_ = (.slice Ao24 t731.length co24 : Value).ownBlock) (.slice Ao24 t731.length co24) t731 1 t745 t746 w _ ?side1 ?side2 A37.out).mono ?_); (case side1 => repeat (first | (with_reducible first | exact HB.out | apply below_alloc | apply pw_below_drewN | apply below_drew1 | refine below_set ?_ GE720.out | refine below_set ?_ GE734.out) | exact HB.out)); (case side2 => exact Kd.R_tight rfl HO_735001.out); rintro e w44 ⟨rfl, hy0, hb, hkp⟩; refine ⟨_, rfl, ?_⟩; have n0_ := Aside0.mk (Kd.R_mono (ok' := fun k_ => some k_ ≠ (.slice Ao26 t735.length co26 : Value).ownBlock ∧ some k_ ≠ (.slice Ao24 t731.length co24 : Value).ownBlock) (Kd.R_keptB (HO_4.out) hkp (fun k_ hk_ hs_ => (hk_.2) hs_)) (fun k_ hk_ => ⟨hk_.1.1, hk_.1.2⟩)); have n1_ := Aside0.mk (Kd.R_mono (ok' := fun k_ => some k_ ≠ (.slice Ao27 t726.length co27 : Value).ownBlock ∧ some k_ ≠ (.slice Ao24 t731.length co24 : Value).ownBlock) (Kd.R_keptB (HO_7.out) hkp (fun k_ hk_ hs_ => (hk_.2) hs_)) (fun k_ hk_ => ⟨hk_.1.1, hk_.1.2⟩)); have n2_ := Aside0.mk (Kd.R_reok rfl hy0 (fun k_ e_ => HO_735001.out.1 k_ e_)); have n3_ := Aside0.mk (blk_kept (by (with_reducible repeat (first | refine blk_drewN ?_ _ | refine blk_drew ?_ | refine blk_alloc ?_ _)); exact BK720.out) hkp (fun hs_ => (fun e_ => (Kd.R_ne HO_735001.out BK720.out (by decide)) e_) hs_)); have n4_ := Aside0.mk (blk_kept (by (with_reducible repeat (first | refine blk_drewN ?_ _ | refine blk_drew ?_ | refine blk_alloc ?_ _)); exact BK734.out) hkp (fun hs_ => (fun e_ => (Kd.R_ne HO_735001.out BK734.out (by decide)) e_) hs_)); have n5_ := Aside0.mk (hb); clear HO_4; clear HO_7; clear HO_735001; clear BK720; clear BK734; clear HB; have HO_4 := n0_; have HO_7 := n1_; have HO_735001 := n2_; have BK720 := n3_; have BK734 := n4_; have HB := n5_; clear n0_ n1_ n2_ n3_ n4_ n5_; (try clear hb); (try clear hkp); (try clear hy0)) | (go_at_call 15; (with_reducible refine (laws_eqIntS.calls kj30 _ _ t735 _ _ t726 true _ ?side1 ?side2 ?side3 ?side4 A39.out).mono ?_); (case side1 => repeat (first | exact (Kd.R_reads' HO_7.out).2.2 | (with_reducible refine Kd.C_alloc ?_ _) | (with_reducible refine Kd.C_drewN ?_ _) | (with_reducible refine Kd.C_drew ?_))); (case side2 => exact (Kd.R_reads' HO_7.out).2.1); (case side3 => repeat (first | exact (Kd.R_reads' HO_4.out).2.2 | (with_reducible refine Kd.C_alloc ?_ _) | (with_reducible refine Kd.C_drewN ?_ _) | (with_reducible refine Kd.C_drew ?_))); (case side4 => exact (Kd.R_reads' HO_4.out).2.1); rintro e w' ⟨rfl, ⟨nd, rfl⟩⟩))
                    (try simp only [Act.put, List.setIfInBounds_toArray, List.set_cons_zero, List.set_cons_succ])
                    go_cut [] (fun wc => ∃ (kq : Nat), Aside0 (laws_FnExactTraceList.j3 kq t726 t729 t735 a0_0 l0_1 = some r) ∧ Aside0 (kq ≤ kj30) ∧ Aside0 (Kd.R (Kd.int .i64) 3 wc w.heap.size (fun k_ => some k_ ≠ ((.slice Ao26 t735.length co26) : Value).ownBlock) (.slice Ao27 t726.length co27) t726) ∧ Aside0 (Kd.R (Kd.int .i64) 3 wc w.heap.size (fun k_ => some k_ ≠ ((.slice Ao27 t726.length co27) : Value).ownBlock) (.slice Ao26 t735.length co26) t735) ∧ Aside0 (wc.heap[gb720]? = some (.cells #[.int .i64 a0_0, (.slice A0_1 l0_1.length c0_1)] 24 (0, 0))) ∧ Aside0 (Below w.heap.size w wc))
                    case first =>
                      have H := HC41.out
                      clear HC41
                      by_cases c45 : (t738 != t729) = true
                      · rw [if_pos c45] at H
                        exact absurd H (by simp)
                      · rw [if_neg c45] at H
                        have c45b0 : (t738 != t729) = false := by simpa using c45
                        (try (have c45b1 : decide (t738 = t729) = true := by simpa using c45))
                        (try (have c45b2 : (t738 == t729) = true := by simpa using c45))
                        clear c45
                        (first | rw [c45b0] | rw [c45b2, Bool.not_true] | rw [c45b2, Bool.not_false] | (simp only [i64_w, i32_w]; rw [c45b0]) | skip)
                        have H' := Aside0.mk H
                        clear H
                        go_wp2
                        go_meet
                        case rel => exact ⟨_, H', ⟨by have := HJ2.out; have := HJ13.out; have := HJ30.out; first | omega | exact Nat.le_refl _⟩, ⟨by (with_reducible repeat (first | apply Kd.R_alloc | apply Kd.R_drewN | apply Kd.R_drew)); exact Kd.R_mono HO_4.out (fun _ hk => hk.1)⟩, ⟨by (with_reducible repeat (first | apply Kd.R_alloc | apply Kd.R_drewN | apply Kd.R_drew)); exact Kd.R_mono HO_7.out (fun _ hk => hk.1)⟩, ⟨by (with_reducible repeat (first | refine blk_drewN ?_ _ | refine blk_drew ?_ | refine blk_alloc ?_ _)); exact BK720.out⟩, ⟨by repeat (first | (with_reducible first | exact HB.out | apply below_alloc | apply pw_below_drewN | apply below_drew1 | refine below_set ?_ GE720.out | refine below_set ?_ GE734.out) | exact HB.out)⟩⟩
                    case rest =>
                      clear HC41
                      try clear c1
                      try clear c2
                      try clear p2
                      try clear c3
                      try clear c4
                      try clear c7
                      try clear c7b0
                      try clear c8
                      try clear c10
                      try clear c12
                      try clear c13
                      try clear c15
                      try clear c16
                      try clear c22
                      try clear c24
                      try clear c25
                      try clear c28
                      try clear c28b0
                      try clear c28b1
                      try clear c28b2
                      try clear c36
                      try clear c38
                      try clear c38b0
                      try clear c40
                      try clear c42
                      try clear c45
                      try clear c45b0
                      try clear c45b1
                      try clear c45b2
                      try clear hcz15_0
                      try clear hcz15_1
                      try clear hcz19_0
                      try clear hcz19_1
                      try clear hcz23_0
                      try clear hcz23_1
                      try clear hcz43_0
                      try clear hcz43_1
                      try clear hcz5_0
                      try clear hcz5_1
                      try clear hfz15_0
                      try clear hfz15_1
                      try clear hfz19_0
                      try clear hfz19_1
                      try clear hfz23_0
                      try clear hfz23_1
                      try clear hfz43_0
                      try clear hfz43_1
                      try clear hfz5_0
                      try clear hfz5_1
                      try clear p2
                      obtain ⟨kq, HA, HJ40, HO_4, HO_7, BK720, HB⟩ := hcut
                      cases kq with
                      | zero => exact absurd HA.out (by simp [laws_FnExactTraceList.j3])
                      | succ kj40 =>
                        have H := HA.out
                        clear HA
                        simp only [laws_FnExactTraceList.j3] at H
                        replace H := Option.bind_eq_some_iff.mp H
                        obtain ⟨⟨t748, t749⟩, A460, H⟩ := H
                        replace H : ((laws_heldIntS.f kj40 t749 1).bind fun t750 => (if t750 < 0 then (none) else (laws_FnExactTraceList.j4 kj40 t726 t729 t749 t748 t750 a0_0 l0_1))) = some r := H
                        have A46 := Aside0.mk A460
                        clear A460
                        replace H := Option.bind_eq_some_iff.mp H
                        obtain ⟨t750, A470, H⟩ := H
                        replace H : (if t750 < 0 then (none) else (laws_FnExactTraceList.j4 kj40 t726 t729 t749 t748 t750 a0_0 l0_1)) = some r := H
                        have A47 := Aside0.mk A470
                        clear A470
                        have HC48 := Aside0.mk H
                        clear H
                        go_upto_if 69 with (first | ((with_reducible refine gate_callee (f := 17) rfl ?_); refine goesL_ (some 64) rfl rfl Tryd.func17 (by kernel_rfl) rfl #[.slice Ao26 t735.length co26, .int .i64 1] rfl (by (try simp only [List.map_toArray, List.map_cons, List.map_nil]); first | done | rfl | (simp only [List.length_drop, List.length_take]; rfl)) ?_; (with_reducible refine (laws_markIntS.calls kj40 (fun k_ => some k_ = (.slice Ao26 t735.length co26 : Value).ownBlock) (.slice Ao26 t735.length co26) t735 1 t748 t749 w _ ?side1 ?side2 A46.out).mono ?_); (case side1 => repeat (first | (with_reducible first | exact HB.out | apply below_alloc | apply pw_below_drewN | apply below_drew1 | refine below_set ?_ GE720.out) | exact HB.out)); (case side2 => exact Kd.R_tight rfl HO_7.out); rintro e w49 ⟨rfl, hy0, hb, hkp⟩; refine ⟨_, rfl, ?_⟩; have n0_ := Aside0.mk (Kd.R_mono (ok' := fun k_ => some k_ ≠ (.slice Ao26 t735.length co26 : Value).ownBlock) (Kd.R_keptB (HO_4.out) hkp (fun k_ hk_ hs_ => (hk_) hs_)) (fun k_ hk_ => hk_.1)); have n1_ := Aside0.mk (Kd.R_reok rfl hy0 (fun k_ e_ => HO_7.out.1 k_ e_)); have n2_ := Aside0.mk (blk_kept (by (with_reducible repeat (first | refine blk_drewN ?_ _ | refine blk_drew ?_ | refine blk_alloc ?_ _)); exact BK720.out) hkp (fun hs_ => (fun e_ => (Kd.R_ne HO_7.out BK720.out (by decide)) e_) hs_)); have n3_ := Aside0.mk (hb); clear HO_4; clear HO_7; clear BK720; clear HB; have HO_4 := n0_; have HO_7 := n1_; have BK720 := n2_; have HB := n3_; clear n0_ n1_ n2_ n3_; (try clear hb); (try clear hkp); (try clear hy0)) | ((with_reducible refine gate_callee (f := 18) rfl ?_); refine goesL_ (some 67) rfl rfl Tryd.func18 (by kernel_rfl) rfl #[.slice Ao26 t749.length co26, .int .i64 1] rfl (by (try simp only [List.map_toArray, List.map_cons, List.map_nil]); first | done | (rw [show t749.length = t735.length from (Kd.R_reads' HO_7.out).1.symm] <;> rfl) | rfl | (simp only [List.length_drop, List.length_take]; rfl)) ?_; (with_reducible refine (laws_heldIntS.calls kj40 _ _ t749 1 t750 _ ?side1 ?side2 A47.out).mono ?_); (case side1 => repeat (first | exact (Kd.R_reads' HO_7.out).2.2 | (with_reducible refine Kd.C_alloc ?_ _) | (with_reducible refine Kd.C_drewN ?_ _) | (with_reducible refine Kd.C_drew ?_))); (case side2 => rw [show t749.length = t735.length from (Kd.R_reads' HO_7.out).1.symm]; exact (Kd.R_reads' HO_7.out).2.1); rintro e w' ⟨rfl, ⟨nd, rfl⟩⟩; refine ⟨_, rfl, ?_⟩))
                        (try simp only [Act.put, List.setIfInBounds_toArray, List.set_cons_zero, List.set_cons_succ])
                        go_cut [] (fun wc => ∃ (kq : Nat), Aside0 (laws_FnExactTraceList.j4 kq t726 t729 t749 t748 t750 a0_0 l0_1 = some r) ∧ Aside0 (kq ≤ kj40) ∧ Aside0 (Kd.R (Kd.int .i64) 3 wc w.heap.size (fun k_ => some k_ ≠ ((.slice Ao26 t735.length co26) : Value).ownBlock) (.slice Ao27 t726.length co27) t726) ∧ Aside0 (Kd.R (Kd.int .i64) 3 wc w.heap.size (fun k_ => some k_ ≠ ((.slice Ao27 t726.length co27) : Value).ownBlock) (.slice Ao26 t735.length co26) t749) ∧ Aside0 (wc.heap[gb720]? = some (.cells #[.int .i64 a0_0, (.slice A0_1 l0_1.length c0_1)] 24 (0, 0))) ∧ Aside0 (Below w.heap.size w wc))
                        case first =>
                          have H := HC48.out
                          clear HC48
                          by_cases c50 : t750 < 0
                          · rw [if_pos c50] at H
                            exact absurd H (by simp)
                          · rw [if_neg c50] at H
                            have c50b0 : decide (t750 < 0) = false := decide_eq_false c50
                            clear c50
                            (first | rw [c50b0] | (simp only [i64_w, i32_w]; rw [c50b0]) | skip)
                            have H' := Aside0.mk H
                            clear H
                            go_wp2
                            go_meet
                            case rel => exact ⟨_, H', ⟨by have := HJ2.out; have := HJ13.out; have := HJ30.out; have := HJ40.out; first | omega | exact Nat.le_refl _⟩, ⟨by (with_reducible repeat (first | apply Kd.R_alloc | apply Kd.R_drewN | apply Kd.R_drew)); exact HO_4.out⟩, ⟨by (with_reducible repeat (first | apply Kd.R_alloc | apply Kd.R_drewN | apply Kd.R_drew)); exact HO_7.out⟩, ⟨by (with_reducible repeat (first | refine blk_drewN ?_ _ | refine blk_drew ?_ | refine blk_alloc ?_ _)); exact BK720.out⟩, ⟨by repeat (first | (with_reducible first | exact HB.out | apply below_alloc | apply pw_below_drewN | apply below_drew1 | refine below_set ?_ GE720.out) | exact HB.out)⟩⟩
                        case rest =>
                          clear HC48
                          try clear c1
                          try clear c2
                          try clear p2
                          try clear c3
                          try clear c4
                          try clear c5
                          try clear c7
                          try clear c7b0
                          try clear c8
                          try clear c10
                          try clear c12
                          try clear c13
                          try clear c15
                          try clear c16
                          try clear c17
                          try clear c18
                          try clear c22
                          try clear c24
                          try clear c25
                          try clear c28
                          try clear c28b0
                          try clear c28b1
                          try clear c28b2
                          try clear c36
                          try clear c38
                          try clear c38b0
                          try clear c40
                          try clear c42
                          try clear c45
                          try clear c45b0
                          try clear c45b1
                          try clear c45b2
                          try clear c50
                          try clear c50b0
                          try clear hcz15_0
                          try clear hcz15_1
                          try clear hcz19_0
                          try clear hcz19_1
                          try clear hcz23_0
                          try clear hcz23_1
                          try clear hcz43_0
                          try clear hcz43_1
                          try clear hcz5_0
                          try clear hcz5_1
                          try clear hfz15_0
                          try clear hfz15_1
                          try clear hfz19_0
                          try clear hfz19_1
                          try clear hfz23_0
                          try clear hfz23_1
                          try clear hfz43_0
                          try clear hfz43_1
                          try clear hfz5_0
                          try clear hfz5_1
                          try clear p2
                          obtain ⟨kq, HA, HJ47, HO_4, HO_7, BK720, HB⟩ := hcut
                          have hl7_47 := (Kd.R_reads' HO_7.out).1
                          rw [hl7_47] at HO_7
                          (try simp only [hl7_47])
                          (try simp only [hl7_47] at BK720)
                          (try simp only [hl7_47] at HO_4)
                          cases kq with
                          | zero => exact absurd HA.out (by simp [laws_FnExactTraceList.j4])
                          | succ kj47 =>
                            have H := HA.out
                            clear HA
                            simp only [laws_FnExactTraceList.j4] at H
                            have HC51 := Aside0.mk H
                            clear H
                            go_upto_if 72 with (fail)
                            go_cut [] (fun wc => ∃ (kq : Nat), Aside0 (laws_FnExactTraceList.j5 kq t726 t729 t749 t748 a0_0 l0_1 = some r) ∧ Aside0 (kq ≤ kj47) ∧ Aside0 (Kd.R (Kd.int .i64) 3 wc w.heap.size (fun k_ => some k_ ≠ ((.slice Ao26 t749.length co26) : Value).ownBlock) (.slice Ao27 t726.length co27) t726) ∧ Aside0 (Kd.R (Kd.int .i64) 3 wc w.heap.size (fun k_ => some k_ ≠ ((.slice Ao27 t726.length co27) : Value).ownBlock) (.slice Ao26 t749.length co26) t749) ∧ Aside0 (wc.heap[gb720]? = some (.cells #[.int .i64 a0_0, (.slice A0_1 l0_1.length c0_1)] 24 (0, 0))) ∧ Aside0 (Below w.heap.size w wc))
                            case first =>
                              have H := HC51.out
                              clear HC51
                              by_cases c52 : t750 = t748
                              · rw [if_pos c52] at H
                                have c52b0 : (t750 == t748) = true := beq_iff_eq.mpr c52
                                have c52b1 : (t750 != t748) = false := bne_eq_false_iff_eq.mpr c52
                                clear c52
                                (first | rw [c52b0] | rw [c52b1] | (simp only [i64_w, i32_w]; rw [c52b0]) | skip)
                                have H' := Aside0.mk H
                                clear H
                                go_wp2
                                go_meet
                                case rel => exact ⟨_, H', ⟨by have := HJ2.out; have := HJ13.out; have := HJ30.out; have := HJ40.out; have := HJ47.out; first | omega | exact Nat.le_refl _⟩, ⟨by (try simp only [hl7_47]); (with_reducible repeat (first | apply Kd.R_alloc | apply Kd.R_drewN | apply Kd.R_drew)); exact HO_4.out⟩, ⟨by (try simp only [hl7_47]); (with_reducible repeat (first | apply Kd.R_alloc | apply Kd.R_drewN | apply Kd.R_drew)); exact HO_7.out⟩, ⟨by (try simp only [hl7_47]); (with_reducible repeat (first | refine blk_drewN ?_ _ | refine blk_drew ?_ | refine blk_alloc ?_ _)); exact BK720.out⟩, ⟨by repeat (first | (with_reducible first | exact HB.out | apply below_alloc | apply pw_below_drewN | apply below_drew1 | refine below_set ?_ GE720.out) | exact HB.out)⟩⟩
                              · rw [if_neg c52] at H
                                exact absurd H (by simp)
                            case rest =>
                              clear HC51
                              try clear c1
                              try clear c2
                              try clear p2
                              try clear c3
                              try clear c4
                              try clear c5
                              try clear c7
                              try clear c7b0
                              try clear c8
                              try clear c10
                              try clear c12
                              try clear c13
                              try clear c15
                              try clear c16
                              try clear c17
                              try clear c18
                              try clear c22
                              try clear c24
                              try clear c25
                              try clear c28
                              try clear c28b0
                              try clear c28b1
                              try clear c28b2
                              try clear c36
                              try clear c38
                              try clear c38b0
                              try clear c40
                              try clear c42
                              try clear c45
                              try clear c45b0
                              try clear c45b1
                              try clear c45b2
                              try clear c50
                              try clear c50b0
                              try clear c52
                              try clear c52b0
                              try clear c52b1
                              try clear hcz15_0
                              try clear hcz15_1
                              try clear hcz19_0
                              try clear hcz19_1
                              try clear hcz23_0
                              try clear hcz23_1
                              try clear hcz43_0
                              try clear hcz43_1
                              try clear hcz5_0
                              try clear hcz5_1
                              try clear hfz15_0
                              try clear hfz15_1
                              try clear hfz19_0
                              try clear hfz19_1
                              try clear hfz23_0
                              try clear hfz23_1
                              try clear hfz43_0
                              try clear hfz43_1
                              try clear hfz5_0
                              try clear hfz5_1
                              try clear p2
                              obtain ⟨kq, HA, HJ50, HO_4, HO_7, BK720, HB⟩ := hcut
                              cases kq with
                              | zero => exact absurd HA.out (by simp [laws_FnExactTraceList.j5])
                              | succ kj50 =>
                                have H := HA.out
                                clear HA
                                simp only [laws_FnExactTraceList.j5] at H
                                replace H := Option.bind_eq_some_iff.mp H
                                obtain ⟨⟨t751, t752⟩, A530, H⟩ := H
                                replace H : ((impl_TraceList.f kj50 t751 t752).bind fun bt755 => ((laws_eqIntS.f kj50 bt755.1 t726).bind fun t759 => (if t759 = true then (if (bt755.2 != t729) = true then (none) else (laws_FnExactTraceList.j6 kj50 t749 t748)) else (none)))) = some r := H
                                have A53 := Aside0.mk A530
                                clear A530
                                replace H := Option.bind_eq_some_iff.mp H
                                obtain ⟨⟨t755, t758⟩, A540, H⟩ := H
                                replace H : ((laws_eqIntS.f kj50 t755 t726).bind fun t759 => (if t759 = true then (if (t758 != t729) = true then (none) else (laws_FnExactTraceList.j6 kj50 t749 t748)) else (none))) = some r := H
                                have A54 := Aside0.mk A540
                                clear A540
                                replace H := Option.bind_eq_some_iff.mp H
                                obtain ⟨t759, A550, H⟩ := H
                                replace H : (if t759 = true then (if (t758 != t729) = true then (none) else (laws_FnExactTraceList.j6 kj50 t749 t748)) else (none)) = some r := H
                                have A55 := Aside0.mk A550
                                clear A550
                                by_cases c56 : t759 = true
                                · subst c56
                                  have H1 : (if (t758 != t729) = true then (none) else (laws_FnExactTraceList.j6 kj50 t749 t748)) = some r := by rw [if_pos rfl] at H; exact H
                                  clear H
                                  have H := H1
                                  clear H1
                                  have HC57 := Aside0.mk H
                                  clear H
                                  have hcz58_0 : wc.cell? ⟨gb720, 0, none⟩ = some (.int .i64 a0_0) := (blk_cell BK720.out 0).trans rfl
                                  have hcz58_1 : wc.cell? ⟨gb720, 1, none⟩ = some (.slice A0_1 l0_1.length c0_1) := (blk_cell BK720.out 1).trans rfl
                                  have hfz58_0 := blk_frozen BK720.out 0
                                  have hfz58_1 := blk_frozen BK720.out 1
                                  go_upto_if 87 with (first | ((with_reducible refine gate_callee (f := 10) rfl ?_); refine goesL_ (some 75) rfl rfl Tryd.func10 (by kernel_rfl) rfl #[.agg #[.int .i64 a0_0, .slice A0_1 l0_1.length c0_1]] rfl (by (try simp only [List.map_toArray, List.map_cons, List.map_nil]); first | done | rfl | (simp only [List.length_drop, List.length_take]; rfl)) ?_; (with_reducible refine (laws_toOrder.calls kj50 a0_0 _ _ l0_1 t751 t752 _ ?side1 ?side2 A53.out).mono ?_); (case side1 => repeat (first | exact (Kd.C_below HR0_1.out HB.out) | (with_reducible refine Kd.C_alloc ?_ _) | (with_reducible refine Kd.C_drewN ?_ _) | (with_reducible refine Kd.C_drew ?_))); (case side2 => exact HC0_1.out); rintro e w59 ⟨v753, rfl, ho0, hb⟩; refine ⟨_, rfl, ?_⟩; have n0_ := Aside0.mk (Kd.R_elder' (by (with_reducible repeat (first | apply Kd.R_alloc | apply Kd.R_drewN | apply Kd.R_drew)); exact HO_4.out) (Kd.R_base ho0) hb); have n1_ := Aside0.mk (Kd.R_elder' (by (with_reducible repeat (first | apply Kd.R_alloc | apply Kd.R_drewN | apply Kd.R_drew)); exact HO_7.out) (Kd.R_base ho0) hb); have n2_ := Aside0.mk (Kd.R_lower (Kd.R_new' (Kd.R_new' ho0 (Kd.R_lt (by (with_reducible repeat (first | apply Kd.R_alloc | apply Kd.R_drewN | apply Kd.R_drew)); exact HO_4.out))) (Kd.R_lt (by (with_reducible repeat (first | apply Kd.R_alloc | apply Kd.R_drewN | apply Kd.R_drew)); exact HO_7.out))) (below_size (by repeat (first | (with_reducible first | exact HB.out | apply below_alloc | apply pw_below_drewN | apply below_drew1 | refine below_set ?_ GE720.out) | exact HB.out)))); have n3_ := Aside0.mk (blk_below (g := gb720) (o := .cells #[.int .i64 a0_0, .slice A0_1 l0_1.length c0_1] 24 (0, 0)) (by (with_reducible repeat (first | refine blk_drewN ?_ _ | refine blk_drew ?_ | refine blk_alloc ?_ _)); exact BK720.out) hb); have n4_ := Aside0.mk (below_step (by repeat (first | (with_reducible first | exact HB.out | apply below_alloc | apply pw_below_drewN | apply below_drew1 | refine below_set ?_ GE720.out) | exact HB.out)) hb); clear HO_4; clear HO_7; clear BK720; clear HB; have HO_4 := n0_; have HO_7 := n1_; have HO754 := n2_; have BK720 := n3_; have HB := n4_; clear n0_ n1_ n2_ n3_ n4_; (try clear hb); (try clear hb2); (try clear hk); (try clear hi); (try clear ho0); obtain ⟨Ao60, co60, eo60⟩ := Kd.R_slice HO754.out; subst eo60) | ((with_reducible refine gate_callee (f := 25) rfl ?_); refine goesL_ (some 76) rfl rfl Tryd.func25 (by kernel_rfl) rfl #[.agg #[.int .i64 t751, .slice Ao60 t752.length co60]] rfl (by (try simp only [List.map_toArray, List.map_cons, List.map_nil]); first | done | rfl | (simp only [List.length_drop, List.length_take]; rfl)) ?_; (with_reducible refine (impl_TraceList.calls kj50 t751 _ _ t752 t755 t758 _ ?side1 ?side2 ?side3 A54.out).mono ?_); (case side1 => repeat (first | exact (Kd.R_reads' HO754.out).2.2 | (with_reducible refine Kd.C_alloc ?_ _) | (with_reducible refine Kd.C_drewN ?_ _) | (with_reducible refine Kd.C_drew ?_))); (case side2 => exact (Kd.R_reads' HO754.out).2.1); (case side3 => exact TzW.below HT.out (by repeat (first | (with_reducible first | exact HB.out | apply below_alloc | apply pw_below_drewN | apply below_drew1 | refine below_set ?_ GE720.out) | exact HB.out))); rintro e w61 ⟨v756, rfl, ho0, hb⟩; refine ⟨_, rfl, ?_⟩; have n0_ := Aside0.mk (Kd.R_elder' (by (with_reducible repeat (first | apply Kd.R_alloc | apply Kd.R_drewN | apply Kd.R_drew)); exact HO_4.out) (Kd.R_base ho0) hb); have n1_ := Aside0.mk (Kd.R_elder' (by (with_reducible repeat (first | apply Kd.R_alloc | apply Kd.R_drewN | apply Kd.R_drew)); exact HO_7.out) (Kd.R_base ho0) hb); have n2_ := Aside0.mk (Kd.R_elder' (by (with_reducible repeat (first | apply Kd.R_alloc | apply Kd.R_drewN | apply Kd.R_drew)); exact HO754.out) (Kd.R_base ho0) hb); have n3_ := Aside0.mk (Kd.R_lower (Kd.R_new' (Kd.R_new' (Kd.R_new' ho0 (Kd.R_lt (by (with_reducible repeat (first | apply Kd.R_alloc | apply Kd.R_drewN | apply Kd.R_drew)); exact HO_4.out))) (Kd.R_lt (by (with_reducible repeat (first | apply Kd.R_alloc | apply Kd.R_drewN | apply Kd.R_drew)); exact HO_7.out))) (Kd.R_lt (by (with_reducible repeat (first | apply Kd.R_alloc | apply Kd.R_drewN | apply Kd.R_drew)); exact HO754.out))) (below_size (by repeat (first | (with_reducible first | exact HB.out | apply below_alloc | apply pw_below_drewN | apply below_drew1 | refine below_set ?_ GE720.out) | exact HB.out)))); have n4_ := Aside0.mk (blk_below (g := gb720) (o := .cells #[.int .i64 a0_0, .slice A0_1 l0_1.length c0_1] 24 (0, 0)) (by (with_reducible repeat (first | refine blk_drewN ?_ _ | refine blk_drew ?_ | refine blk_alloc ?_ _)); exact BK720.out) hb); have n5_ := Aside0.mk (below_step (by repeat (first | (with_reducible first | exact HB.out | apply below_alloc | apply pw_below_drewN | apply below_drew1 | refine below_set ?_ GE720.out) | exact HB.out)) hb); clear HO_4; clear HO_7; clear HO754; clear BK720; clear HB; have HO_4 := n0_; have HO_7 := n1_; have HO754 := n2_; have HO757 := n3_; have BK720 := n4_; have HB := n5_; clear n0_ n1_ n2_ n3_ n4_ n5_; (try clear hb); (try clear hb2); (try clear hk); (try clear hi); (try clear ho0); obtain ⟨Ao62, co62, eo62⟩ := Kd.R_slice HO757.out; subst eo62) | ((with_reducible refine gate_callee (f := 15) rfl ?_); refine goesL_ (some 81) rfl rfl Tryd.func15 (by kernel_rfl) rfl #[.slice Ao62 t755.length co62, .slice Ao27 t726.length co27] rfl (by (try simp only [List.map_toArray, List.map_cons, List.map_nil]); first | done | rfl | (simp only [List.length_drop, List.length_take]; rfl)) ?_; (with_reducible refine (laws_eqIntS.calls kj50 _ _ t755 _ _ t726 true _ ?side1 ?side2 ?side3 ?side4 A55.out).mono ?_); (case side1 => repeat (first | exact (Kd.R_reads' HO757.out).2.2 | (with_reducible refine Kd.C_alloc ?_ _) | (with_reducible refine Kd.C_drewN ?_ _) | (with_reducible refine Kd.C_drew ?_))); (case side2 => exact (Kd.R_reads' HO757.out).2.1); (case side3 => repeat (first | exact (Kd.R_reads' HO_4.out).2.2 | (with_reducible refine Kd.C_alloc ?_ _) | (with_reducible refine Kd.C_drewN ?_ _) | (with_reducible refine Kd.C_drew ?_))); (case side4 => exact (Kd.R_reads' HO_4.out).2.1); rintro e w' ⟨rfl, ⟨nd, rfl⟩⟩; refine ⟨_, rfl, ?_⟩))
                                  (try simp only [Act.put, List.setIfInBounds_toArray, List.set_cons_zero, List.set_cons_succ])
                                  go_cut [] (fun wc => ∃ (kq : Nat), Aside0 (laws_FnExactTraceList.j6 kq t749 t748 = some r) ∧ Aside0 (kq ≤ kj50) ∧ Aside0 (Kd.R (Kd.int .i64) 3 wc w.heap.size (fun _ => True) (.slice Ao26 t749.length co26) t749) ∧ Aside0 (Below w.heap.size w wc))
                                  case first =>
                                    have H := HC57.out
                                    clear HC57
                                    by_cases c63 : (t758 != t729) = true
                                    · rw [if_pos c63] at H
                                      exact absurd H (by simp)
                                    · rw [if_neg c63] at H
                                      have c63b0 : (t758 != t729) = false := by simpa using c63
                                      (try (have c63b1 : decide (t758 = t729) = true := by simpa using c63))
                                      (try (have c63b2 : (t758 == t729) = true := by simpa using c63))
                                      clear c63
                                      (first | rw [c63b0] | rw [c63b2, Bool.not_true] | rw [c63b2, Bool.not_false] | (simp only [i64_w, i32_w]; rw [c63b0]) | skip)
                                      have H' := Aside0.mk H
                                      clear H
                                      go_wp2
                                      go_meet
                                      case rel => exact ⟨_, H', ⟨by have := HJ2.out; have := HJ13.out; have := HJ30.out; have := HJ40.out; have := HJ47.out; have := HJ50.out; first | omega | exact Nat.le_refl _⟩, ⟨by (try simp only [hl7_47]); (with_reducible repeat (first | apply Kd.R_alloc | apply Kd.R_drewN | apply Kd.R_drew)); exact Kd.R_mono HO_7.out (fun _ hk => trivial)⟩, ⟨by repeat (first | (with_reducible first | exact HB.out | apply below_alloc | apply pw_below_drewN | apply below_drew1 | refine below_set ?_ GE720.out) | exact HB.out)⟩⟩
                                  case rest =>
                                    clear HC57
                                    try clear c1
                                    try clear c2
                                    try clear p2
                                    try clear c3
                                    try clear c4
                                    try clear c5
                                    try clear c6
                                    try clear c7
                                    try clear c7b0
                                    try clear c8
                                    try clear c10
                                    try clear c12
                                    try clear c13
                                    try clear c15
                                    try clear c16
                                    try clear c17
                                    try clear c18
                                    try clear c22
                                    try clear c24
                                    try clear c25
                                    try clear c28
                                    try clear c28b0
                                    try clear c28b1
                                    try clear c28b2
                                    try clear c36
                                    try clear c38
                                    try clear c38b0
                                    try clear c40
                                    try clear c42
                                    try clear c45
                                    try clear c45b0
                                    try clear c45b1
                                    try clear c45b2
                                    try clear c50
                                    try clear c50b0
                                    try clear c52
                                    try clear c52b0
                                    try clear c52b1
                                    try clear c56
                                    try clear c63
                                    try clear c63b0
                                    try clear c63b1
                                    try clear c63b2
                                    try clear hcz15_0
                                    try clear hcz15_1
                                    try clear hcz19_0
                                    try clear hcz19_1
                                    try clear hcz23_0
                                    try clear hcz23_1
                                    try clear hcz43_0
                                    try clear hcz43_1
                                    try clear hcz58_0
                                    try clear hcz58_1
                                    try clear hcz5_0
                                    try clear hcz5_1
                                    try clear hfz15_0
                                    try clear hfz15_1
                                    try clear hfz19_0
                                    try clear hfz19_1
                                    try clear hfz23_0
                                    try clear hfz23_1
                                    try clear hfz43_0
                                    try clear hfz43_1
                                    try clear hfz58_0
                                    try clear hfz58_1
                                    try clear hfz5_0
                                    try clear hfz5_1
                                    try clear p2
                                    obtain ⟨kq, HA, HJ56, HO_7, HB⟩ := hcut
                                    cases kq with
                                    | zero => exact absurd HA.out (by simp [laws_FnExactTraceList.j6])
                                    | succ kj56 =>
                                      have H := HA.out
                                      clear HA
                                      simp only [laws_FnExactTraceList.j6] at H
                                      replace H := Option.bind_eq_some_iff.mp H
                                      obtain ⟨t760, A640, H⟩ := H
                                      replace H : (if t760 < 0 then (none) else (if t760 = t748 then (some true) else (none))) = some r := H
                                      have A64 := Aside0.mk A640
                                      clear A640
                                      by_cases c65 : t760 < 0
                                      · rw [if_pos c65] at H
                                        exact absurd H (by simp)
                                      · rw [if_neg c65] at H
                                        have c65b0 : decide (t760 < 0) = false := decide_eq_false c65
                                        clear c65
                                        by_cases c66 : t760 = t748
                                        · rw [if_pos c66] at H
                                          have c66b0 : (t760 == t748) = true := beq_iff_eq.mpr c66
                                          have c66b1 : (t760 != t748) = false := bne_eq_false_iff_eq.mpr c66
                                          clear c66
                                          obtain rfl := Option.some.inj H
                                          go_wp2_with (first | ((with_reducible refine gate_callee (f := 18) rfl ?_); refine goesL_ (some 90) rfl rfl Tryd.func18 (by kernel_rfl) rfl #[.slice Ao26 t749.length co26, .int .i64 1] rfl (by (try simp only [List.map_toArray, List.map_cons, List.map_nil]); first | done | rfl | (simp only [List.length_drop, List.length_take]; rfl)) ?_; (with_reducible refine (laws_heldIntS.calls kj56 _ _ t749 1 t760 _ ?side1 ?side2 A64.out).mono ?_); (case side1 => repeat (first | exact (Kd.R_reads' HO_7.out).2.2 | (with_reducible refine Kd.C_alloc ?_ _) | (with_reducible refine Kd.C_drewN ?_ _) | (with_reducible refine Kd.C_drew ?_))); (case side2 => exact (Kd.R_reads' HO_7.out).2.1); rintro e w' ⟨rfl, ⟨nd, rfl⟩⟩; refine ⟨_, rfl, ?_⟩))
                                          go_ret
                                          exact ⟨by first | rfl | (simp [errW_none, errW_some] <;> rfl) | (simp [*, errW_none, errW_some] <;> rfl), by repeat (first | (with_reducible first | exact HB.out | apply below_alloc | apply pw_below_drewN | apply below_drew1) | exact HB.out)⟩
                                        · rw [if_neg c66] at H
                                          exact absurd H (by simp)
                                · replace c56 := Bool.eq_false_iff.mpr c56
                                  subst c56
                                  have H1 : (none) = some r := by rw [if_neg (show ¬ (false = true) by decide)] at H; exact H
                                  clear H
                                  have H := H1
                                  clear H1
                                  exact absurd H (by simp)
                  · replace c40 := Bool.eq_false_iff.mpr c40
                    subst c40
                    have H1 : (none) = some r := by rw [if_neg (show ¬ (false = true) by decide)] at H; exact H
                    clear H
                    have H := H1
                    clear H1
                    exact absurd H (by simp)
      · replace c13 := Bool.eq_false_iff.mpr c13
        subst c13
        have H1 : (none) = some r := by rw [if_neg (show ¬ (false = true) by decide)] at H; exact H
        clear H
        have H := H1
        clear H1
        exact absurd H (by simp)

end Go.Proofs.YtbodhioladafnaaDoor.P
