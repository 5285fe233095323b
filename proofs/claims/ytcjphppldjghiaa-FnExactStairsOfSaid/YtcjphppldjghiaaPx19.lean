-- Written by wip/myprint.py of this session (a driver of the kit's print); Lean checks it.
import Derived.Test.YtcjphppldjghiaaPx0
import Derived.Test.YtcjphppldjghiaaPx11
import Derived.Test.YtcjphppldjghiaaPx17
import Derived.Test.YtcjphppldjghiaaPx18
namespace Go.Proofs.Ytcjphppldjghiaa.P
open Go.RowKit Go.Proofs.YtcjphppldjghiaaW.PrintWords Go.Proofs.YtcjphppldjghiaaW.PrintLast Go.Proofs.YtcjphppldjghiaaW.PrintMore
attribute [local go_sem] max2_int min2_int max_two min_two max_three min_three max_four min_four   -- for this text's walks alone
set_option linter.unusedVariables false
set_option linter.unusedSimpArgs false

/-! ### laws_heldIntSS: function 14 -/
def laws_heldIntSS.l0 : Nat → List (List Int) → Int → Int → Option (Int)
  | 0, _, _, _ => none
  | k + 1, x0, x1, x5 => if x5 < (x0.length : Int) then (if 0 ≤ x5 then ((laws_heldIntS.f k (rd_L1 x0 x5) x1).bind fun t399 => (if t399 < 0 then (some (-1)) else (laws_heldIntSS.l0 k x0 t399 (wrap64 (x5 + 1))))) else (none)) else (some x1)
def laws_heldIntSS.f (k : Nat) (l0 : List (List Int)) (a1 : Int) : Option (Int) := laws_heldIntSS.l0 k l0 a1 0
set_option maxHeartbeats 8000000 in
set_option maxRecDepth 100000 in
theorem laws_heldIntSS.calls (k : Nat) (A0 : Option Addr) (c0 : Nat) (l0 : List (List Int)) (a1 : Int) (r : Int) (w : World) (hr0 : Kd.C (Kd.slice 3 (Kd.int .i64)) w A0 l0.length l0) (hc0 : l0.length ≤ c0) (h : laws_heldIntSS.f k l0 a1 = some r) :
    Calls Try.prog 14 #[.slice A0 l0.length c0, .int .i64 a1] w fun e w' => e = .returned (.int .i64 r) ∧ Drawn0 w w' := by
  have HR0 := Aside0.mk hr0
  have HC0 := Aside0.mk hc0
  clear hr0 hc0
  have H : (laws_heldIntSS.l0 k l0 a1 0) = some r := h
  clear h
  have H' := Aside0.mk H
  clear H
  go_enter Try.func14, Try.ntmps14
  go_wp2
  go_loopg [1, 5] k (fun kq v1 v5 w' => ∃ (x1_1 : Int) (x5_1 : Int), v1 = .int .i64 x1_1 ∧ v5 = .int .i64 x5_1 ∧ Aside0 (laws_heldIntSS.l0 kq l0 x1_1 x5_1 = some r) ∧ Aside0 (kq ≤ k) ∧ Drawn0 w w')
  case atStart => exact ⟨(a1), (0), (by first | rfl | (simp; done) | (simp [*]; done)), (by first | rfl | (simp; done) | (simp [*]; done)), H', ⟨Nat.le_refl _⟩, by repeat (first | exact Drawn0.refl _ | apply Drawn0.step)⟩
  case round =>
    clear H'
    try clear c1
    try clear p2
    obtain ⟨x1_1, x5_1, rfl, rfl, HA, HK1, ⟨m1, rfl⟩⟩ := hrel
    cases gk with
    | zero => exact absurd HA.out (by simp [laws_heldIntSS.l0])
    | succ k1 =>
      have H := HA.out
      clear HA
      simp only [laws_heldIntSS.l0] at H
      by_cases c3 : x5_1 < (l0.length : Int)
      · rw [if_pos c3] at H
        have c3b0 : decide (x5_1 < (l0.length : Int)) = true := decide_eq_true c3
        clear c3
        by_cases c4 : 0 ≤ x5_1
        · rw [if_pos c4] at H
          have c4b0 : decide (0 ≤ x5_1) = true := decide_eq_true c4
          clear c4
          replace H := Option.bind_eq_some_iff.mp H
          obtain ⟨t399, A50, H⟩ := H
          replace H : (if t399 < 0 then (some (-1)) else (laws_heldIntSS.l0 k1 l0 t399 (wrap64 (x5_1 + 1)))) = some r := H
          have A5 := Aside0.mk A50
          clear A50
          by_cases c6 : t399 < 0
          · rw [if_pos c6] at H
            have c6b0 : decide (t399 < 0) = true := decide_eq_true c6
            clear c6
            obtain rfl := Option.some.inj H
            have p398 : 0 ≤ (x5_1 : Int) := of_decide_eq_true (by first | (with_reducible assumption) | assumption)
            have q398 : x5_1 < (l0.length : Int) := of_decide_eq_true (by first | (with_reducible assumption) | assumption)
            obtain ⟨ad398, A398_0, c398_0, e398, hx398_0, hl398_0, hi398_0⟩ := at_L1 HR0.out x5_1 p398 q398
            cases e398
            have HR398_0 := Aside0.mk hi398_0
            have HC398_0 := Aside0.mk hl398_0
            clear hi398_0 hl398_0
            replace p398 := eq_true p398
            replace q398 := eq_true q398
            go_wp2_with (first | ((with_reducible refine gate_callee (f := 32) rfl ?_); refine goesL_ (some 17) rfl rfl Try.func32 (by kernel_rfl) rfl #[.slice A398_0 (rd_L1 l0 x5_1).length c398_0, .int .i64 x1_1] rfl (by (try simp only [List.map_toArray, List.map_cons, List.map_nil]); first | done | rfl | (simp only [List.length_drop, List.length_take]; rfl)) ?_; (with_reducible refine (laws_heldIntS.calls k1 _ _ (rd_L1 l0 x5_1) x1_1 t399 _ ?side1 ?side2 A5.out).mono ?_); (case side1 => repeat (first | exact HR398_0.out | (with_reducible refine Kd.C_alloc ?_ _) | (with_reducible refine Kd.C_drewN ?_ _) | (with_reducible refine Kd.C_drew ?_))); (case side2 => exact HC398_0.out); rintro e w' ⟨rfl, ⟨nd, rfl⟩⟩; refine ⟨_, rfl, ?_⟩))
            go_ret
            exact ⟨by first | rfl | (simp; done) | (simp [*]; done), by repeat (first | exact Drawn0.refl _ | apply Drawn0.step)⟩
          · rw [if_neg c6] at H
            have c6b0 : decide (t399 < 0) = false := decide_eq_false c6
            clear c6
            have H' := Aside0.mk H
            clear H
            have p398 : 0 ≤ (x5_1 : Int) := of_decide_eq_true (by first | (with_reducible assumption) | assumption)
            have q398 : x5_1 < (l0.length : Int) := of_decide_eq_true (by first | (with_reducible assumption) | assumption)
            obtain ⟨ad398, A398_0, c398_0, e398, hx398_0, hl398_0, hi398_0⟩ := at_L1 HR0.out x5_1 p398 q398
            cases e398
            have HR398_0 := Aside0.mk hi398_0
            have HC398_0 := Aside0.mk hl398_0
            clear hi398_0 hl398_0
            replace p398 := eq_true p398
            replace q398 := eq_true q398
            go_wp2_with (first | ((with_reducible refine gate_callee (f := 32) rfl ?_); refine goesL_ (some 17) rfl rfl Try.func32 (by kernel_rfl) rfl #[.slice A398_0 (rd_L1 l0 x5_1).length c398_0, .int .i64 x1_1] rfl (by (try simp only [List.map_toArray, List.map_cons, List.map_nil]); first | done | rfl | (simp only [List.length_drop, List.length_take]; rfl)) ?_; (with_reducible refine (laws_heldIntS.calls k1 _ _ (rd_L1 l0 x5_1) x1_1 t399 _ ?side1 ?side2 A5.out).mono ?_); (case side1 => repeat (first | exact HR398_0.out | (with_reducible refine Kd.C_alloc ?_ _) | (with_reducible refine Kd.C_drewN ?_ _) | (with_reducible refine Kd.C_drew ?_))); (case side2 => exact HC398_0.out); rintro e w' ⟨rfl, ⟨nd, rfl⟩⟩; refine ⟨_, rfl, ?_⟩))
            go_roundg k1
            case measure => have := HK1.out; omega
            case rel => exact ⟨(t399), (wrap64 (x5_1 + 1)), (by first | rfl | (simp; done) | (simp [*]; done)), (by first | rfl | (simp; done) | (simp [*]; done)), H', ⟨by have := HK1.out; omega⟩, by repeat (first | exact Drawn0.refl _ | apply Drawn0.step)⟩
        · rw [if_neg c4] at H
          exact absurd H (by simp)
      · rw [if_neg c3] at H
        have c3b0 : decide (x5_1 < (l0.length : Int)) = false := decide_eq_false c3
        clear c3
        obtain rfl := Option.some.inj H
        go_wp2
        go_ret
        exact ⟨by first | rfl | (simp; done) | (simp [*]; done), by repeat (first | exact Drawn0.refl _ | apply Drawn0.step)⟩

/-! ### laws_FnExactStairsOf: function 4 -/
def laws_FnExactStairsOf.f (k : Nat) (a0 : Int) : Option Bool := (spec_StairsOf.f k a0).bind fun bw => (impl_StairsOf.f k a0).bind fun bg => (laws_eqIntSS.f k bg.1 bw.1).bind fun e1 => (laws_markIntSS.f k bg.1 1).bind fun bm => (laws_heldIntSS.f k bm.2 1).bind fun q => if e1 = true ∧ bg.2 = bw.2 ∧ 0 ≤ q ∧ q = bm.1 then some true else none
set_option maxHeartbeats 8000000 in
set_option maxRecDepth 100000 in
theorem laws_FnExactStairsOf.calls (k : Nat) (a0 : Int) (r : Bool) (w : World) (h : laws_FnExactStairsOf.f k a0 = some r) :
    Calls Try.prog 4 #[.int .i64 a0] w fun e w' => e = .returned (.bool r) ∧ Below w.heap.size w w' := by
  unfold laws_FnExactStairsOf.f at h
  obtain ⟨⟨lw, b⟩, h1, h⟩ := Option.bind_eq_some_iff.mp h
  obtain ⟨⟨lg, b2⟩, h2, h⟩ := Option.bind_eq_some_iff.mp h
  obtain ⟨e1, h3, h⟩ := Option.bind_eq_some_iff.mp h
  obtain ⟨⟨m, lm⟩, h4, h⟩ := Option.bind_eq_some_iff.mp h
  obtain ⟨q, h5, h⟩ := Option.bind_eq_some_iff.mp h
  by_cases hc : e1 = true ∧ b2 = b ∧ 0 ≤ q ∧ q = m
  case neg => rw [if_neg (by simpa using hc)] at h; cases h
  rw [if_pos (by simpa using hc)] at h
  obtain rfl := Option.some.inj h
  obtain ⟨rfl, rfl, hq, rfl⟩ := hc
  clear h
  have A1 := Aside0.mk h1
  have A2 := Aside0.mk h2
  have A3 := Aside0.mk h3
  have A4 := Aside0.mk h4
  have A5 := Aside0.mk h5
  clear h1 h2 h3 h4 h5
  have hbb : (b2 != b2) = false := by simp
  have hqq : (q != q) = false := by simp
  have hq0 : decide (q < 0) = false := decide_eq_false (by omega)
  clear hq
  go_enter Try.func4, Try.ntmps4
  go_wp2_with (first | ((with_reducible refine gate_callee (f := 10) rfl ?_); refine goesL_ (some 13) rfl rfl Try.func10 (by kernel_rfl) rfl #[.int .i64 a0] rfl (by (try simp only [List.map_toArray, List.map_cons, List.map_nil]); first | done | rfl) ?_; (with_reducible refine (spec_StairsOf.calls k a0 lw b2 _ A1.out).mono ?_); rintro e w1 ⟨vw, rfl, hn, hb⟩; refine ⟨_, rfl, ?_⟩; obtain ⟨Aw, cw, ew⟩ := Kd.N_slice hn; subst ew; have HF := Aside0.mk (Kd.N_F hn); have HC := Aside0.mk (Kd.N_reads' hn).2.1; have HB1 := Aside0.mk hb; clear hn hb) | ((with_reducible refine gate_callee (f := 11) rfl ?_); refine goesL_ (some 18) rfl rfl Try.func11 (by kernel_rfl) rfl #[.int .i64 a0] rfl (by (try simp only [List.map_toArray, List.map_cons, List.map_nil]); first | done | rfl) ?_; (with_reducible refine (impl_StairsOf.calls k a0 lg b2 _ A2.out).mono ?_); rintro e w2 ⟨vg, rfl, hs, hb⟩; refine ⟨_, rfl, ?_⟩; obtain ⟨Ag, cg, eg⟩ := Kd.S_slice hs; subst eg; have HS := Aside0.mk hs; have HB2 := Aside0.mk hb; clear hs hb) | ((with_reducible refine gate_callee (f := 12) rfl ?_); refine goesL_ (some 23) rfl rfl Try.func12 (by kernel_rfl) rfl #[.slice Ag lg.length cg, .slice Aw lw.length cw] rfl (by (try simp only [List.map_toArray, List.map_cons, List.map_nil]); first | done | rfl) ?_; (with_reducible refine (laws_eqIntSS.calls k _ _ lg _ _ lw true _ ?side1 ?side2 ?side3 ?side4 A3.out).mono ?_); (case side1 => exact (Kd.S_reads' HS.out).2.2); (case side2 => exact (Kd.S_reads' HS.out).2.1); (case side3 => exact HF.out _ (fun k_ _ hlt_ => HB2.out.block k_ hlt_)); (case side4 => exact HC.out); rintro e w' ⟨rfl, ⟨nd1, rfl⟩⟩; refine ⟨_, rfl, ?_⟩) | ((with_reducible refine gate_callee (f := 13) rfl ?_); refine goesL_ (some 32) rfl rfl Try.func13 (by kernel_rfl) rfl #[.slice Ag lg.length cg, .int .i64 1] rfl (by (try simp only [List.map_toArray, List.map_cons, List.map_nil]); first | done | rfl) ?_; (with_reducible refine (laws_markIntSS.calls k (fun k_ => w1.heap.size ≤ k_) _ lg 1 q lm w1 _ ?side1 ?side2 A4.out).mono ?_); (case side1 => exact pw_below_drewN HB2.out _); (case side2 => exact Kd.S_drewN HS.out _); rintro e w3 ⟨rfl, hs, hb, hk⟩; refine ⟨_, rfl, ?_⟩; have HS3 := Aside0.mk hs; have HL3 := Aside0.mk (Kd.S_reads' hs).1; have HB3 := Aside0.mk hb; clear hs hb hk; clear HS HB2) | ((with_reducible refine gate_callee (f := 14) rfl ?_); refine goesL_ (some 35) rfl rfl Try.func14 (by kernel_rfl) rfl #[.slice Ag lg.length cg, .int .i64 1] rfl (by (try simp only [List.map_toArray, List.map_cons, List.map_nil]); first | done | rfl) ?_; (rw [HL3.out]); (with_reducible refine (laws_heldIntSS.calls k _ _ lm 1 q _ ?side1 ?side2 A5.out).mono ?_); (case side1 => exact (Kd.S_reads' HS3.out).2.2); (case side2 => exact (by have h_ := (Kd.S_reads' HS3.out).2.1; rw [HL3.out] at h_; exact h_)); rintro e w' ⟨rfl, ⟨nd2, rfl⟩⟩; refine ⟨_, rfl, ?_⟩) | ((with_reducible refine gate_callee (f := 11) rfl ?_); refine goesL_ (some 43) rfl rfl Try.func11 (by kernel_rfl) rfl #[.int .i64 a0] rfl (by (try simp only [List.map_toArray, List.map_cons, List.map_nil]); first | done | rfl) ?_; (with_reducible refine (impl_StairsOf.calls k a0 lg b2 _ A2.out).mono ?_); rintro e w4 ⟨vh, rfl, hs, hb⟩; refine ⟨_, rfl, ?_⟩; obtain ⟨Ah, ch, eh⟩ := Kd.S_slice hs; subst eh; have HS4 := Aside0.mk hs; have HB4 := Aside0.mk (below_step (pw_below_drewN (Below.refl w3.heap.size w3) nd2) hb); clear hs hb) | ((with_reducible refine gate_callee (f := 12) rfl ?_); refine goesL_ (some 48) rfl rfl Try.func12 (by kernel_rfl) rfl #[.slice Ah lg.length ch, .slice Aw lw.length cw] rfl (by (try simp only [List.map_toArray, List.map_cons, List.map_nil]); first | done | rfl) ?_; (with_reducible refine (laws_eqIntSS.calls k _ _ lg _ _ lw true _ ?side1 ?side2 ?side3 ?side4 A3.out).mono ?_); (case side1 => exact (Kd.S_reads' HS4.out).2.2); (case side2 => exact (Kd.S_reads' HS4.out).2.1); (case side3 => exact HF.out _ (fun k_ _ hlt_ => (HB4.out.block k_ (Nat.lt_of_lt_of_le hlt_ HB3.out.size)).trans (HB3.out.block k_ hlt_))); (case side4 => exact HC.out); rintro e w' ⟨rfl, ⟨nd3, rfl⟩⟩; refine ⟨_, rfl, ?_⟩) | ((with_reducible refine gate_callee (f := 14) rfl ?_); refine goesL_ (some 57) rfl rfl Try.func14 (by kernel_rfl) rfl #[.slice Ag lm.length cg, .int .i64 1] rfl (by (try simp only [List.map_toArray, List.map_cons, List.map_nil]); first | done | rfl) ?_; (with_reducible refine (laws_heldIntSS.calls k _ _ lm 1 q _ ?side1 ?side2 A5.out).mono ?_); (case side1 => exact (Kd.S_reads' (Kd.S_drewN (Kd.S_below HS3.out HB4.out) _)).2.2); (case side2 => exact (by have h_ := (Kd.S_reads' HS3.out).2.1; rw [HL3.out] at h_; exact h_)); rintro e w' ⟨rfl, ⟨nd4, rfl⟩⟩; refine ⟨_, rfl, ?_⟩))
  go_ret
  exact ⟨by first | rfl | (simp [*]; done), pw_below_drewN (below_step (below_step HB1.out HB3.out) HB4.out) _⟩

end Go.Proofs.Ytcjphppldjghiaa.P
