-- Written by wip/myprint.py of this session (a driver of the kit's print); Lean checks it.
import Derived.Test.YtbodhioladafnaaDoorPx0
import Derived.Test.YtbodhioladafnaaDoorPx17
namespace Go.Proofs.YtbodhioladafnaaDoor.P
open Go.RowKit Go.Proofs.YtbodhioladafnaaDoorW.PrintWords Go.Proofs.YtbodhioladafnaaDoorW.PrintLast Go.Proofs.YtbodhioladafnaaDoorW.PrintMore
attribute [local go_sem] max2_int min2_int max_two min_two max_three min_three max_four min_four   -- for this text's walks alone
set_option linter.unusedVariables false
set_option linter.unusedSimpArgs false

/-! ### impl_placed: function 62 -/
set_option maxHeartbeats 1000000 in
theorem impl_placed.lit (g0 g1 : Nat) (a0 : Int) (A1 : Option Addr) (c1 : Nat) (l1 : List Int) (i j : Nat) (W : World) (hg0 : W.heap[g0]? = some (.cells #[.int .i64 a0] 3 (0, 0))) (hg1 : W.heap[g1]? = some (.cells #[.slice A1 l1.length c1] 22 (0, 0)))
    (hr : Kd.C (Kd.int .i64) W A1 l1.length l1) (hi : i < l1.length) (hj : j < l1.length) (hi0 : 0 ≤ rd l1 i ∧ rd l1 i ≤ 1000) (hj0 : 0 ≤ rd l1 j ∧ rd l1 j ≤ 1000) :
    Calls Tryd.prog 77 #[.int .i64 (i : Int), .int .i64 (j : Int), .pointer (some ⟨g1, 0, none⟩), .pointer (some ⟨g0, 0, none⟩)] W fun e W' => e = .returned (.bool (decide (a0 ≤ rd l1 (j : Int) - rd l1 (i : Int)))) ∧ Below W.heap.size W W' := by
  have hc0 : W.cell? ⟨g0, 0, none⟩ = some (.int .i64 a0) := (blk_cell hg0 0).trans rfl
  have hc1 : W.cell? ⟨g1, 0, none⟩ = some (.slice A1 l1.length c1) := (blk_cell hg1 0).trans rfl
  obtain ⟨ad, rfl, hx⟩ := Kd.at_int hr (j : Int) (by omega) (by omega)
  obtain ⟨ad2, e2, hy⟩ := Kd.at_int hr (i : Int) (by omega) (by omega)
  cases e2
  rw [Int.toNat_natCast] at hy
  obtain ⟨i1, i2⟩ := hi0
  obtain ⟨j1, j2⟩ := hj0
  have hsub : IntKind.i64.wrap (rd l1 (j : Int) - rd l1 (i : Int)) = rd l1 (j : Int) - rd l1 (i : Int) := L.i64w (by omega) (by omega)
  have HS := Aside0.mk hsub
  rw [Int.toNat_natCast] at hx
  have p1 : (0 ≤ (j : Int)) = True := eq_true (by omega)
  have q1 : ((j : Int) < (l1.length : Int)) = True := eq_true (by omega)
  have p2 : (0 ≤ (i : Int)) = True := eq_true (by omega)
  have q2 : ((i : Int) < (l1.length : Int)) = True := eq_true (by omega)
  clear hg0 hg1 hr hj hi hsub
  go_enter Tryd.func77, Tryd.ntmps77
  go_wp2
  go_quiet (fail)
  go_wp2
  go_ret
  exact ⟨by rfl, pw_below_drewN (Below.refl _ _) _⟩
/-- a row of bits of any length, as the machine's words hold it. -/
def impl_placed.bigRow (f : Nat → Bool) : Nat → Int
  | 0 => 0
  | j + 1 => if f j then Go.bits .or .i64 (impl_placed.bigRow f j) (shl .i64 1 (j : Int)) else impl_placed.bigRow f j
def impl_placed.bigL (n : Nat) (is : Nat → Nat → Bool) : List Int := (List.range n).map fun i => impl_placed.bigRow (is i) n
theorem impl_placed.bigL_length (n : Nat) (is : Nat → Nat → Bool) : (impl_placed.bigL n is).length = n := by simp [impl_placed.bigL]
theorem impl_placed.bigRow_small (f : Nat → Bool) : ∀ j, j ≤ 61 → impl_placed.bigRow f j = ((L.relRow f j : Nat) : Int)
  | 0, _ => rfl
  | j + 1, h => by
    have ih := impl_placed.bigRow_small f j (by omega)
    have hlt : L.relRow f j < 2 ^ 62 := Nat.lt_of_lt_of_le (L.relRow_lt _ j) (Nat.pow_le_pow_right (by decide) (by omega))
    have hp : (2 : Nat) ^ j < 2 ^ 62 := Nat.pow_lt_pow_right (by decide) (by omega)
    unfold impl_placed.bigRow L.relRow
    rw [ih, L.shl_one (by omega), L.or_nat hlt hp]
    cases f j <;> rfl
theorem impl_placed.bigL_small {n : Nat} (h : n ≤ 61) (is : Nat → Nat → Bool) : impl_placed.bigL n is = L.relL n is := by
  unfold impl_placed.bigL L.relL L.cast L.relN
  rw [List.map_map]
  exact List.map_congr_left fun i _ => impl_placed.bigRow_small (is i) n h
section
variable (F : Int → Int → Option Bool) (is : Nat → Nat → Bool) (n : Nat)
theorem impl_placed.row (hn : n ≤ 1048576) (hF : ∀ i j : Nat, i < n → j < n → F (i : Int) (j : Int) = some (is i j)) (i : Nat) (hi : i < n) (R : List Int) (hR : R.length = n) (r : Int × List Int)
    (hr : Ev (fun k => impl_relation.l0 F k (n : Int) (n : Int) ((i + 1 : Nat) : Int) (n : Int) (R.set i (impl_placed.bigRow (is i) n))) r) (d : Nat) :
    ∀ j : Nat, j + d = n → Ev (fun k => impl_relation.l1 F k (n : Int) (i : Int) (n : Int) (i : Int) (n : Int) (j : Int) (n : Int) (R.set i (impl_placed.bigRow (is i) j))) r := by
  induction d with
  | zero =>
    intro j hj
    obtain rfl : j = n := by omega
    refine Ev.step (fun k => ?_) hr
    simp only [impl_relation.l1]
    rw [if_neg (by omega), L.w64n (by omega)]
  | succ d ih =>
    intro j hj
    refine Ev.step (fun k => ?_) (ih (j + 1) (by omega))
    simp only [impl_relation.l1]
    rw [if_pos (by omega), hF i j hi (by omega), L.w64n (by omega)]
    simp only [Option.bind_some]
    cases hb : is i j with
    | true =>
      rw [if_pos rfl, if_pos (by omega), if_pos (by rw [List.length_set]; omega), if_pos (by omega), L.rd_set _ (by omega), Int.toNat_natCast, List.set_set]
      simp only [impl_placed.bigRow]
      rw [if_pos hb]
    | false =>
      rw [if_neg (by simp)]
      simp only [impl_placed.bigRow]
      rw [if_neg (by simp [hb])]
theorem impl_placed.rows (hn : n ≤ 1048576) (hF : ∀ i j : Nat, i < n → j < n → F (i : Int) (j : Int) = some (is i j)) (d : Nat) :
    ∀ i : Nat, i + d = n → Ev (fun k => impl_relation.l0 F k (n : Int) (n : Int) (i : Int) (n : Int) ((List.range n).map fun a => if a < i then impl_placed.bigRow (is a) n else 0)) ((n : Int), impl_placed.bigL n is) := by
  induction d with
  | zero =>
    intro i hi
    obtain rfl : i = n := by omega
    refine Ev.step (f := fun _ => some ((i : Int), impl_placed.bigL i is)) (fun k => ?_) (Ev.now _)
    simp only [impl_relation.l0]
    rw [if_neg (by omega)]
    have e : ((List.range i).map fun a => if a < i then impl_placed.bigRow (is a) i else 0) = impl_placed.bigL i is := List.map_congr_left fun a ha => if_pos (List.mem_range.1 ha)
    rw [e]
  | succ d ih =>
    intro i hi
    have h := ih (i + 1) (by omega)
    have e0 : ((List.range n).map fun a => if a < i then impl_placed.bigRow (is a) n else 0).set i (impl_placed.bigRow (is i) 0) = ((List.range n).map fun a => if a < i then impl_placed.bigRow (is a) n else 0) := by
      refine List.ext_getElem? fun a => ?_
      rw [List.getElem?_set]
      by_cases ha : i = a
      · subst ha; simp [impl_placed.bigRow, show i < n by omega]
      · rw [if_neg ha]
    have e1 : ((List.range n).map fun a => if a < i then impl_placed.bigRow (is a) n else 0).set i (impl_placed.bigRow (is i) n) = ((List.range n).map fun a => if a < i + 1 then impl_placed.bigRow (is a) n else 0) := by
      refine List.ext_getElem? fun a => ?_
      rw [List.getElem?_set]
      by_cases ha : i = a
      · subst ha; simp [show i < n by omega]
      · rw [if_neg ha]
        by_cases hn : a < n
        · simp only [List.getElem?_map, List.getElem?_range hn, Option.map_some]
          by_cases hl : a < i
          · rw [if_pos hl, if_pos (by omega)]
          · rw [if_neg hl, if_neg (by omega)]
        · simp [hn]
    rw [← e1] at h
    have := impl_placed.row F is n hn hF i (by omega) _ (by simp) _ h n 0 (by omega)
    rw [e0] at this
    refine Ev.step (fun k => ?_) this
    simp only [impl_relation.l0]
    rw [if_pos (by omega)]; rfl
theorem impl_placed.all (hn : n ≤ 1048576) (hF : ∀ i j : Nat, i < n → j < n → F (i : Int) (j : Int) = some (is i j)) : Ev (fun k => impl_relation.f F k (n : Int)) ((n : Int), impl_placed.bigL n is) := by
  refine Ev.congr (fun k => ?_) (impl_placed.rows F is n hn hF n 0 (by omega))
  unfold impl_relation.f
  rw [if_pos (by omega), if_pos (by omega)]
  have e : ((List.range n).map fun a => if a < 0 then impl_placed.bigRow (is a) n else 0) = List.replicate ((n : Int) : Int).toNat 0 := by
    refine List.ext_getElem? fun a => ?_
    by_cases hn : a < n
    · simp [hn]
    · simp [hn]
  rw [e]; rfl
end
/-- relation, called with a function value that tells 'is', for rows of any length. -/
theorem impl_placed.does (g : FuncId) (caps : Array Value) (n : Nat) (hn : n ≤ 1048576) (is : Nat → Nat → Bool) (w : World) (hE : ∀ args W, (callFunc g args).run Tryd.prog W = .ok (.enter g args) W)
    (hf : ∀ (i j : Nat) W, i < n → j < n → Below w.heap.size w W → Calls Tryd.prog g (#[.int .i64 (i : Int), .int .i64 (j : Int)] ++ caps) W fun e W' => e = .returned (.bool (is i j)) ∧ Below W.heap.size W W') :
    Calls Tryd.prog 71 #[.int .i64 (n : Int), .func (.func g) #[] caps] w fun e w' => ∃ v1_ : Value, e = .returned (.agg #[.int .i64 (n : Int), v1_]) ∧ Kd.R (Kd.int .i64) 3 w' w.heap.size (fun _ => True) v1_ (impl_placed.bigL n is) ∧ Below w.heap.size w w' := by
  have hall := impl_placed.all (fun i j => if 0 ≤ i ∧ i < n ∧ 0 ≤ j ∧ j < n then some (is i.toNat j.toNat) else none) is n hn (fun i j hi hj => by
    rw [if_pos (by omega)]; rfl)
  obtain ⟨k, h⟩ := hall.rounds
  refine impl_relation.calls k n _ g caps n (impl_placed.bigL n is) w hE (fun i j r W hb hr => ?_) h
  by_cases hc : 0 ≤ i ∧ i < n ∧ 0 ≤ j ∧ j < n
  · rw [if_pos hc] at hr
    obtain rfl := Option.some.inj hr
    obtain ⟨i, rfl⟩ := Int.eq_ofNat_of_zero_le hc.1
    obtain ⟨j, rfl⟩ := Int.eq_ofNat_of_zero_le hc.2.2.1
    exact hf i j W (by omega) (by omega) hb
  · rw [if_neg hc] at hr; cases hr
def impl_placed.f (a0 : Int) (l1 : List Int) : Option (Int × List Int) := if l1.length ≤ 1048576 ∧ ∀ x ∈ l1, 0 ≤ x ∧ x ≤ 1000 then some ((l1.length : Int), impl_placed.bigL l1.length fun i j => decide (a0 ≤ rd l1 (j : Int) - rd l1 (i : Int))) else none
set_option maxHeartbeats 1000000 in
theorem impl_placed.calls (a0 : Int) (A1 : Option Addr) (c1 : Nat) (l1 : List Int) (r1 : Int) (r2 : List Int) (w : World) (hr1 : Kd.C (Kd.int .i64) w A1 l1.length l1) (hc1 : l1.length ≤ c1) (h : impl_placed.f a0 l1 = some (r1, r2)) :
    Calls Tryd.prog 62 #[.int .i64 a0, .slice A1 l1.length c1] w fun e w' => ∃ v1_ : Value, e = .returned (.agg #[.int .i64 r1, v1_]) ∧ Kd.R (Kd.int .i64) 3 w' w.heap.size (fun _ => True) v1_ r2 ∧ Below w.heap.size w w' := by
  unfold impl_placed.f at h
  by_cases ok : l1.length ≤ 1048576 ∧ ∀ x ∈ l1, 0 ≤ x ∧ x ≤ 1000
  case neg => rw [if_neg ok] at h; cases h
  rw [if_pos ok] at h
  simp only [Option.some.injEq, Prod.mk.injEq] at h
  obtain ⟨rfl, rfl⟩ := h
  have hu := Tryd.underlying28
  have hmf : ∀ (fn : Fn) (first cap : Array Value) (W : World), (Instr.makeFunc fn first cap).run Tryd.prog W = .ok (.func fn first cap) W := fun _ _ _ _ => rfl
  have C := fun (W : World) (g0 g1 : Nat) (hW : Below w.heap.size w W) (hg0 : W.heap[g0]? = some (.cells #[.int .i64 a0] 3 (0, 0))) (hg1 : W.heap[g1]? = some (.cells #[.slice A1 l1.length c1] 22 (0, 0))) =>
    impl_placed.does 77 #[.pointer (some ⟨g1, 0, none⟩), .pointer (some ⟨g0, 0, none⟩)] l1.length (by omega) (fun i j => decide (a0 ≤ rd l1 (j : Int) - rd l1 (i : Int))) W (enters_ Tryd.func77 (by kernel_rfl) rfl)
      (fun i j W2 hi hj hb => impl_placed.lit g0 g1 a0 A1 c1 l1 i j W2 (blk_below hg0 hb) (blk_below hg1 hb) (Kd.C_below hr1 (below_step hW hb)) hi hj (by rw [L.rd_get hi]; exact ok.2 _ (List.getElem_mem hi)) (by rw [L.rd_get hj]; exact ok.2 _ (List.getElem_mem hj)))
  have CH := Aside0.mk (fun (W : World) (hW : Below w.heap.size w W) (hg0 : W.heap[w.heap.size]? = some (.cells #[.int .i64 a0] 3 (0, 0))) (hg1 : W.heap[w.heap.size + 1]? = some (.cells #[.slice A1 l1.length c1] 22 (0, 0))) => C W w.heap.size (w.heap.size + 1) hW hg0 hg1)
  clear C hr1 hc1 ok
  go_enter Tryd.func62, Tryd.ntmps62
  go_wp2_with (go_at_call 71; refine (CH.out _ (below_alloc (below_alloc (below_alloc (Below.refl _ _) _) _) _) (blk_alloc (blk_alloc (blk_new _ _) _) _) (blk_alloc (by have h_ := blk_new (w.alloc (.cells #[.int .i64 a0] 3 (0, 0))) (.cells #[.slice A1 l1.length c1] 22 (0, 0)); simpa using h_) _)).mono ?_; rintro e w2 ⟨v, rfl, ho, hb⟩; have HB := Aside0.mk (below_step (below_alloc (below_alloc (below_alloc (Below.refl _ w) _) _) _) hb); have BK := Aside0.mk (blk_below (g := w.heap.size + 2) (by have h_ := blk_new ((w.alloc (.cells #[.int .i64 a0] 3 (0, 0))).alloc (.cells #[.slice A1 l1.length c1] 22 (0, 0))) (.cells #[.int .i64 0, .slice none 0 0] 28 (0, 0)); simpa using h_) hb); have HO := Aside0.mk (Kd.R_lower ho (show w.heap.size ≤ _ by simp; omega)); obtain ⟨Av, cv, rfl⟩ := Kd.R_slice ho; clear ho hb; have hcz0 : w2.cell? ⟨w.heap.size + 2, 0, none⟩ = some (.int .i64 0) := (blk_cell BK.out 0).trans rfl; have hcz1 : w2.cell? ⟨w.heap.size + 2, 1, none⟩ = some (.slice none 0 0) := (blk_cell BK.out 1).trans rfl; have hfz0 := blk_frozen BK.out 0; have hfz1 := blk_frozen BK.out 1)
  refine bodyPost_ret (results_cell_row rfl _ _ (w.heap.size + 2) 28 #[.int .i64 (l1.length : Int), .slice Av _ cv] (0, 0) _ rfl (blk_put (cs := #[.int .i64 (l1.length : Int), .slice none 0 0]) (blk_put (cs := #[.int .i64 0, .slice none 0 0]) BK.out 0 _ rfl) 1 _ rfl) Tryd.underlying28 rfl (by kernel_rfl)) rfl ?_
  exact ⟨_, rfl, Kd.R_mono (Kd.R_far (p := ⟨w.heap.size + 2, 1, none⟩) (Kd.R_far (p := ⟨w.heap.size + 2, 0, none⟩) (Kd.R_types HO.out BK.out (by decide)) (fun _ hk => hk.2) (.int .i64 (l1.length : Int))) (fun _ hk => hk.2) _) (fun _ _ => trivial), below_set (below_set HB.out (by omega)) (by omega)⟩

/-! ### slices_Equal_int_int: function 78 -/
def slices_Equal_int_int.l0 : Nat → List Int → List Int → Int → Int → Option (Bool)
  | 0, _, _, _, _ => none
  | k + 1, x0, x1, x12, x13 => if x13 < x12 then (if 0 ≤ x13 then (if x13 < (x0.length : Int) then (if x13 < (x1.length : Int) then (if (rd x0 x13) = (rd x1 x13) then (slices_Equal_int_int.l0 k x0 x1 x12 (wrap64 (x13 + 1))) else (some false)) else (none)) else (none)) else (none)) else (some true)
def slices_Equal_int_int.f (k : Nat) (l0 : List Int) (l1 : List Int) : Option (Bool) := if (l0.length : Int) = (l1.length : Int) then (slices_Equal_int_int.l0 k l0 l1 (l0.length : Int) 0) else (some false)
set_option maxHeartbeats 8000000 in
set_option maxRecDepth 100000 in
theorem slices_Equal_int_int.calls (k : Nat) (A0 : Option Addr) (c0 : Nat) (l0 : List Int) (A1 : Option Addr) (c1 : Nat) (l1 : List Int) (r : Bool) (w : World) (hr0 : Kd.C (Kd.int .i64) w A0 l0.length l0) (hc0 : l0.length ≤ c0) (hr1 : Kd.C (Kd.int .i64) w A1 l1.length l1) (hc1 : l1.length ≤ c1) (h : slices_Equal_int_int.f k l0 l1 = some r) :
    Calls Tryd.prog 78 #[.slice A0 l0.length c0, .slice A1 l1.length c1] w fun e w' => e = .returned (.bool r) ∧ Drawn0 w w' := by
  have HR0 := Aside0.mk hr0
  have HC0 := Aside0.mk hc0
  clear hr0 hc0
  have HR1 := Aside0.mk hr1
  have HC1 := Aside0.mk hc1
  clear hr1 hc1
  have H : (if (l0.length : Int) = (l1.length : Int) then (slices_Equal_int_int.l0 k l0 l1 (l0.length : Int) 0) else (some false)) = some r := h
  clear h
  by_cases c3 : (l0.length : Int) = (l1.length : Int)
  · rw [if_pos c3] at H
    have c3b0 : ((l0.length : Int) == (l1.length : Int)) = true := beq_iff_eq.mpr c3
    have c3b1 : ((l0.length : Int) != (l1.length : Int)) = false := bne_eq_false_iff_eq.mpr c3
    have c3b2 : (l0.length == l1.length) = true := by first | simpa using c3 | (simp at c3 ⊢; omega)
    clear c3
    have H' := Aside0.mk H
    clear H
    go_enter Tryd.func78, Tryd.ntmps78
    go_wp2
    repeat (go_quiet (fail); try go_wp2)
    go_loopg [13] k (fun kq v13 w' => ∃ (x13_1 : Int), v13 = .int .i64 x13_1 ∧ Aside0 (slices_Equal_int_int.l0 kq l0 l1 (l0.length : Int) x13_1 = some r) ∧ Aside0 (kq ≤ k) ∧ Drawn0 w w')
    case atStart => exact ⟨(0), (by first | rfl | (simp; done) | (simp [*]; done)), H', ⟨Nat.le_refl _⟩, by repeat (first | exact Drawn0.refl _ | apply Drawn0.step)⟩
    case round =>
      clear H'
      try clear c1
      try clear p2
      try clear c3
      try clear c3b0
      try clear c3b1
      try clear c3b2
      obtain ⟨x13_1, rfl, HA, HK1, ⟨m1, rfl⟩⟩ := hrel
      cases gk with
      | zero => exact absurd HA.out (by simp [slices_Equal_int_int.l0])
      | succ k1 =>
        have H := HA.out
        clear HA
        simp only [slices_Equal_int_int.l0] at H
        by_cases c4 : x13_1 < (l0.length : Int)
        · rw [if_pos c4] at H
          have c4b0 : decide (x13_1 < (l0.length : Int)) = true := decide_eq_true c4
          clear c4
          by_cases c5 : 0 ≤ x13_1
          · rw [if_pos c5] at H
            have c5b0 : decide (0 ≤ x13_1) = true := decide_eq_true c5
            clear c5
            by_cases c6 : x13_1 < (l0.length : Int)
            · rw [if_pos c6] at H
              have c6b0 : decide (x13_1 < (l0.length : Int)) = true := decide_eq_true c6
              clear c6
              by_cases c7 : x13_1 < (l1.length : Int)
              · rw [if_pos c7] at H
                have c7b0 : decide (x13_1 < (l1.length : Int)) = true := decide_eq_true c7
                clear c7
                by_cases c8 : (rd l0 x13_1) = (rd l1 x13_1)
                · rw [if_pos c8] at H
                  have c8b0 : ((rd l0 x13_1) == (rd l1 x13_1)) = true := beq_iff_eq.mpr c8
                  have c8b1 : ((rd l0 x13_1) != (rd l1 x13_1)) = false := bne_eq_false_iff_eq.mpr c8
                  clear c8
                  have H' := Aside0.mk H
                  clear H
                  have p435 : 0 ≤ (x13_1 : Int) := of_decide_eq_true (by first | (with_reducible assumption) | assumption)
                  have q435 : x13_1 < (l0.length : Int) := of_decide_eq_true (by first | (with_reducible assumption) | assumption)
                  obtain ⟨ad435, e435, hx435_0⟩ := Kd.at_int HR0.out x13_1 p435 q435
                  cases e435
                  replace p435 := eq_true p435
                  replace q435 := eq_true q435
                  have p436 : 0 ≤ (x13_1 : Int) := of_decide_eq_true (by first | (with_reducible assumption) | assumption)
                  have q436 : x13_1 < (l1.length : Int) := of_decide_eq_true (by first | (with_reducible assumption) | assumption)
                  obtain ⟨ad436, e436, hx436_0⟩ := Kd.at_int HR1.out x13_1 p436 q436
                  cases e436
                  replace p436 := eq_true p436
                  replace q436 := eq_true q436
                  go_wp2
                  repeat (go_quiet (fail); try go_wp2)
                  go_roundg k1
                  case measure => have := HK1.out; omega
                  case rel => exact ⟨(wrap64 (x13_1 + 1)), (by first | rfl | (simp; done) | (simp [*]; done)), H', ⟨by have := HK1.out; omega⟩, by repeat (first | exact Drawn0.refl _ | apply Drawn0.step)⟩
                · rw [if_neg c8] at H
                  have c8b0 : ((rd l0 x13_1) == (rd l1 x13_1)) = false := beq_eq_false_iff_ne.mpr c8
                  have c8b1 : ((rd l0 x13_1) != (rd l1 x13_1)) = true := bne_iff_ne.mpr c8
                  obtain rfl := Option.some.inj H
                  have p435 : 0 ≤ (x13_1 : Int) := of_decide_eq_true (by first | (with_reducible assumption) | assumption)
                  have q435 : x13_1 < (l0.length : Int) := of_decide_eq_true (by first | (with_reducible assumption) | assumption)
                  obtain ⟨ad435, e435, hx435_0⟩ := Kd.at_int HR0.out x13_1 p435 q435
                  cases e435
                  replace p435 := eq_true p435
                  replace q435 := eq_true q435
                  have p436 : 0 ≤ (x13_1 : Int) := of_decide_eq_true (by first | (with_reducible assumption) | assumption)
                  have q436 : x13_1 < (l1.length : Int) := of_decide_eq_true (by first | (with_reducible assumption) | assumption)
                  obtain ⟨ad436, e436, hx436_0⟩ := Kd.at_int HR1.out x13_1 p436 q436
                  cases e436
                  replace p436 := eq_true p436
                  replace q436 := eq_true q436
                  go_wp2
                  repeat (go_quiet (fail); try go_wp2)
                  go_ret
                  exact ⟨by first | rfl | (simp; done) | (simp [*]; done), by repeat (first | exact Drawn0.refl _ | apply Drawn0.step)⟩
              · rw [if_neg c7] at H
                exact absurd H (by simp)
            · rw [if_neg c6] at H
              exact absurd H (by simp)
          · rw [if_neg c5] at H
            exact absurd H (by simp)
        · rw [if_neg c4] at H
          have c4b0 : decide (x13_1 < (l0.length : Int)) = false := decide_eq_false c4
          clear c4
          obtain rfl := Option.some.inj H
          go_wp2
          repeat (go_quiet (fail); try go_wp2)
          go_ret
          exact ⟨by first | rfl | (simp; done) | (simp [*]; done), by repeat (first | exact Drawn0.refl _ | apply Drawn0.step)⟩
  · rw [if_neg c3] at H
    have c3b0 : ((l0.length : Int) == (l1.length : Int)) = false := beq_eq_false_iff_ne.mpr c3
    have c3b1 : ((l0.length : Int) != (l1.length : Int)) = true := bne_iff_ne.mpr c3
    have c3b2 : (l0.length == l1.length) = false := by first | simpa using c3 | (simp at c3 ⊢; omega)
    obtain rfl := Option.some.inj H
    go_enter Tryd.func78, Tryd.ntmps78
    go_wp2
    repeat (go_quiet (fail); try go_wp2)
    go_ret
    exact ⟨by first | rfl | (simp; done) | (simp [*]; done), by repeat (first | exact Drawn0.refl _ | apply Drawn0.step)⟩

end Go.Proofs.YtbodhioladafnaaDoor.P
