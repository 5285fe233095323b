-- Written by wip/myprint.py of this session (a driver of the kit's print); Lean checks it.
import Derived.Test.YthmhgclnlfdinaaDoorPx0
import Derived.Test.YthmhgclnlfdinaaDoorPx11
namespace Go.Proofs.YthmhgclnlfdinaaDoor.P
open Go.RowKit Go.Proofs.YthmhgclnlfdinaaDoorW.PrintWords Go.Proofs.YthmhgclnlfdinaaDoorW.PrintLast Go.Proofs.YthmhgclnlfdinaaDoorW.PrintMore
attribute [local go_sem] max2_int min2_int max_two min_two max_three min_three max_four min_four   -- for this text's walks alone
set_option linter.unusedVariables false
set_option linter.unusedSimpArgs false

/-! ### impl_placed: function 89 -/
set_option maxHeartbeats 1000000 in
theorem impl_placed.lit (g0 g1 : Nat) (a0 : Int) (A1 : Option Addr) (c1 : Nat) (l1 : List Int) (i j : Nat) (W : World) (hg0 : W.heap[g0]? = some (.cells #[.int .i64 a0] 3 (0, 0))) (hg1 : W.heap[g1]? = some (.cells #[.slice A1 l1.length c1] 22 (0, 0)))
    (hr : Kd.C (Kd.int .i64) W A1 l1.length l1) (hi : i < l1.length) (hj : j < l1.length) (hi0 : 0 ≤ rd l1 i ∧ rd l1 i ≤ 1000) (hj0 : 0 ≤ rd l1 j ∧ rd l1 j ≤ 1000) :
    Calls Tryd.prog 96 #[.int .i64 (i : Int), .int .i64 (j : Int), .pointer (some ⟨g1, 0, none⟩), .pointer (some ⟨g0, 0, none⟩)] W fun e W' => e = .returned (.bool (decide (a0 ≤ rd l1 (j : Int) - rd l1 (i : Int)))) ∧ Below W.heap.size W W' := by
  have hc0 : W.cell? ⟨g0, 0, none⟩ = some (.int .i64 a0) := (blk_cell hg0 0).trans rfl
  have hc1 : W.cell? ⟨g1, 0, none⟩ = some (.slice A1 l1.length c1) := (blk_cell hg1 0).trans rfl
  obtain ⟨ad, rfl, hx⟩ := Kd.at_int hr (j : Int) (by omega) (by omega)
  obtain ⟨ad2, e2, hy⟩ := Kd.at_int hr (i : Int) (by omega) (by omega)
  cases e2
  rw [Int.toNat_natCast] at hy
  obtain ⟨i1, i2⟩ := hi0
  obtain ⟨j1, j2⟩ := hj0
  have hsub : IntKind.i64.wrap (rd l1 (j : Int) - rd l1 (i : Int)) = rd l1 (j : Int) - rd l1 (i : Int) := L.i64w (by omega) (by omega)
  have HS := Aside0.mk hsub
  rw [Int.toNat_natCast] at hx
  have p1 : (0 ≤ (j : Int)) = True := eq_true (by omega)
  have q1 : ((j : Int) < (l1.length : Int)) = True := eq_true (by omega)
  have p2 : (0 ≤ (i : Int)) = True := eq_true (by omega)
  have q2 : ((i : Int) < (l1.length : Int)) = True := eq_true (by omega)
  clear hg0 hg1 hr hj hi hsub
  go_enter Tryd.func96, Tryd.ntmps96
  go_wp2
  go_quiet (fail)
  go_wp2
  go_ret
  exact ⟨by rfl, pw_below_drewN (Below.refl _ _) _⟩
/-- a row of bits of any length, as the machine's words hold it. -/
def impl_placed.bigRow (f : Nat → Bool) : Nat → Int
  | 0 => 0
  | j + 1 => if f j then Go.bits .or .i64 (impl_placed.bigRow f j) (shl .i64 1 (j : Int)) else impl_placed.bigRow f j
def impl_placed.bigL (n : Nat) (is : Nat → Nat → Bool) : List Int := (List.range n).map fun i => impl_placed.bigRow (is i) n
theorem impl_placed.bigL_length (n : Nat) (is : Nat → Nat → Bool) : (impl_placed.bigL n is).length = n := by simp [impl_placed.bigL]
theorem impl_placed.bigRow_small (f : Nat → Bool) : ∀ j, j ≤ 61 → impl_placed.bigRow f j = ((L.relRow f j : Nat) : Int)
  | 0, _ => rfl
  | j + 1, h => by
    have ih := impl_placed.bigRow_small f j (by omega)
    have hlt : L.relRow f j < 2 ^ 62 := Nat.lt_of_lt_of_le (L.relRow_lt _ j) (Nat.pow_le_pow_right (by decide) (by omega))
    have hp : (2 : Nat) ^ j < 2 ^ 62 := Nat.pow_lt_pow_right (by decide) (by omega)
    unfold impl_placed.bigRow L.relRow
    rw [ih, L.shl_one (by omega), L.or_nat hlt hp]
    cases f j <;> rfl
theorem impl_placed.bigL_small {n : Nat} (h : n ≤ 61) (is : Nat → Nat → Bool) : impl_placed.bigL n is = L.relL n is := by
  unfold impl_placed.bigL L.relL L.cast L.relN
  rw [List.map_map]
  exact List.map_congr_left fun i _ => impl_placed.bigRow_small (is i) n h
section
variable (F : Int → Int → Option Bool) (is : Nat → Nat → Bool) (n : Nat)
theorem impl_placed.row (hn : n ≤ 1048576) (hF : ∀ i j : Nat, i < n → j < n → F (i : Int) (j : Int) = some (is i j)) (i : Nat) (hi : i < n) (R : List Int) (hR : R.length = n) (r : Int × List Int)
    (hr : Ev (fun k => impl_relation.l0 F k (n : Int) (n : Int) ((i + 1 : Nat) : Int) (n : Int) (R.set i (impl_placed.bigRow (is i) n))) r) (d : Nat) :
    ∀ j : Nat, j + d = n → Ev (fun k => impl_relation.l1 F k (n : Int) (i : Int) (n : Int) (i : Int) (n : Int) (j : Int) (n : Int) (R.set i (impl_placed.bigRow (is i) j))) r := by
  induction d with
  | zero =>
    intro j hj
    obtain rfl : j = n := by omega
    refine Ev.step (fun k => ?_) hr
    simp only [impl_relation.l1]
    rw [if_neg (by omega), L.w64n (by omega)]
  | succ d ih =>
    intro j hj
    refine Ev.step (fun k => ?_) (ih (j + 1) (by omega))
    simp only [impl_relation.l1]
    rw [if_pos (by omega), hF i j hi (by omega), L.w64n (by omega)]
    simp only [Option.bind_some]
    cases hb : is i j with
    | true =>
      rw [if_pos rfl, if_pos (by omega), if_pos (by rw [List.length_set]; omega), if_pos (by omega), L.rd_set _ (by omega), Int.toNat_natCast, List.set_set]
      simp only [impl_placed.bigRow]
      rw [if_pos hb]
    | false =>
      rw [if_neg (by simp)]
      simp only [impl_placed.bigRow]
      rw [if_neg (by simp [hb])]
theorem impl_placed.rows (hn : n ≤ 1048576) (hF : ∀ i j : Nat, i < n → j < n → F (i : Int) (j : Int) = some (is i j)) (d : Nat) :
    ∀ i : Nat, i + d = n → Ev (fun k => impl_relation.l0 F k (n : Int) (n : Int) (i : Int) (n : Int) ((List.range n).map fun a => if a < i then impl_placed.bigRow (is a) n else 0)) ((n : Int), impl_placed.bigL n is) := by
  induction d with
  | zero =>
    intro i hi
    obtain rfl : i = n := by omega
    refine Ev.step (f := fun _ => some ((i : Int), impl_placed.bigL i is)) (fun k => ?_) (Ev.now _)
    simp only [impl_relation.l0]
    rw [if_neg (by omega)]
    have e : ((List.range i).map fun a => if a < i then impl_placed.bigRow (is a) i else 0) = impl_placed.bigL i is := List.map_congr_left fun a ha => if_pos (List.mem_range.1 ha)
    rw [e]
  | succ d ih =>
    intro i hi
    have h := ih (i + 1) (by omega)
    have e0 : ((List.range n).map fun a => if a < i then impl_placed.bigRow (is a) n else 0).set i (impl_placed.bigRow (is i) 0) = ((List.range n).map fun a => if a < i then impl_placed.bigRow (is a) n else 0) := by
      refine List.ext_getElem? fun a => ?_
      rw [List.getElem?_set]
      by_cases ha : i = a
      · subst ha; simp [impl_placed.bigRow, show i < n by omega]
      · rw [if_neg ha]
    have e1 : ((List.range n).map fun a => if a < i then impl_placed.bigRow (is a) n else 0).set i (impl_placed.bigRow (is i) n) = ((List.range n).map fun a => if a < i + 1 then impl_placed.bigRow (is a) n else 0) := by
      refine List.ext_getElem? fun a => ?_
      rw [List.getElem?_set]
      by_cases ha : i = a
      · subst ha; simp [show i < n by omega]
      · rw [if_neg ha]
        by_cases hn : a < n
        · simp only [List.getElem?_map, List.getElem?_range hn, Option.map_some]
          by_cases hl : a < i
          · rw [if_pos hl, if_pos (by omega)]
          · rw [if_neg hl, if_neg (by omega)]
        · simp [hn]
    rw [← e1] at h
    have := impl_placed.row F is n hn hF i (by omega) _ (by simp) _ h n 0 (by omega)
    rw [e0] at this
    refine Ev.step (fun k => ?_) this
    simp only [impl_relation.l0]
    rw [if_pos (by omega)]; rfl
theorem impl_placed.all (hn : n ≤ 1048576) (hF : ∀ i j : Nat, i < n → j < n → F (i : Int) (j : Int) = some (is i j)) : Ev (fun k => impl_relation.f F k (n : Int)) ((n : Int), impl_placed.bigL n is) := by
  refine Ev.congr (fun k => ?_) (impl_placed.rows F is n hn hF n 0 (by omega))
  unfold impl_relation.f
  rw [if_pos (by omega), if_pos (by omega)]
  have e : ((List.range n).map fun a => if a < 0 then impl_placed.bigRow (is a) n else 0) = List.replicate ((n : Int) : Int).toNat 0 := by
    refine List.ext_getElem? fun a => ?_
    by_cases hn : a < n
    · simp [hn]
    · simp [hn]
  rw [e]; rfl
end
/-- relation, called with a function value that tells 'is', for rows of any length. -/
theorem impl_placed.does (g : FuncId) (caps : Array Value) (n : Nat) (hn : n ≤ 1048576) (is : Nat → Nat → Bool) (w : World) (hE : ∀ args W, (callFunc g args).run Tryd.prog W = .ok (.enter g args) W)
    (hf : ∀ (i j : Nat) W, i < n → j < n → Below w.heap.size w W → Calls Tryd.prog g (#[.int .i64 (i : Int), .int .i64 (j : Int)] ++ caps) W fun e W' => e = .returned (.bool (is i j)) ∧ Below W.heap.size W W') :
    Calls Tryd.prog 70 #[.int .i64 (n : Int), .func (.func g) #[] caps] w fun e w' => ∃ v1_ : Value, e = .returned (.agg #[.int .i64 (n : Int), v1_]) ∧ Kd.R (Kd.int .i64) 3 w' w.heap.size (fun _ => True) v1_ (impl_placed.bigL n is) ∧ Below w.heap.size w w' := by
  have hall := impl_placed.all (fun i j => if 0 ≤ i ∧ i < n ∧ 0 ≤ j ∧ j < n then some (is i.toNat j.toNat) else none) is n hn (fun i j hi hj => by
    rw [if_pos (by omega)]; rfl)
  obtain ⟨k, h⟩ := hall.rounds
  refine impl_relation.calls k n _ g caps n (impl_placed.bigL n is) w hE (fun i j r W hb hr => ?_) h
  by_cases hc : 0 ≤ i ∧ i < n ∧ 0 ≤ j ∧ j < n
  · rw [if_pos hc] at hr
    obtain rfl := Option.some.inj hr
    obtain ⟨i, rfl⟩ := Int.eq_ofNat_of_zero_le hc.1
    obtain ⟨j, rfl⟩ := Int.eq_ofNat_of_zero_le hc.2.2.1
    exact hf i j W (by omega) (by omega) hb
  · rw [if_neg hc] at hr; cases hr
def impl_placed.f (a0 : Int) (l1 : List Int) : Option (Int × List Int) := if l1.length ≤ 1048576 ∧ ∀ x ∈ l1, 0 ≤ x ∧ x ≤ 1000 then some ((l1.length : Int), impl_placed.bigL l1.length fun i j => decide (a0 ≤ rd l1 (j : Int) - rd l1 (i : Int))) else none
set_option maxHeartbeats 1000000 in
theorem impl_placed.calls (a0 : Int) (A1 : Option Addr) (c1 : Nat) (l1 : List Int) (r1 : Int) (r2 : List Int) (w : World) (hr1 : Kd.C (Kd.int .i64) w A1 l1.length l1) (hc1 : l1.length ≤ c1) (h : impl_placed.f a0 l1 = some (r1, r2)) :
    Calls Tryd.prog 89 #[.int .i64 a0, .slice A1 l1.length c1] w fun e w' => ∃ v1_ : Value, e = .returned (.agg #[.int .i64 r1, v1_]) ∧ Kd.R (Kd.int .i64) 3 w' w.heap.size (fun _ => True) v1_ r2 ∧ Below w.heap.size w w' := by
  unfold impl_placed.f at h
  by_cases ok : l1.length ≤ 1048576 ∧ ∀ x ∈ l1, 0 ≤ x ∧ x ≤ 1000
  case neg => rw [if_neg ok] at h; cases h
  rw [if_pos ok] at h
  simp only [Option.some.injEq, Prod.mk.injEq] at h
  obtain ⟨rfl, rfl⟩ := h
  have hu := Tryd.underlying27
  have hmf : ∀ (fn : Fn) (first cap : Array Value) (W : World), (Instr.makeFunc fn first cap).run Tryd.prog W = .ok (.func fn first cap) W := fun _ _ _ _ => rfl
  have C := fun (W : World) (g0 g1 : Nat) (hW : Below w.heap.size w W) (hg0 : W.heap[g0]? = some (.cells #[.int .i64 a0] 3 (0, 0))) (hg1 : W.heap[g1]? = some (.cells #[.slice A1 l1.length c1] 22 (0, 0))) =>
    impl_placed.does 96 #[.pointer (some ⟨g1, 0, none⟩), .pointer (some ⟨g0, 0, none⟩)] l1.length (by omega) (fun i j => decide (a0 ≤ rd l1 (j : Int) - rd l1 (i : Int))) W (enters_ Tryd.func96 (by kernel_rfl) rfl)
      (fun i j W2 hi hj hb => impl_placed.lit g0 g1 a0 A1 c1 l1 i j W2 (blk_below hg0 hb) (blk_below hg1 hb) (Kd.C_below hr1 (below_step hW hb)) hi hj (by rw [L.rd_get hi]; exact ok.2 _ (List.getElem_mem hi)) (by rw [L.rd_get hj]; exact ok.2 _ (List.getElem_mem hj)))
  have CH := Aside0.mk (fun (W : World) (hW : Below w.heap.size w W) (hg0 : W.heap[w.heap.size]? = some (.cells #[.int .i64 a0] 3 (0, 0))) (hg1 : W.heap[w.heap.size + 1]? = some (.cells #[.slice A1 l1.length c1] 22 (0, 0))) => C W w.heap.size (w.heap.size + 1) hW hg0 hg1)
  clear C hr1 hc1 ok
  go_enter Tryd.func89, Tryd.ntmps89
  go_wp2_with (go_at_call 70; refine (CH.out _ (below_alloc (below_alloc (below_alloc (Below.refl _ _) _) _) _) (blk_alloc (blk_alloc (blk_new _ _) _) _) (blk_alloc (by have h_ := blk_new (w.alloc (.cells #[.int .i64 a0] 3 (0, 0))) (.cells #[.slice A1 l1.length c1] 22 (0, 0)); simpa using h_) _)).mono ?_; rintro e w2 ⟨v, rfl, ho, hb⟩; have HB := Aside0.mk (below_step (below_alloc (below_alloc (below_alloc (Below.refl _ w) _) _) _) hb); have BK := Aside0.mk (blk_below (g := w.heap.size + 2) (by have h_ := blk_new ((w.alloc (.cells #[.int .i64 a0] 3 (0, 0))).alloc (.cells #[.slice A1 l1.length c1] 22 (0, 0))) (.cells #[.int .i64 0, .slice none 0 0] 27 (0, 0)); simpa using h_) hb); have HO := Aside0.mk (Kd.R_lower ho (show w.heap.size ≤ _ by simp; omega)); obtain ⟨Av, cv, rfl⟩ := Kd.R_slice ho; clear ho hb; have hcz0 : w2.cell? ⟨w.heap.size + 2, 0, none⟩ = some (.int .i64 0) := (blk_cell BK.out 0).trans rfl; have hcz1 : w2.cell? ⟨w.heap.size + 2, 1, none⟩ = some (.slice none 0 0) := (blk_cell BK.out 1).trans rfl; have hfz0 := blk_frozen BK.out 0; have hfz1 := blk_frozen BK.out 1)
  refine bodyPost_ret (results_cell_row rfl _ _ (w.heap.size + 2) 27 #[.int .i64 (l1.length : Int), .slice Av _ cv] (0, 0) _ rfl (blk_put (cs := #[.int .i64 (l1.length : Int), .slice none 0 0]) (blk_put (cs := #[.int .i64 0, .slice none 0 0]) BK.out 0 _ rfl) 1 _ rfl) Tryd.underlying27 rfl (by kernel_rfl)) rfl ?_
  exact ⟨_, rfl, Kd.R_mono (Kd.R_far (p := ⟨w.heap.size + 2, 1, none⟩) (Kd.R_far (p := ⟨w.heap.size + 2, 0, none⟩) (Kd.R_types HO.out BK.out (by decide)) (fun _ hk => hk.2) (.int .i64 (l1.length : Int))) (fun _ hk => hk.2) _) (fun _ _ => trivial), below_set (below_set HB.out (by omega)) (by omega)⟩

end Go.Proofs.YthmhgclnlfdinaaDoor.P
