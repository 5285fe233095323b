-- Written by wip/myprint.py of this session (a driver of the kit's print); Lean checks it.
import Derived.Test.YtjbloapoaphgjaaDoorPx0
import Derived.Test.YtjbloapoaphgjaaDoorPx25
namespace Go.Proofs.YtjbloapoaphgjaaDoor.P
open Go.RowKit Go.Proofs.YtjbloapoaphgjaaDoorW.PrintWords Go.Proofs.YtjbloapoaphgjaaDoorW.PrintLast Go.Proofs.YtjbloapoaphgjaaDoorW.PrintMore
attribute [local go_sem] max2_int min2_int max_two min_two max_three min_three max_four min_four   -- for this text's walks alone
set_option linter.unusedVariables false
set_option linter.unusedSimpArgs false

/-! ### impl_ChainNumbers_1: function 61 -/
mutual
def impl_ChainNumbers_1.l0 : Nat → List Int → Int → Int → Int → Int → List Int → Int → List Int → Int → Option (List Int)
  | 0, _, _, _, _, _, _, _, _, _ => none
  | k + 1, x0, x7, x20, x21, x375000, x375001, x376000, x377000, x378000 => if x21 < x20 then (impl_ChainNumbers_1.l1 k x0 x7 x21 true x20 x21 x0 (x0.length : Int) 0 x375000 x375001 x376000 x377000 x378000) else (some ([] : List Int))
def impl_ChainNumbers_1.l1 : Nat → List Int → Int → Int → Bool → Int → Int → List Int → Int → Int → Int → List Int → Int → List Int → Int → Option (List Int)
  | 0, _, _, _, _, _, _, _, _, _, _, _, _, _, _ => none
  | k + 1, x0, x7, x8, x9, x20, x21, x24, x25, x26, x375000, x375001, x376000, x377000, x378000 => if x26 < x25 then (if 0 ≤ x26 then (if x26 < (x24.length : Int) then (if x9 = true then (if (rd x24 x26) = x8 then (if 0 ≤ x7 then (if x7 < (x377000.length : Int) then (impl_ChainNumbers_1.l1 k x0 x7 x8 ((Go.bits .and .i64 (shr .i64 (rd x377000 x7) x26) 1) == 0) x20 x21 x24 x25 (wrap64 (x26 + 1)) x375000 x375001 x376000 x377000 x378000) else (none)) else (none)) else (impl_ChainNumbers_1.l1 k x0 x7 x8 true x20 x21 x24 x25 (wrap64 (x26 + 1)) x375000 x375001 x376000 x377000 x378000)) else (impl_ChainNumbers_1.l1 k x0 x7 x8 false x20 x21 x24 x25 (wrap64 (x26 + 1)) x375000 x375001 x376000 x377000 x378000)) else (none)) else (none)) else (if x9 = true then ((slices_Clone_int_int.f x0).bind fun t380 => ((some (([x8] : List Int) : List Int)).bind fun y383 => (if t380.length + y383.length < 17592186044416 then ((some (t380 ++ y383 : List Int)).bind fun y386 => ((impl_ChainNumbers_1.f k y386 x375000 x375001 x376000 x377000 x378000).bind fun t389 => (if (!(t389.isEmpty && !((y386.length : Int) == x375000))) = true then (some t389) else (impl_ChainNumbers_1.l0 k x0 x7 x20 (wrap64 (x21 + 1)) x375000 x375001 x376000 x377000 x378000)))) else (none)))) else (impl_ChainNumbers_1.l0 k x0 x7 x20 (wrap64 (x21 + 1)) x375000 x375001 x376000 x377000 x378000))
def impl_ChainNumbers_1.f : Nat → List Int → Int → List Int → Int → List Int → Int → Option (List Int)
  | 0, _, _, _, _, _, _ => none
  | k + 1, l0, a1_0, l1_1, a2_0, l3_0, a4_0 => if (l0.length : Int) = a1_0 then (some l0) else (impl_ChainNumbers_1.l0 k l0 (l0.length : Int) a2_0 0 a1_0 l1_1 a2_0 l3_0 a4_0)
end
def impl_ChainNumbers_1.T14 : Bool × List (List Nat × List Nat) := (true, [([], []), ([], []), ([1], [1]), ([], []), ([3], [3]), ([2, 4, 2], [2, 4]), ([0, 5, 5], [0, 5]), ([6, 6, 0, 1, 2, 3, 4, 5, 6], [6])])
def impl_ChainNumbers_1.B14 : List Nat := [0, 0, 2, 0, 8, 30, 63, 127]
theorem impl_ChainNumbers_1.tab14 : rtab .any (opsOf Tryd.f61 14) = impl_ChainNumbers_1.T14 := by kernel_rfl
theorem impl_ChainNumbers_1.bits14 : waitsOk impl_ChainNumbers_1.T14.2 impl_ChainNumbers_1.B14 = true := by kernel_rfl
theorem impl_ChainNumbers_1.ne {k : Nat} {l0 : List Int} {a1_0 : Int} {l1_1 : List Int} {a2_0 : Int} {l3_0 : List Int} {a4_0 : Int} {r : List Int} (h : impl_ChainNumbers_1.f k l0 a1_0 l1_1 a2_0 l3_0 a4_0 = some r) (hne : l0 ≠ []) (hq : (!(r.isEmpty && !((l0.length : Int) == a1_0))) = true) : r ≠ [] := by
  rintro rfl
  cases k with
  | zero => simp [impl_ChainNumbers_1.f] at h
  | succ k =>
    by_cases hc : (l0.length : Int) = a1_0
    · simp only [impl_ChainNumbers_1.f] at h
      rw [if_pos hc] at h
      exact hne (Option.some.inj h)
    · simp [hc] at hq
set_option maxHeartbeats 8000000 in
set_option maxRecDepth 100000 in
theorem impl_ChainNumbers_1.calls (k : Nat) : ∀ (P0_ : Nat → Prop) (u9000_ : Value) (l0 : List Int) (a1_0 : Int) (A1_1 : Option Addr) (c1_1 : Nat) (l1_1 : List Int) (a2_0 : Int) (A3_0 : Option Addr) (c3_0 : Nat) (l3_0 : List Int) (a4_0 : Int) (r : List Int) (w0 w : World) (hB : Below w0.heap.size w0 w) (ho0 : Kd.R (Kd.int .i64) 3 w w0.heap.size P0_ u9000_ l0) (hr1_1 : ∀ W_, Kept w W_ (fun k_ => P0_ k_) → Kd.C (Kd.int .i64) W_ A1_1 l1_1.length l1_1) (hc1_1 : l1_1.length ≤ c1_1) (hr3_0 : ∀ W_, Kept w W_ (fun k_ => P0_ k_) → Kd.C (Kd.int .i64) W_ A3_0 l3_0.length l3_0) (hc3_0 : l3_0.length ≤ c3_0) (gb374 : Nat) (hg374_ : w.heap[gb374]? = some (.cells #[.int .i64 a1_0, .slice A1_1 l1_1.length c1_1] 26 (0, 0))) (gb375 : Nat) (hg375_ : w.heap[gb375]? = some (.cells #[.int .i64 a2_0] 3 (0, 0))) (gb376 : Nat) (hg376_ : w.heap[gb376]? = some (.cells #[.slice A3_0 l3_0.length c3_0] 22 (0, 0))) (gb377 : Nat) (hg377_ : w.heap[gb377]? = some (.cells #[.func (.func 61) #[] #[.pointer (some ⟨gb374, 0, none⟩), .pointer (some ⟨gb375, 0, none⟩), .pointer (some ⟨gb376, 0, none⟩), .pointer (some ⟨gb377, 0, none⟩)]] 30 (0, 0))) (hp_ : ¬ P0_ gb375) (hbk_ : L.Blk u9000_) (h : impl_ChainNumbers_1.f k l0 a1_0 l1_1 a2_0 l3_0 a4_0 = some r),
    Calls Tryd.prog 61 #[u9000_, .pointer (some ⟨gb374, 0, none⟩), .pointer (some ⟨gb375, 0, none⟩), .pointer (some ⟨gb376, 0, none⟩), .pointer (some ⟨gb377, 0, none⟩)] w fun e w' => ∃ v0_ : Value, e = .returned (v0_) ∧ Kd.R (Kd.int .i64) 3 w' w0.heap.size (fun k_ => (P0_ k_ ∨ w.heap.size ≤ k_)) v0_ r ∧ L.NilIs v0_ (r.isEmpty && !((l0.length : Int) == a1_0)) ∧ Below w0.heap.size w0 w' ∧ Kept w w' (fun k_ => P0_ k_) := by
  induction k using Nat.strongRecOn with
  | _ k ih =>
  intro P0_ u9000_ l0 a1_0 A1_1 c1_1 l1_1 a2_0 A3_0 c3_0 l3_0 a4_0 r w0 w hB ho0 hr1_1 hc1_1 hr3_0 hc3_0 gb374 hg374_ gb375 hg375_ gb376 hg376_ gb377 hg377_ hp_ hbk_ h
  cases k with
  | zero => exact absurd h (by simp [impl_ChainNumbers_1.f])
  | succ k =>
  simp only [impl_ChainNumbers_1.f] at h
  have hu26 := Tryd.underlying26
  have HO0 := Aside0.mk (show Kd.R (Kd.int .i64) 3 w w0.heap.size (fun k_ => (P0_ k_ ∨ w.heap.size ≤ k_)) u9000_ l0 from Kd.R_mono ho0 (fun k_ hk => (.inl hk)))
  have HR1_1 := Aside0.mk hr1_1
  have HC1_1 := Aside0.mk hc1_1
  clear hr1_1 hc1_1
  have HR3_0 := Aside0.mk hr3_0
  have HC3_0 := Aside0.mk hc3_0
  clear hr3_0 hc3_0
  have HK := Aside0.mk (Kept.refl w (fun k_ => P0_ k_))
  have HW0 := Aside0.mk hB.size
  have HEV := Aside0.mk (enters_ Tryd.func61 (by kernel_rfl) rfl)
  have hmf : ∀ (fn : Fn) (first cap : Array Value) (W : World), (Instr.makeFunc fn first cap).run Tryd.prog W = .ok (.func fn first cap) W := fun _ _ _ _ => rfl
  have hsf : ∀ (ad : Addr) (fn : Fn) (first cap : Array Value) (m : Mode) (W : World), (Go.store ad (.func fn first cap) m).run Tryd.prog W = stored Tryd.prog W ad (.func fn first cap) m := fun ad fn first cap m W => run_store Tryd.prog W ad (.func fn first cap) m rfl
  have HB := Aside0.mk hB
  have HBK := Aside0.mk hbk_
  clear hbk_
  have NB374_375 : Aside0 (gb374 ≠ gb375) := Aside0.mk (fun e_ => by rw [e_, hg375_] at hg374_; simp at hg374_)
  have NB375_374 : Aside0 (gb375 ≠ gb374) := Aside0.mk (fun e_ => NB374_375.out e_.symm)
  have NB374_376 : Aside0 (gb374 ≠ gb376) := Aside0.mk (fun e_ => by rw [e_, hg376_] at hg374_; simp at hg374_)
  have NB376_374 : Aside0 (gb376 ≠ gb374) := Aside0.mk (fun e_ => NB374_376.out e_.symm)
  have NB374_377 : Aside0 (gb374 ≠ gb377) := Aside0.mk (fun e_ => by rw [e_, hg377_] at hg374_; simp at hg374_)
  have NB377_374 : Aside0 (gb377 ≠ gb374) := Aside0.mk (fun e_ => NB374_377.out e_.symm)
  have NB375_376 : Aside0 (gb375 ≠ gb376) := Aside0.mk (fun e_ => by rw [e_, hg376_] at hg375_; simp at hg375_)
  have NB376_375 : Aside0 (gb376 ≠ gb375) := Aside0.mk (fun e_ => NB375_376.out e_.symm)
  have NB375_377 : Aside0 (gb375 ≠ gb377) := Aside0.mk (fun e_ => by rw [e_, hg377_] at hg375_; simp at hg375_)
  have NB377_375 : Aside0 (gb377 ≠ gb375) := Aside0.mk (fun e_ => NB375_377.out e_.symm)
  have NB376_377 : Aside0 (gb376 ≠ gb377) := Aside0.mk (fun e_ => by rw [e_, hg377_] at hg376_; simp at hg376_)
  have NB377_376 : Aside0 (gb377 ≠ gb376) := Aside0.mk (fun e_ => NB376_377.out e_.symm)
  have hcq374 : w.cell? ⟨gb374, 0, none⟩ = some (.int .i64 a1_0) := (blk_cell hg374_ 0).trans rfl
  have hcq374_1 : w.cell? ⟨gb374, 1, none⟩ = some (.slice A1_1 l1_1.length c1_1) := (blk_cell hg374_ 1).trans rfl
  have BK374 := Aside0.mk hg374_
  clear hg374_
  have hcq375 : w.cell? ⟨gb375, 0, none⟩ = some (.int .i64 a2_0) := (blk_cell hg375_ 0).trans rfl
  have BK375 := Aside0.mk hg375_
  have NE375 := Aside0.mk (fun k_ (h_ : P0_ k_ ∨ w.heap.size ≤ k_) (e_ : k_ = gb375) => h_.elim (fun p_ => hp_ (e_ ▸ p_)) (fun q_ => Nat.not_le.2 (blk_lt BK375.out) (e_ ▸ q_)))
  clear hp_
  clear hg375_
  have hcq376 : w.cell? ⟨gb376, 0, none⟩ = some (.slice A3_0 l3_0.length c3_0) := (blk_cell hg376_ 0).trans rfl
  have BK376 := Aside0.mk hg376_
  clear hg376_
  have hcq377 : w.cell? ⟨gb377, 0, none⟩ = some (.func (.func 61) #[] #[.pointer (some ⟨gb374, 0, none⟩), .pointer (some ⟨gb375, 0, none⟩), .pointer (some ⟨gb376, 0, none⟩), .pointer (some ⟨gb377, 0, none⟩)]) := (blk_cell hg377_ 0).trans rfl
  have BK377 := Aside0.mk hg377_
  clear hg377_
  clear hB
  have H : (if (l0.length : Int) = a1_0 then (some l0) else (impl_ChainNumbers_1.l0 k l0 (l0.length : Int) a2_0 0 a1_0 l1_1 a2_0 l3_0 a4_0)) = some r := h
  clear h
  by_cases c6 : (l0.length : Int) = a1_0
  · rw [if_pos c6] at H
    have c6b0 : ((l0.length : Int) == a1_0) = true := beq_iff_eq.mpr c6
    have HC5 := Aside0.mk c6b0
    have c6b1 : ((l0.length : Int) != a1_0) = false := bne_eq_false_iff_eq.mpr c6
    clear c6
    obtain rfl := Option.some.inj H
    go_enter Tryd.func61, Tryd.ntmps61
    obtain ⟨Ao11, co11, eo11⟩ := Kd.R_slice HO0.out
    (first | subst eo11 | (injection eo11 with f1_ f2_ f3_; have f4_ := f1_.symm; have f5_ := f3_.symm; clear f1_ f2_ f3_; subst f4_; subst f5_))
    go_wp2_with (first | ((with_reducible refine gate_dst (N := 1) rfl ?_); refine box_event ?hg (N := 1) ?hd (cs := #[.int .i64 a1_0, .slice A1_1 l1_1.length c1_1]) (t := 26) ?hr ?_; (case hd => rfl); (case hg => rfl); (case hr => first | (go_simp; done) | (go_simp; rfl)); intro gb374 hg w hbox hb; have n0_ := Aside0.mk (Kd.R_below (by (with_reducible repeat (first | apply Kd.R_alloc | apply Kd.R_drewN | apply Kd.R_drew)); exact HO0.out) hb); have n1_ := Aside0.mk (Kept.below (S := (fun k_ => P0_ k_)) (by repeat (first | (with_reducible first | exact HK.out | apply Kept.alloc | apply Kept.drewN | apply Kept.drew) | exact HK.out)) hb); have n2_ := Aside0.mk (below_step (by repeat (first | (with_reducible first | exact HB.out | apply below_alloc | apply pw_below_drewN | apply below_drew1) | exact HB.out)) hb); have n3_ := Aside0.mk (hbox); have n4_ := Aside0.mk ((by rw [hg]; exact (by first | exact HK.out.1 | exact (show Kept w _ (fun k_ => P0_ k_) from by repeat (first | (with_reducible first | exact HK.out | apply Kept.alloc | apply Kept.drewN | apply Kept.drew) | exact HK.out)).1) : w.heap.size ≤ gb374)); have n5_ := Aside0.mk ((by rw [hg]; exact (below_size (by repeat (first | (with_reducible first | exact HB.out | apply below_alloc | apply pw_below_drewN | apply below_drew1) | exact HB.out))) : w0.heap.size ≤ gb374)); clear HO0; clear HK; clear HB; have HO0 := n0_; have HK := n1_; have HB := n2_; have BK374 := n3_; have GW374 := n4_; have GE374 := n5_; clear n0_ n1_ n2_ n3_ n4_ n5_; clear hb hbox hg) | ((with_reducible refine gate_dst (N := 2) rfl ?_); refine box_event ?hg (N := 2) ?hd (cs := #[.int .i64 a2_0]) (t := 3) ?hr ?_; (case hd => rfl); (case hg => rfl); (case hr => first | (go_simp; done) | (go_simp; rfl)); intro gb375 hg w hbox hb; have n0_ := Aside0.mk (Kd.R_below (by (with_reducible repeat (first | apply Kd.R_alloc | apply Kd.R_drewN | apply Kd.R_drew)); exact HO0.out) hb); have n1_ := Aside0.mk (blk_below (g := gb374) (o := .cells #[.int .i64 a1_0, .slice A1_1 l1_1.length c1_1] 26 (0, 0)) (by (with_reducible repeat (first | refine blk_drewN ?_ _ | refine blk_drew ?_ | refine blk_alloc ?_ _)); exact BK374.out) hb); have n2_ := Aside0.mk (Kept.below (S := (fun k_ => P0_ k_)) (by repeat (first | (with_reducible first | exact HK.out | apply Kept.alloc | apply Kept.drewN | apply Kept.drew | refine Kept.setCell ?_ (.inr GW374.out) _) | exact HK.out)) hb); have n3_ := Aside0.mk (below_step (by repeat (first | (with_reducible first | exact HB.out | apply below_alloc | apply pw_below_drewN | apply below_drew1 | refine below_set ?_ GE374.out) | exact HB.out)) hb); have n4_ := Aside0.mk (hbox); have n5_ := Aside0.mk ((by rw [hg]; exact (by first | exact HK.out.1 | exact (show Kept w _ (fun k_ => P0_ k_) from by repeat (first | (with_reducible first | exact HK.out | apply Kept.alloc | apply Kept.drewN | apply Kept.drew | refine Kept.setCell ?_ (.inr GW374.out) _) | exact HK.out)).1) : w.heap.size ≤ gb375)); have n6_ := Aside0.mk ((by rw [hg]; exact (below_size (by repeat (first | (with_reducible first | exact HB.out | apply below_alloc | apply pw_below_drewN | apply below_drew1 | refine below_set ?_ GE374.out) | exact HB.out))) : w0.heap.size ≤ gb375)); have n7_ := Aside0.mk ((by rw [hg]; exact Nat.ne_of_lt (blk_lt (g := gb374) (o := .cells #[.int .i64 a1_0, .slice A1_1 l1_1.length c1_1] 26 (0, 0)) (by (with_reducible repeat (first | refine blk_drewN ?_ _ | refine blk_drew ?_ | refine blk_alloc ?_ _)); exact BK374.out)) : gb374 ≠ gb375)); have n8_ := Aside0.mk ((by rw [hg]; exact Nat.ne_of_gt (blk_lt (g := gb374) (o := .cells #[.int .i64 a1_0, .slice A1_1 l1_1.length c1_1] 26 (0, 0)) (by (with_reducible repeat (first | refine blk_drewN ?_ _ | refine blk_drew ?_ | refine blk_alloc ?_ _)); exact BK374.out)) : gb375 ≠ gb374)); clear HO0; clear BK374; clear HK; clear HB; have HO0 := n0_; have BK374 := n1_; have HK := n2_; have HB := n3_; have BK375 := n4_; have GW375 := n5_; have GE375 := n6_; have NB374_375 := n7_; have NB375_374 := n8_; clear n0_ n1_ n2_ n3_ n4_ n5_ n6_ n7_ n8_; clear hb hbox hg) | ((with_reducible refine gate_dst (N := 3) rfl ?_); refine box_event ?hg (N := 3) ?hd (cs := #[.slice A3_0 l3_0.length c3_0]) (t := 22) ?hr ?_; (case hd => rfl); (case hg => rfl); (case hr => first | (go_simp; done) | (go_simp; rfl)); intro gb376 hg w hbox hb; have n0_ := Aside0.mk (Kd.R_below (by (with_reducible repeat (first | apply Kd.R_alloc | apply Kd.R_drewN | apply Kd.R_drew)); exact HO0.out) hb); have n1_ := Aside0.mk (blk_below (g := gb374) (o := .cells #[.int .i64 a1_0, .slice A1_1 l1_1.length c1_1] 26 (0, 0)) (by (with_reducible repeat (first | refine blk_drewN ?_ _ | refine blk_drew ?_ | refine blk_alloc ?_ _)); exact BK374.out) hb); have n2_ := Aside0.mk (blk_below (g := gb375) (o := .cells #[.int .i64 a2_0] 3 (0, 0)) (by (with_reducible repeat (first | refine blk_drewN ?_ _ | refine blk_drew ?_ | refine blk_alloc ?_ _)); exact BK375.out) hb); have n3_ := Aside0.mk (Kept.below (S := (fun k_ => P0_ k_)) (by repeat (first | (with_reducible first | exact HK.out | apply Kept.alloc | apply Kept.drewN | apply Kept.drew | refine Kept.setCell ?_ (.inr GW374.out) _ | refine Kept.setCell ?_ (.inr GW375.out) _) | exact HK.out)) hb); have n4_ := Aside0.mk (below_step (by repeat (first | (with_reducible first | exact HB.out | apply below_alloc | apply pw_below_drewN | apply below_drew1 | refine below_set ?_ GE374.out | refine below_set ?_ GE375.out) | exact HB.out)) hb); have n5_ := Aside0.mk (hbox); have n6_ := Aside0.mk ((by rw [hg]; exact (by first | exact HK.out.1 | exact (show Kept w _ (fun k_ => P0_ k_) from by repeat (first | (with_reducible first | exact HK.out | apply Kept.alloc | apply Kept.drewN | apply Kept.drew | refine Kept.setCell ?_ (.inr GW374.out) _ | refine Kept.setCell ?_ (.inr GW375.out) _) | exact HK.out)).1) : w.heap.size ≤ gb376)); have n7_ := Aside0.mk ((by rw [hg]; exact (below_size (by repeat (first | (with_reducible first | exact HB.out | apply below_alloc | apply pw_below_drewN | apply below_drew1 | refine below_set ?_ GE374.out | refine below_set ?_ GE375.out) | exact HB.out))) : w0.heap.size ≤ gb376)); have n8_ := Aside0.mk ((by rw [hg]; exact Nat.ne_of_lt (blk_lt (g := gb374) (o := .cells #[.int .i64 a1_0, .slice A1_1 l1_1.length c1_1] 26 (0, 0)) (by (with_reducible repeat (first | refine blk_drewN ?_ _ | refine blk_drew ?_ | refine blk_alloc ?_ _)); exact BK374.out)) : gb374 ≠ gb376)); have n9_ := Aside0.mk ((by rw [hg]; exact Nat.ne_of_gt (blk_lt (g := gb374) (o := .cells #[.int .i64 a1_0, .slice A1_1 l1_1.length c1_1] 26 (0, 0)) (by (with_reducible repeat (first | refine blk_drewN ?_ _ | refine blk_drew ?_ | refine blk_alloc ?_ _)); exact BK374.out)) : gb376 ≠ gb374)); have n10_ := Aside0.mk ((by rw [hg]; exact Nat.ne_of_lt (blk_lt (g := gb375) (o := .cells #[.int .i64 a2_0] 3 (0, 0)) (by (with_reducible repeat (first | refine blk_drewN ?_ _ | refine blk_drew ?_ | refine blk_alloc ?_ _)); exact BK375.out)) : gb375 ≠ gb376)); have n11_ := Aside0.mk ((by rw [hg]; exact Nat.ne_of_gt (blk_lt (g := gb375) (o := .cells #[.int .i64 a2_0] 3 (0, 0)) (by (with_reducible repeat (first | refine blk_drewN ?_ _ | refine blk_drew ?_ | refine blk_alloc ?_ _)); exact BK375.out)) : gb376 ≠ gb375)); clear HO0; clear BK374; clear BK375; clear HK; clear HB; have HO0 := n0_; have BK374 := n1_; have BK375 := n2_; have HK := n3_; have HB := n4_; have BK376 := n5_; have GW376 := n6_; have GE376 := n7_; have NB374_376 := n8_; have NB376_374 := n9_; have NB375_376 := n10_; have NB376_375 := n11_; clear n0_ n1_ n2_ n3_ n4_ n5_ n6_ n7_ n8_ n9_ n10_ n11_; clear hb hbox hg) | ((with_reducible refine gate_dst (N := 4) rfl ?_); refine box_event ?hg (N := 4) ?hd (cs := #[.int .i64 a4_0]) (t := 30) ?hr ?_; (case hd => rfl); (case hg => rfl); (case hr => first | (go_simp; done) | (go_simp; rfl)); intro gb377 hg w hbox hb; have n0_ := Aside0.mk (Kd.R_below (by (with_reducible repeat (first | apply Kd.R_alloc | apply Kd.R_drewN | apply Kd.R_drew)); exact HO0.out) hb); have n1_ := Aside0.mk (blk_below (g := gb374) (o := .cells #[.int .i64 a1_0, .slice A1_1 l1_1.length c1_1] 26 (0, 0)) (by (with_reducible repeat (first | refine blk_drewN ?_ _ | refine blk_drew ?_ | refine blk_alloc ?_ _)); exact BK374.out) hb); have n2_ := Aside0.mk (blk_below (g := gb375) (o := .cells #[.int .i64 a2_0] 3 (0, 0)) (by (with_reducible repeat (first | refine blk_drewN ?_ _ | refine blk_drew ?_ | refine blk_alloc ?_ _)); exact BK375.out) hb); have n3_ := Aside0.mk (blk_below (g := gb376) (o := .cells #[.slice A3_0 l3_0.length c3_0] 22 (0, 0)) (by (with_reducible repeat (first | refine blk_drewN ?_ _ | refine blk_drew ?_ | refine blk_alloc ?_ _)); exact BK376.out) hb); have n4_ := Aside0.mk (Kept.below (S := (fun k_ => P0_ k_)) (by repeat (first | (with_reducible first | exact HK.out | apply Kept.alloc | apply Kept.drewN | apply Kept.drew | refine Kept.setCell ?_ (.inr GW374.out) _ | refine Kept.setCell ?_ (.inr GW375.out) _ | refine Kept.setCell ?_ (.inr GW376.out) _) | exact HK.out)) hb); have n5_ := Aside0.mk (below_step (by repeat (first | (with_reducible first | exact HB.out | apply below_alloc | apply pw_below_drewN | apply below_drew1 | refine below_set ?_ GE374.out | refine below_set ?_ GE375.out | refine below_set ?_ GE376.out) | exact HB.out)) hb); have n6_ := Aside0.mk (hbox); have n7_ := Aside0.mk ((by rw [hg]; exact (by first | exact HK.out.1 | exact (show Kept w _ (fun k_ => P0_ k_) from by repeat (first | (with_reducible first | exact HK.out | apply Kept.alloc | apply Kept.drewN | apply Kept.drew | refine Kept.setCell ?_ (.inr GW374.out) _ | refine Kept.setCell ?_ (.inr GW375.out) _ | refine Kept.setCell ?_ (.inr GW376.out) _) | exact HK.out)).1) : w.heap.size ≤ gb377)); have n8_ := Aside0.mk ((by rw [hg]; exact (below_size (by repeat (first | (with_reducible first | exact HB.out | apply below_alloc | apply pw_below_drewN | apply below_drew1 | refine below_set ?_ GE374.out | refine below_set ?_ GE375.out | refine below_set ?_ GE376.out) | exact HB.out))) : w0.heap.size ≤ gb377)); have n9_ := Aside0.mk ((by rw [hg]; exact Nat.ne_of_lt (blk_lt (g := gb374) (o := .cells #[.int .i64 a1_0, .slice A1_1 l1_1.length c1_1] 26 (0, 0)) (by (with_reducible repeat (first | refine blk_drewN ?_ _ | refine blk_drew ?_ | refine blk_alloc ?_ _)); exact BK374.out)) : gb374 ≠ gb377)); have n10_ := Aside0.mk ((by rw [hg]; exact Nat.ne_of_gt (blk_lt (g := gb374) (o := .cells #[.int .i64 a1_0, .slice A1_1 l1_1.length c1_1] 26 (0, 0)) (by (with_reducible repeat (first | refine blk_drewN ?_ _ | refine blk_drew ?_ | refine blk_alloc ?_ _)); exact BK374.out)) : gb377 ≠ gb374)); have n11_ := Aside0.mk ((by rw [hg]; exact Nat.ne_of_lt (blk_lt (g := gb375) (o := .cells #[.int .i64 a2_0] 3 (0, 0)) (by (with_reducible repeat (first | refine blk_drewN ?_ _ | refine blk_drew ?_ | refine blk_alloc ?_ _)); exact BK375.out)) : gb375 ≠ gb377)); have n12_ := Aside0.mk ((by rw [hg]; exact Nat.ne_of_gt (blk_lt (g := gb375) (o := .cells #[.int .i64 a2_0] 3 (0, 0)) (by (with_reducible repeat (first | refine blk_drewN ?_ _ | refine blk_drew ?_ | refine blk_alloc ?_ _)); exact BK375.out)) : gb377 ≠ gb375)); have n13_ := Aside0.mk ((by rw [hg]; exact Nat.ne_of_lt (blk_lt (g := gb376) (o := .cells #[.slice A3_0 l3_0.length c3_0] 22 (0, 0)) (by (with_reducible repeat (first | refine blk_drewN ?_ _ | refine blk_drew ?_ | refine blk_alloc ?_ _)); exact BK376.out)) : gb376 ≠ gb377)); have n14_ := Aside0.mk ((by rw [hg]; exact Nat.ne_of_gt (blk_lt (g := gb376) (o := .cells #[.slice A3_0 l3_0.length c3_0] 22 (0, 0)) (by (with_reducible repeat (first | refine blk_drewN ?_ _ | refine blk_drew ?_ | refine blk_alloc ?_ _)); exact BK376.out)) : gb377 ≠ gb376)); clear HO0; clear BK374; clear BK375; clear BK376; clear HK; clear HB; have HO0 := n0_; have BK374 := n1_; have BK375 := n2_; have BK376 := n3_; have HK := n4_; have HB := n5_; have BK377 := n6_; have GW377 := n7_; have GE377 := n8_; have NB374_377 := n9_; have NB377_374 := n10_; have NB375_377 := n11_; have NB377_375 := n12_; have NB376_377 := n13_; have NB377_376 := n14_; clear n0_ n1_ n2_ n3_ n4_ n5_ n6_ n7_ n8_ n9_ n10_ n11_ n12_ n13_ n14_; clear hb hbox hg; obtain ⟨Ao11, co11, eo11⟩ := Kd.R_slice HO0.out; subst eo11; have hnb12 := NB374_375.out; have hnc12 := NB375_374.out; have hnb13 := NB374_376.out; have hnc13 := NB376_374.out; have hnb14 := NB374_377.out; have hnc14 := NB377_374.out; have hcz15_0 : w.cell? ⟨gb374, 0, none⟩ = some (.int .i64 a1_0) := (blk_cell BK374.out 0).trans rfl; have hcz15_1 : w.cell? ⟨gb374, 1, none⟩ = some (.slice A1_1 l1_1.length c1_1) := (blk_cell BK374.out 1).trans rfl; have hfz15_0 := blk_frozen BK374.out 0; have hfz15_1 := blk_frozen BK374.out 1))
    go_ret
    exact ⟨_, by first | rfl | (simp [errW_none, errW_some] <;> rfl) | (simp [*, errW_none, errW_some] <;> rfl), by (with_reducible repeat (first | apply Kd.R_alloc | apply Kd.R_drewN | apply Kd.R_drew)); exact HO0.out, (by first | exact L.NilIs.own2 HBK.out rfl | (exact L.NilIs.own2 HBK.out (by rw [HC5.out]; simp)) | (rw [HC5.out]; exact L.NilIs.nil_)), by repeat (first | (with_reducible first | exact HB.out | apply below_alloc | apply pw_below_drewN | apply below_drew1 | refine below_set ?_ GE374.out | refine below_set ?_ GE375.out | refine below_set ?_ GE376.out | refine below_set ?_ GE377.out) | exact HB.out), by repeat (first | (with_reducible first | exact HK.out | apply Kept.alloc | apply Kept.drewN | apply Kept.drew | refine Kept.setCell ?_ (.inr GW374.out) _ | refine Kept.setCell ?_ (.inr GW375.out) _ | refine Kept.setCell ?_ (.inr GW376.out) _ | refine Kept.setCell ?_ (.inr GW377.out) _) | exact HK.out)⟩
  · rw [if_neg c6] at H
    have c6b0 : ((l0.length : Int) == a1_0) = false := beq_eq_false_iff_ne.mpr c6
    have HC5 := Aside0.mk c6b0
    have c6b1 : ((l0.length : Int) != a1_0) = true := bne_iff_ne.mpr c6
    have H' := Aside0.mk H
    clear H
    go_enter Tryd.func61, Tryd.ntmps61
    obtain ⟨Ao20, co20, eo20⟩ := Kd.R_slice HO0.out
    (first | subst eo20 | (injection eo20 with f1_ f2_ f3_; have f4_ := f1_.symm; have f5_ := f3_.symm; clear f1_ f2_ f3_; subst f4_; subst f5_))
    go_wp2_with (first | ((with_reducible refine gate_dst (N := 1) rfl ?_); refine box_event ?hg (N := 1) ?hd (cs := #[.int .i64 a1_0, .slice A1_1 l1_1.length c1_1]) (t := 26) ?hr ?_; (case hd => rfl); (case hg => rfl); (case hr => first | (go_simp; done) | (go_simp; rfl)); intro gb374 hg w hbox hb; have n0_ := Aside0.mk (Kd.R_below (by (with_reducible repeat (first | apply Kd.R_alloc | apply Kd.R_drewN | apply Kd.R_drew)); exact HO0.out) hb); have n1_ := Aside0.mk (Kept.below (S := (fun k_ => P0_ k_)) (by repeat (first | (with_reducible first | exact HK.out | apply Kept.alloc | apply Kept.drewN | apply Kept.drew) | exact HK.out)) hb); have n2_ := Aside0.mk (below_step (by repeat (first | (with_reducible first | exact HB.out | apply below_alloc | apply pw_below_drewN | apply below_drew1) | exact HB.out)) hb); have n3_ := Aside0.mk (hbox); have n4_ := Aside0.mk ((by rw [hg]; exact (by first | exact HK.out.1 | exact (show Kept w _ (fun k_ => P0_ k_) from by repeat (first | (with_reducible first | exact HK.out | apply Kept.alloc | apply Kept.drewN | apply Kept.drew) | exact HK.out)).1) : w.heap.size ≤ gb374)); have n5_ := Aside0.mk ((by rw [hg]; exact (below_size (by repeat (first | (with_reducible first | exact HB.out | apply below_alloc | apply pw_below_drewN | apply below_drew1) | exact HB.out))) : w0.heap.size ≤ gb374)); clear HO0; clear HK; clear HB; have HO0 := n0_; have HK := n1_; have HB := n2_; have BK374 := n3_; have GW374 := n4_; have GE374 := n5_; clear n0_ n1_ n2_ n3_ n4_ n5_; clear hb hbox hg) | ((with_reducible refine gate_dst (N := 2) rfl ?_); refine box_event ?hg (N := 2) ?hd (cs := #[.int .i64 a2_0]) (t := 3) ?hr ?_; (case hd => rfl); (case hg => rfl); (case hr => first | (go_simp; done) | (go_simp; rfl)); intro gb375 hg w hbox hb; have n0_ := Aside0.mk (Kd.R_below (by (with_reducible repeat (first | apply Kd.R_alloc | apply Kd.R_drewN | apply Kd.R_drew)); exact HO0.out) hb); have n1_ := Aside0.mk (blk_below (g := gb374) (o := .cells #[.int .i64 a1_0, .slice A1_1 l1_1.length c1_1] 26 (0, 0)) (by (with_reducible repeat (first | refine blk_drewN ?_ _ | refine blk_drew ?_ | refine blk_alloc ?_ _)); exact BK374.out) hb); have n2_ := Aside0.mk (Kept.below (S := (fun k_ => P0_ k_)) (by repeat (first | (with_reducible first | exact HK.out | apply Kept.alloc | apply Kept.drewN | apply Kept.drew | refine Kept.setCell ?_ (.inr GW374.out) _) | exact HK.out)) hb); have n3_ := Aside0.mk (below_step (by repeat (first | (with_reducible first | exact HB.out | apply below_alloc | apply pw_below_drewN | apply below_drew1 | refine below_set ?_ GE374.out) | exact HB.out)) hb); have n4_ := Aside0.mk (hbox); have n5_ := Aside0.mk ((by rw [hg]; exact (by first | exact HK.out.1 | exact (show Kept w _ (fun k_ => P0_ k_) from by repeat (first | (with_reducible first | exact HK.out | apply Kept.alloc | apply Kept.drewN | apply Kept.drew | refine Kept.setCell ?_ (.inr GW374.out) _) | exact HK.out)).1) : w.heap.size ≤ gb375)); have n6_ := Aside0.mk ((by rw [hg]; exact (below_size (by repeat (first | (with_reducible first | exact HB.out | apply below_alloc | apply pw_below_drewN | apply below_drew1 | refine below_set ?_ GE374.out) | exact HB.out))) : w0.heap.size ≤ gb375)); have n7_ := Aside0.mk ((by rw [hg]; exact Nat.ne_of_lt (blk_lt (g := gb374) (o := .cells #[.int .i64 a1_0, .slice A1_1 l1_1.length c1_1] 26 (0, 0)) (by (with_reducible repeat (first | refine blk_drewN ?_ _ | refine blk_drew ?_ | refine blk_alloc ?_ _)); exact BK374.out)) : gb374 ≠ gb375)); have n8_ := Aside0.mk ((by rw [hg]; exact Nat.ne_of_gt (blk_lt (g := gb374) (o := .cells #[.int .i64 a1_0, .slice A1_1 l1_1.length c1_1] 26 (0, 0)) (by (with_reducible repeat (first | refine blk_drewN ?_ _ | refine blk_drew ?_ | refine blk_alloc ?_ _)); exact BK374.out)) : gb375 ≠ gb374)); clear HO0; clear BK374; clear HK; clear HB; have HO0 := n0_; have BK374 := n1_; have HK := n2_; have HB := n3_; have BK375 := n4_; have GW375 := n5_; have GE375 := n6_; have NB374_375 := n7_; have NB375_374 := n8_; clear n0_ n1_ n2_ n3_ n4_ n5_ n6_ n7_ n8_; clear hb hbox hg) | ((with_reducible refine gate_dst (N := 3) rfl ?_); refine box_event ?hg (N := 3) ?hd (cs := #[.slice A3_0 l3_0.length c3_0]) (t := 22) ?hr ?_; (case hd => rfl); (case hg => rfl); (case hr => first | (go_simp; done) | (go_simp; rfl)); intro gb376 hg w hbox hb; have n0_ := Aside0.mk (Kd.R_below (by (with_reducible repeat (first | apply Kd.R_alloc | apply Kd.R_drewN | apply Kd.R_drew)); exact HO0.out) hb); have n1_ := Aside0.mk (blk_below (g := gb374) (o := .cells #[.int .i64 a1_0, .slice A1_1 l1_1.length c1_1] 26 (0, 0)) (by (with_reducible repeat (first | refine blk_drewN ?_ _ | refine blk_drew ?_ | refine blk_alloc ?_ _)); exact BK374.out) hb); have n2_ := Aside0.mk (blk_below (g := gb375) (o := .cells #[.int .i64 a2_0] 3 (0, 0)) (by (with_reducible repeat (first | refine blk_drewN ?_ _ | refine blk_drew ?_ | refine blk_alloc ?_ _)); exact BK375.out) hb); have n3_ := Aside0.mk (Kept.below (S := (fun k_ => P0_ k_)) (by repeat (first | (with_reducible first | exact HK.out | apply Kept.alloc | apply Kept.drewN | apply Kept.drew | refine Kept.setCell ?_ (.inr GW374.out) _ | refine Kept.setCell ?_ (.inr GW375.out) _) | exact HK.out)) hb); have n4_ := Aside0.mk (below_step (by repeat (first | (with_reducible first | exact HB.out | apply below_alloc | apply pw_below_drewN | apply below_drew1 | refine below_set ?_ GE374.out | refine below_set ?_ GE375.out) | exact HB.out)) hb); have n5_ := Aside0.mk (hbox); have n6_ := Aside0.mk ((by rw [hg]; exact (by first | exact HK.out.1 | exact (show Kept w _ (fun k_ => P0_ k_) from by repeat (first | (with_reducible first | exact HK.out | apply Kept.alloc | apply Kept.drewN | apply Kept.drew | refine Kept.setCell ?_ (.inr GW374.out) _ | refine Kept.setCell ?_ (.inr GW375.out) _) | exact HK.out)).1) : w.heap.size ≤ gb376)); have n7_ := Aside0.mk ((by rw [hg]; exact (below_size (by repeat (first | (with_reducible first | exact HB.out | apply below_alloc | apply pw_below_drewN | apply below_drew1 | refine below_set ?_ GE374.out | refine below_set ?_ GE375.out) | exact HB.out))) : w0.heap.size ≤ gb376)); have n8_ := Aside0.mk ((by rw [hg]; exact Nat.ne_of_lt (blk_lt (g := gb374) (o := .cells #[.int .i64 a1_0, .slice A1_1 l1_1.length c1_1] 26 (0, 0)) (by (with_reducible repeat (first | refine blk_drewN ?_ _ | refine blk_drew ?_ | refine blk_alloc ?_ _)); exact BK374.out)) : gb374 ≠ gb376)); have n9_ := Aside0.mk ((by rw [hg]; exact Nat.ne_of_gt (blk_lt (g := gb374) (o := .cells #[.int .i64 a1_0, .slice A1_1 l1_1.length c1_1] 26 (0, 0)) (by (with_reducible repeat (first | refine blk_drewN ?_ _ | refine blk_drew ?_ | refine blk_alloc ?_ _)); exact BK374.out)) : gb376 ≠ gb374)); have n10_ := Aside0.mk ((by rw [hg]; exact Nat.ne_of_lt (blk_lt (g := gb375) (o := .cells #[.int .i64 a2_0] 3 (0, 0)) (by (with_reducible repeat (first | refine blk_drewN ?_ _ | refine blk_drew ?_ | refine blk_alloc ?_ _)); exact BK375.out)) : gb375 ≠ gb376)); have n11_ := Aside0.mk ((by rw [hg]; exact Nat.ne_of_gt (blk_lt (g := gb375) (o := .cells #[.int .i64 a2_0] 3 (0, 0)) (by (with_reducible repeat (first | refine blk_drewN ?_ _ | refine blk_drew ?_ | refine blk_alloc ?_ _)); exact BK375.out)) : gb376 ≠ gb375)); clear HO0; clear BK374; clear BK375; clear HK; clear HB; have HO0 := n0_; have BK374 := n1_; have BK375 := n2_; have HK := n3_; have HB := n4_; have BK376 := n5_; have GW376 := n6_; have GE376 := n7_; have NB374_376 := n8_; have NB376_374 := n9_; have NB375_376 := n10_; have NB376_375 := n11_; clear n0_ n1_ n2_ n3_ n4_ n5_ n6_ n7_ n8_ n9_ n10_ n11_; clear hb hbox hg) | ((with_reducible refine gate_dst (N := 4) rfl ?_); refine box_event ?hg (N := 4) ?hd (cs := #[.int .i64 a4_0]) (t := 30) ?hr ?_; (case hd => rfl); (case hg => rfl); (case hr => first | (go_simp; done) | (go_simp; rfl)); intro gb377 hg w hbox hb; have n0_ := Aside0.mk (Kd.R_below (by (with_reducible repeat (first | apply Kd.R_alloc | apply Kd.R_drewN | apply Kd.R_drew)); exact HO0.out) hb); have n1_ := Aside0.mk (blk_below (g := gb374) (o := .cells #[.int .i64 a1_0, .slice A1_1 l1_1.length c1_1] 26 (0, 0)) (by (with_reducible repeat (first | refine blk_drewN ?_ _ | refine blk_drew ?_ | refine blk_alloc ?_ _)); exact BK374.out) hb); have n2_ := Aside0.mk (blk_below (g := gb375) (o := .cells #[.int .i64 a2_0] 3 (0, 0)) (by (with_reducible repeat (first | refine blk_drewN ?_ _ | refine blk_drew ?_ | refine blk_alloc ?_ _)); exact BK375.out) hb); have n3_ := Aside0.mk (blk_below (g := gb376) (o := .cells #[.slice A3_0 l3_0.length c3_0] 22 (0, 0)) (by (with_reducible repeat (first | refine blk_drewN ?_ _ | refine blk_drew ?_ | refine blk_alloc ?_ _)); exact BK376.out) hb); have n4_ := Aside0.mk (Kept.below (S := (fun k_ => P0_ k_)) (by repeat (first | (with_reducible first | exact HK.out | apply Kept.alloc | apply Kept.drewN | apply Kept.drew | refine Kept.setCell ?_ (.inr GW374.out) _ | refine Kept.setCell ?_ (.inr GW375.out) _ | refine Kept.setCell ?_ (.inr GW376.out) _) | exact HK.out)) hb); have n5_ := Aside0.mk (below_step (by repeat (first | (with_reducible first | exact HB.out | apply below_alloc | apply pw_below_drewN | apply below_drew1 | refine below_set ?_ GE374.out | refine below_set ?_ GE375.out | refine below_set ?_ GE376.out) | exact HB.out)) hb); have n6_ := Aside0.mk (hbox); have n7_ := Aside0.mk ((by rw [hg]; exact (by first | exact HK.out.1 | exact (show Kept w _ (fun k_ => P0_ k_) from by repeat (first | (with_reducible first | exact HK.out | apply Kept.alloc | apply Kept.drewN | apply Kept.drew | refine Kept.setCell ?_ (.inr GW374.out) _ | refine Kept.setCell ?_ (.inr GW375.out) _ | refine Kept.setCell ?_ (.inr GW376.out) _) | exact HK.out)).1) : w.heap.size ≤ gb377)); have n8_ := Aside0.mk ((by rw [hg]; exact (below_size (by repeat (first | (with_reducible first | exact HB.out | apply below_alloc | apply pw_below_drewN | apply below_drew1 | refine below_set ?_ GE374.out | refine below_set ?_ GE375.out | refine below_set ?_ GE376.out) | exact HB.out))) : w0.heap.size ≤ gb377)); have n9_ := Aside0.mk ((by rw [hg]; exact Nat.ne_of_lt (blk_lt (g := gb374) (o := .cells #[.int .i64 a1_0, .slice A1_1 l1_1.length c1_1] 26 (0, 0)) (by (with_reducible repeat (first | refine blk_drewN ?_ _ | refine blk_drew ?_ | refine blk_alloc ?_ _)); exact BK374.out)) : gb374 ≠ gb377)); have n10_ := Aside0.mk ((by rw [hg]; exact Nat.ne_of_gt (blk_lt (g := gb374) (o := .cells #[.int .i64 a1_0, .slice A1_1 l1_1.length c1_1] 26 (0, 0)) (by (with_reducible repeat (first | refine blk_drewN ?_ _ | refine blk_drew ?_ | refine blk_alloc ?_ _)); exact BK374.out)) : gb377 ≠ gb374)); have n11_ := Aside0.mk ((by rw [hg]; exact Nat.ne_of_lt (blk_lt (g := gb375) (o := .cells #[.int .i64 a2_0] 3 (0, 0)) (by (with_reducible repeat (first | refine blk_drewN ?_ _ | refine blk_drew ?_ | refine blk_alloc ?_ _)); exact BK375.out)) : gb375 ≠ gb377)); have n12_ := Aside0.mk ((by rw [hg]; exact Nat.ne_of_gt (blk_lt (g := gb375) (o := .cells #[.int .i64 a2_0] 3 (0, 0)) (by (with_reducible repeat (first | refine blk_drewN ?_ _ | refine blk_drew ?_ | refine blk_alloc ?_ _)); exact BK375.out)) : gb377 ≠ gb375)); have n13_ := Aside0.mk ((by rw [hg]; exact Nat.ne_of_lt (blk_lt (g := gb376) (o := .cells #[.slice A3_0 l3_0.length c3_0] 22 (0, 0)) (by (with_reducible repeat (first | refine blk_drewN ?_ _ | refine blk_drew ?_ | refine blk_alloc ?_ _)); exact BK376.out)) : gb376 ≠ gb377)); have n14_ := Aside0.mk ((by rw [hg]; exact Nat.ne_of_gt (blk_lt (g := gb376) (o := .cells #[.slice A3_0 l3_0.length c3_0] 22 (0, 0)) (by (with_reducible repeat (first | refine blk_drewN ?_ _ | refine blk_drew ?_ | refine blk_alloc ?_ _)); exact BK376.out)) : gb377 ≠ gb376)); clear HO0; clear BK374; clear BK375; clear BK376; clear HK; clear HB; have HO0 := n0_; have BK374 := n1_; have BK375 := n2_; have BK376 := n3_; have HK := n4_; have HB := n5_; have BK377 := n6_; have GW377 := n7_; have GE377 := n8_; have NB374_377 := n9_; have NB377_374 := n10_; have NB375_377 := n11_; have NB377_375 := n12_; have NB376_377 := n13_; have NB377_376 := n14_; clear n0_ n1_ n2_ n3_ n4_ n5_ n6_ n7_ n8_ n9_ n10_ n11_ n12_ n13_ n14_; clear hb hbox hg; obtain ⟨Ao20, co20, eo20⟩ := Kd.R_slice HO0.out; subst eo20; have hnb21 := NB374_375.out; have hnc21 := NB375_374.out; have hnb22 := NB374_376.out; have hnc22 := NB376_374.out; have hnb23 := NB374_377.out; have hnc23 := NB377_374.out; have hcz24_0 : w.cell? ⟨gb374, 0, none⟩ = some (.int .i64 a1_0) := (blk_cell BK374.out 0).trans rfl; have hcz24_1 : w.cell? ⟨gb374, 1, none⟩ = some (.slice A1_1 l1_1.length c1_1) := (blk_cell BK374.out 1).trans rfl; have hfz24_0 := blk_frozen BK374.out 0; have hfz24_1 := blk_frozen BK374.out 1; have hnb25 := NB375_376.out; have hnc25 := NB376_375.out; have hnb26 := NB375_377.out; have hnc26 := NB377_375.out; have hcz27_0 : w.cell? ⟨gb375, 0, none⟩ = some (.int .i64 a2_0) := (blk_cell BK375.out 0).trans rfl; have hfz27_0 := blk_frozen BK375.out 0))
    go_loopg [21] k (fun kq v21 w' => ∃ (x21_1 : Int), v21 = .int .i64 x21_1 ∧ Aside0 (impl_ChainNumbers_1.l0 kq l0 (l0.length : Int) a2_0 x21_1 a1_0 l1_1 a2_0 l3_0 a4_0 = some r) ∧ Aside0 (kq ≤ k) ∧ Aside0 (Kd.R (Kd.int .i64) 3 w' w0.heap.size (fun k_ => (P0_ k_ ∨ w.heap.size ≤ k_)) (.slice Ao20 l0.length co20) l0) ∧ Aside0 (w'.heap[gb374]? = some (.cells #[.int .i64 a1_0, (.slice A1_1 l1_1.length c1_1)] 26 (0, 0))) ∧ Aside0 (w'.heap[gb375]? = some (.cells #[.int .i64 a2_0] 3 (0, 0))) ∧ Aside0 (w'.heap[gb376]? = some (.cells #[(.slice A3_0 l3_0.length c3_0)] 22 (0, 0))) ∧ Aside0 (w'.heap[gb377]? = some (.cells #[.func (.func 61) #[] #[.pointer (some ⟨gb374, 0, none⟩), .pointer (some ⟨gb375, 0, none⟩), .pointer (some ⟨gb376, 0, none⟩), .pointer (some ⟨gb377, 0, none⟩)]] 30 (0, 0))) ∧ Aside0 (Kept w w' (fun k_ => P0_ k_)) ∧ Aside0 (Below w0.heap.size w0 w'))
    case atStart => exact ⟨(0), (by first | rfl | (simp; done) | (simp [*]; done)), H', ⟨Nat.le_refl _⟩, ⟨by (with_reducible repeat (first | apply Kd.R_alloc | apply Kd.R_drewN | apply Kd.R_drew)); exact HO0.out⟩, ⟨by (with_reducible repeat (first | refine blk_drewN ?_ _ | refine blk_drew ?_ | refine blk_alloc ?_ _)); exact BK374.out⟩, ⟨by (with_reducible repeat (first | refine blk_drewN ?_ _ | refine blk_drew ?_ | refine blk_alloc ?_ _)); exact BK375.out⟩, ⟨by (with_reducible repeat (first | refine blk_drewN ?_ _ | refine blk_drew ?_ | refine blk_alloc ?_ _)); exact BK376.out⟩, ⟨by (with_reducible repeat (first | refine blk_drewN ?_ _ | refine blk_drew ?_ | refine blk_alloc ?_ _)); exact BK377.out⟩, ⟨by repeat (first | (with_reducible first | exact HK.out | apply Kept.alloc | apply Kept.drewN | apply Kept.drew | refine Kept.setCell ?_ (.inr GW374.out) _ | refine Kept.setCell ?_ (.inr GW375.out) _ | refine Kept.setCell ?_ (.inr GW376.out) _ | refine Kept.setCell ?_ (.inr GW377.out) _) | exact HK.out)⟩, ⟨by repeat (first | (with_reducible first | exact HB.out | apply below_alloc | apply pw_below_drewN | apply below_drew1 | refine below_set ?_ GE374.out | refine below_set ?_ GE375.out | refine below_set ?_ GE376.out | refine below_set ?_ GE377.out) | exact HB.out)⟩⟩
    case round =>
      clear H'
      try clear c1
      try clear c2
      try clear p2
      try clear c3
      try clear c6
      try clear c6b0
      try clear c6b1
      try clear c12
      try clear c13
      try clear c14
      try clear c21
      try clear c22
      try clear c23
      try clear c25
      try clear c26
      try clear hcz15_0
      try clear hcz15_1
      try clear hcz24_0
      try clear hcz24_1
      try clear hcz27_0
      try clear hfz15_0
      try clear hfz15_1
      try clear hfz24_0
      try clear hfz24_1
      try clear hfz27_0
      obtain ⟨x21_1, rfl, HA, HK1, HO_0, BK374, BK375, BK376, BK377, HK, HB⟩ := hrel
      cases gk with
      | zero => exact absurd HA.out (by simp [impl_ChainNumbers_1.l0])
      | succ k1 =>
        have H := HA.out
        clear HA
        simp only [impl_ChainNumbers_1.l0] at H
        by_cases c28 : x21_1 < a2_0
        · rw [if_pos c28] at H
          have c28b0 : decide (x21_1 < a2_0) = true := decide_eq_true c28
          clear c28
          have H' := Aside0.mk H
          clear H
          go_wp2
          go_loopg [9, 26] k1 (fun kq v9 v26 w' => ∃ (x9_2 : Bool) (x26_2 : Int), v9 = .bool x9_2 ∧ v26 = .int .i64 x26_2 ∧ Aside0 (impl_ChainNumbers_1.l1 kq l0 (l0.length : Int) x21_1 x9_2 a2_0 x21_1 l0 (l0.length : Int) x26_2 a1_0 l1_1 a2_0 l3_0 a4_0 = some r) ∧ Aside0 (kq ≤ k1) ∧ Aside0 (Kd.R (Kd.int .i64) 3 w' w0.heap.size (fun k_ => (P0_ k_ ∨ w.heap.size ≤ k_)) (.slice Ao20 l0.length co20) l0) ∧ Aside0 (Kd.R (Kd.int .i64) 3 w' w0.heap.size (fun k_ => (P0_ k_ ∨ w.heap.size ≤ k_)) (.slice Ao20 l0.length co20) l0) ∧ Aside0 (w'.heap[gb374]? = some (.cells #[.int .i64 a1_0, (.slice A1_1 l1_1.length c1_1)] 26 (0, 0))) ∧ Aside0 (w'.heap[gb375]? = some (.cells #[.int .i64 a2_0] 3 (0, 0))) ∧ Aside0 (w'.heap[gb376]? = some (.cells #[(.slice A3_0 l3_0.length c3_0)] 22 (0, 0))) ∧ Aside0 (w'.heap[gb377]? = some (.cells #[.func (.func 61) #[] #[.pointer (some ⟨gb374, 0, none⟩), .pointer (some ⟨gb375, 0, none⟩), .pointer (some ⟨gb376, 0, none⟩), .pointer (some ⟨gb377, 0, none⟩)]] 30 (0, 0))) ∧ Aside0 (Kept w w' (fun k_ => P0_ k_)) ∧ Aside0 (Below w0.heap.size w0 w'))
          case atStart => exact ⟨(true), (0), (by first | rfl | (simp; done) | (simp [*]; done)), (by first | rfl | (simp; done) | (simp [*]; done)), H', ⟨Nat.le_refl _⟩, ⟨by (with_reducible repeat (first | apply Kd.R_alloc | apply Kd.R_drewN | apply Kd.R_drew)); exact HO_0.out⟩, ⟨by (with_reducible repeat (first | apply Kd.R_alloc | apply Kd.R_drewN | apply Kd.R_drew)); exact HO_0.out⟩, ⟨by (with_reducible repeat (first | refine blk_drewN ?_ _ | refine blk_drew ?_ | refine blk_alloc ?_ _)); exact BK374.out⟩, ⟨by (with_reducible repeat (first | refine blk_drewN ?_ _ | refine blk_drew ?_ | refine blk_alloc ?_ _)); exact BK375.out⟩, ⟨by (with_reducible repeat (first | refine blk_drewN ?_ _ | refine blk_drew ?_ | refine blk_alloc ?_ _)); exact BK376.out⟩, ⟨by (with_reducible repeat (first | refine blk_drewN ?_ _ | refine blk_drew ?_ | refine blk_alloc ?_ _)); exact BK377.out⟩, ⟨by repeat (first | (with_reducible first | exact HK.out | apply Kept.alloc | apply Kept.drewN | apply Kept.drew | refine Kept.setCell ?_ (.inr GW374.out) _ | refine Kept.setCell ?_ (.inr GW375.out) _ | refine Kept.setCell ?_ (.inr GW376.out) _ | refine Kept.setCell ?_ (.inr GW377.out) _) | exact HK.out)⟩, ⟨by repeat (first | (with_reducible first | exact HB.out | apply below_alloc | apply pw_below_drewN | apply below_drew1 | refine below_set ?_ GE374.out | refine below_set ?_ GE375.out | refine below_set ?_ GE376.out | refine below_set ?_ GE377.out) | exact HB.out)⟩⟩
          case round =>
            clear H'
            try clear c1
            try clear c2
            try clear p2
            try clear c3
            try clear c6
            try clear c6b0
            try clear c6b1
            try clear c12
            try clear c13
            try clear c14
            try clear c21
            try clear c22
            try clear c23
            try clear c25
            try clear c26
            try clear c28
            try clear c28b0
            try clear hcz15_0
            try clear hcz15_1
            try clear hcz24_0
            try clear hcz24_1
            try clear hcz27_0
            try clear hfz15_0
            try clear hfz15_1
            try clear hfz24_0
            try clear hfz24_1
            try clear hfz27_0
            try clear p2
            obtain ⟨x9_2, x26_2, rfl, rfl, HA, HK2, HO_0, HO_24, BK374, BK375, BK376, BK377, HK, HB⟩ := hrel
            cases gk with
            | zero => exact absurd HA.out (by simp [impl_ChainNumbers_1.l1])
            | succ k2 =>
              have H := HA.out
              clear HA
              simp only [impl_ChainNumbers_1.l1] at H
              by_cases c29 : x26_2 < (l0.length : Int)
              · rw [if_pos c29] at H
                have c29b0 : decide (x26_2 < (l0.length : Int)) = true := decide_eq_true c29
                clear c29
                by_cases c30 : 0 ≤ x26_2
                · rw [if_pos c30] at H
                  have c30b0 : decide (0 ≤ x26_2) = true := decide_eq_true c30
                  clear c30
                  by_cases c31 : x26_2 < (l0.length : Int)
                  · rw [if_pos c31] at H
                    have c31b0 : decide (x26_2 < (l0.length : Int)) = true := decide_eq_true c31
                    clear c31
                    by_cases c32 : x9_2 = true
                    · subst c32
                      have H1 : (if (rd l0 x26_2) = x21_1 then (if 0 ≤ (l0.length : Int) then (if (l0.length : Int) < (l3_0.length : Int) then (impl_ChainNumbers_1.l1 k2 l0 (l0.length : Int) x21_1 ((Go.bits .and .i64 (shr .i64 (rd l3_0 (l0.length : Int)) x26_2) 1) == 0) a2_0 x21_1 l0 (l0.length : Int) (wrap64 (x26_2 + 1)) a1_0 l1_1 a2_0 l3_0 a4_0) else (none)) else (none)) else (impl_ChainNumbers_1.l1 k2 l0 (l0.length : Int) x21_1 true a2_0 x21_1 l0 (l0.length : Int) (wrap64 (x26_2 + 1)) a1_0 l1_1 a2_0 l3_0 a4_0)) = some r := by rw [if_pos rfl] at H; exact H
                      clear H
                      have H := H1
                      clear H1
                      by_cases c33 : (rd l0 x26_2) = x21_1
                      · rw [if_pos c33] at H
                        have c33b0 : ((rd l0 x26_2) == x21_1) = true := beq_iff_eq.mpr c33
                        have c33b1 : ((rd l0 x26_2) != x21_1) = false := bne_eq_false_iff_eq.mpr c33
                        clear c33
                        by_cases c34 : 0 ≤ (l0.length : Int)
                        · rw [if_pos c34] at H
                          have c34b0 : decide (0 ≤ (l0.length : Int)) = true := decide_eq_true c34
                          have c34b1 : decide (0 ≤ l0.length) = true := decide_eq_true (by omega)
                          clear c34
                          by_cases c35 : (l0.length : Int) < (l3_0.length : Int)
                          · rw [if_pos c35] at H
                            have c35b0 : decide ((l0.length : Int) < (l3_0.length : Int)) = true := decide_eq_true c35
                            have c35b1 : decide (l0.length < l3_0.length) = true := decide_eq_true (Int.ofNat_lt.mp c35)
                            clear c35
                            have c36b0 := eq_true (of_decide_eq_true (by first | (with_reducible assumption) | assumption) : 0 ≤ x26_2)
                            obtain ⟨ji37, hji37⟩ : ∃ j_ : Int, (shr .i64 (rd l3_0 (l0.length : Int)) x26_2) = j_ := ⟨_, rfl⟩
                            replace H : (impl_ChainNumbers_1.l1 k2 l0 (l0.length : Int) x21_1 ((Go.bits .and .i64 (ji37) 1) == 0) a2_0 x21_1 l0 (l0.length : Int) (wrap64 (x26_2 + 1)) a1_0 l1_1 a2_0 l3_0 a4_0) = some r := by first | (rw [hji37] at H; exact H) | (simp only [hji37] at H ⊢; exact H)
                            have hji37_ : ((rd l3_0 (l0.length : Int)) / 2 ^ min x26_2.toNat 64) = ji37 := hji37
                            have hji37z : x26_2 ≤ 64 → ((rd l3_0 (l0.length : Int)) / 2 ^ x26_2.toNat) = ji37 := shr_small hji37
                            have H' := Aside0.mk H
                            clear H
                            have hnb38 := NB376_374.out
                            have hnc38 := NB374_376.out
                            have hnb39 := NB376_375.out
                            have hnc39 := NB375_376.out
                            have hnb40 := NB376_377.out
                            have hnc40 := NB377_376.out
                            have hcz41_0 : wr.cell? ⟨gb376, 0, none⟩ = some (.slice A3_0 l3_0.length c3_0) := (blk_cell BK376.out 0).trans rfl
                            have hfz41_0 := blk_frozen BK376.out 0
                            have p378 : 0 ≤ (x26_2 : Int) := of_decide_eq_true (by first | (with_reducible assumption) | assumption)
                            have q378 : x26_2 < (l0.length : Int) := of_decide_eq_true (by first | (with_reducible assumption) | assumption)
                            obtain ⟨ad378, e378, hx378_0⟩ := Kd.at_int (Kd.R_reads' HO_24.out).2.2 x26_2 p378 q378
                            cases e378
                            replace p378 := eq_true p378
                            replace q378 := eq_true q378
                            have p379 : 0 ≤ ((l0.length : Int) : Int) := of_decide_eq_true (by first | (with_reducible assumption) | assumption)
                            have q379 : (l0.length : Int) < (l3_0.length : Int) := of_decide_eq_true (by first | (with_reducible assumption) | assumption)
                            obtain ⟨ad379, e379, hx379_0⟩ := Kd.at_int (Kd.C_kept_now HR3_0.out HK.out) (l0.length : Int) p379 q379
                            cases e379
                            (try simp only [Go.IntWalk.toNatUp] at hx379_0)
                            replace p379 := eq_true p379
                            replace q379 := eq_true q379
                            go_wp2
                            go_roundg k2
                            case measure => have := HK1.out; have := HK2.out; omega
                            case rel => exact ⟨(((Go.bits .and .i64 (ji37) 1) == 0)), (wrap64 (x26_2 + 1)), (by first | rfl | (simp; done) | (simp only [← hji37] <;> (first | rfl | simp)) | (simp [*]; done)), (by first | rfl | (simp; done) | (simp [*]; done)), H', ⟨by have := HK1.out; have := HK2.out; omega⟩, ⟨by (with_reducible repeat (first | apply Kd.R_alloc | apply Kd.R_drewN | apply Kd.R_drew)); exact HO_0.out⟩, ⟨by (with_reducible repeat (first | apply Kd.R_alloc | apply Kd.R_drewN | apply Kd.R_drew)); exact HO_24.out⟩, ⟨by (with_reducible repeat (first | refine blk_drewN ?_ _ | refine blk_drew ?_ | refine blk_alloc ?_ _)); exact BK374.out⟩, ⟨by (with_reducible repeat (first | refine blk_drewN ?_ _ | refine blk_drew ?_ | refine blk_alloc ?_ _)); exact BK375.out⟩, ⟨by (with_reducible repeat (first | refine blk_drewN ?_ _ | refine blk_drew ?_ | refine blk_alloc ?_ _)); exact BK376.out⟩, ⟨by (with_reducible repeat (first | refine blk_drewN ?_ _ | refine blk_drew ?_ | refine blk_alloc ?_ _)); exact BK377.out⟩, ⟨by repeat (first | (with_reducible first | exact HK.out | apply Kept.alloc | apply Kept.drewN | apply Kept.drew | refine Kept.setCell ?_ (.inr GW374.out) _ | refine Kept.setCell ?_ (.inr GW375.out) _ | refine Kept.setCell ?_ (.inr GW376.out) _ | refine Kept.setCell ?_ (.inr GW377.out) _) | exact HK.out)⟩, ⟨by repeat (first | (with_reducible first | exact HB.out | apply below_alloc | apply pw_below_drewN | apply below_drew1 | refine below_set ?_ GE374.out | refine below_set ?_ GE375.out | refine below_set ?_ GE376.out | refine below_set ?_ GE377.out) | exact HB.out)⟩⟩
                          · rw [if_neg c35] at H
                            exact absurd H (by simp)
                        · rw [if_neg c34] at H
                          exact absurd H (by simp)
                      · rw [if_neg c33] at H
                        have c33b0 : ((rd l0 x26_2) == x21_1) = false := beq_eq_false_iff_ne.mpr c33
                        have c33b1 : ((rd l0 x26_2) != x21_1) = true := bne_iff_ne.mpr c33
                        have H' := Aside0.mk H
                        clear H
                        have hnb42 := NB376_374.out
                        have hnc42 := NB374_376.out
                        have hnb43 := NB376_375.out
                        have hnc43 := NB375_376.out
                        have hnb44 := NB376_377.out
                        have hnc44 := NB377_376.out
                        have hcz45_0 : wr.cell? ⟨gb376, 0, none⟩ = some (.slice A3_0 l3_0.length c3_0) := (blk_cell BK376.out 0).trans rfl
                        have hfz45_0 := blk_frozen BK376.out 0
                        have p378 : 0 ≤ (x26_2 : Int) := of_decide_eq_true (by first | (with_reducible assumption) | assumption)
                        have q378 : x26_2 < (l0.length : Int) := of_decide_eq_true (by first | (with_reducible assumption) | assumption)
                        obtain ⟨ad378, e378, hx378_0⟩ := Kd.at_int (Kd.R_reads' HO_24.out).2.2 x26_2 p378 q378
                        cases e378
                        replace p378 := eq_true p378
                        replace q378 := eq_true q378
                        go_wp2
                        go_roundg k2
                        case measure => have := HK1.out; have := HK2.out; omega
                        case rel => exact ⟨(true), (wrap64 (x26_2 + 1)), (by first | rfl | (simp; done) | (simp [*]; done)), (by first | rfl | (simp; done) | (simp [*]; done)), H', ⟨by have := HK1.out; have := HK2.out; omega⟩, ⟨by (with_reducible repeat (first | apply Kd.R_alloc | apply Kd.R_drewN | apply Kd.R_drew)); exact HO_0.out⟩, ⟨by (with_reducible repeat (first | apply Kd.R_alloc | apply Kd.R_drewN | apply Kd.R_drew)); exact HO_24.out⟩, ⟨by (with_reducible repeat (first | refine blk_drewN ?_ _ | refine blk_drew ?_ | refine blk_alloc ?_ _)); exact BK374.out⟩, ⟨by (with_reducible repeat (first | refine blk_drewN ?_ _ | refine blk_drew ?_ | refine blk_alloc ?_ _)); exact BK375.out⟩, ⟨by (with_reducible repeat (first | refine blk_drewN ?_ _ | refine blk_drew ?_ | refine blk_alloc ?_ _)); exact BK376.out⟩, ⟨by (with_reducible repeat (first | refine blk_drewN ?_ _ | refine blk_drew ?_ | refine blk_alloc ?_ _)); exact BK377.out⟩, ⟨by repeat (first | (with_reducible first | exact HK.out | apply Kept.alloc | apply Kept.drewN | apply Kept.drew | refine Kept.setCell ?_ (.inr GW374.out) _ | refine Kept.setCell ?_ (.inr GW375.out) _ | refine Kept.setCell ?_ (.inr GW376.out) _ | refine Kept.setCell ?_ (.inr GW377.out) _) | exact HK.out)⟩, ⟨by repeat (first | (with_reducible first | exact HB.out | apply below_alloc | apply pw_below_drewN | apply below_drew1 | refine below_set ?_ GE374.out | refine below_set ?_ GE375.out | refine below_set ?_ GE376.out | refine below_set ?_ GE377.out) | exact HB.out)⟩⟩
                    · replace c32 := Bool.eq_false_iff.mpr c32
                      subst c32
                      have H1 : (impl_ChainNumbers_1.l1 k2 l0 (l0.length : Int) x21_1 false a2_0 x21_1 l0 (l0.length : Int) (wrap64 (x26_2 + 1)) a1_0 l1_1 a2_0 l3_0 a4_0) = some r := by rw [if_neg (show ¬ (false = true) by decide)] at H; exact H
                      clear H
                      have H := H1
                      clear H1
                      have H' := Aside0.mk H
                      clear H
                      have hnb46 := NB376_374.out
                      have hnc46 := NB374_376.out
                      have hnb47 := NB376_375.out
                      have hnc47 := NB375_376.out
                      have hnb48 := NB376_377.out
                      have hnc48 := NB377_376.out
                      have hcz49_0 : wr.cell? ⟨gb376, 0, none⟩ = some (.slice A3_0 l3_0.length c3_0) := (blk_cell BK376.out 0).trans rfl
                      have hfz49_0 := blk_frozen BK376.out 0
                      have p378 : 0 ≤ (x26_2 : Int) := of_decide_eq_true (by first | (with_reducible assumption) | assumption)
                      have q378 : x26_2 < (l0.length : Int) := of_decide_eq_true (by first | (with_reducible assumption) | assumption)
                      obtain ⟨ad378, e378, hx378_0⟩ := Kd.at_int (Kd.R_reads' HO_24.out).2.2 x26_2 p378 q378
                      cases e378
                      replace p378 := eq_true p378
                      replace q378 := eq_true q378
                      go_wp2
                      go_roundg k2
                      case measure => have := HK1.out; have := HK2.out; omega
                      case rel => exact ⟨(false), (wrap64 (x26_2 + 1)), (by first | rfl | (simp; done) | (simp [*]; done)), (by first | rfl | (simp; done) | (simp [*]; done)), H', ⟨by have := HK1.out; have := HK2.out; omega⟩, ⟨by (with_reducible repeat (first | apply Kd.R_alloc | apply Kd.R_drewN | apply Kd.R_drew)); exact HO_0.out⟩, ⟨by (with_reducible repeat (first | apply Kd.R_alloc | apply Kd.R_drewN | apply Kd.R_drew)); exact HO_24.out⟩, ⟨by (with_reducible repeat (first | refine blk_drewN ?_ _ | refine blk_drew ?_ | refine blk_alloc ?_ _)); exact BK374.out⟩, ⟨by (with_reducible repeat (first | refine blk_drewN ?_ _ | refine blk_drew ?_ | refine blk_alloc ?_ _)); exact BK375.out⟩, ⟨by (with_reducible repeat (first | refine blk_drewN ?_ _ | refine blk_drew ?_ | refine blk_alloc ?_ _)); exact BK376.out⟩, ⟨by (with_reducible repeat (first | refine blk_drewN ?_ _ | refine blk_drew ?_ | refine blk_alloc ?_ _)); exact BK377.out⟩, ⟨by repeat (first | (with_reducible first | exact HK.out | apply Kept.alloc | apply Kept.drewN | apply Kept.drew | refine Kept.setCell ?_ (.inr GW374.out) _ | refine Kept.setCell ?_ (.inr GW375.out) _ | refine Kept.setCell ?_ (.inr GW376.out) _ | refine Kept.setCell ?_ (.inr GW377.out) _) | exact HK.out)⟩, ⟨by repeat (first | (with_reducible first | exact HB.out | apply below_alloc | apply pw_below_drewN | apply below_drew1 | refine below_set ?_ GE374.out | refine below_set ?_ GE375.out | refine below_set ?_ GE376.out | refine below_set ?_ GE377.out) | exact HB.out)⟩⟩
                  · rw [if_neg c31] at H
                    exact absurd H (by simp)
                · rw [if_neg c30] at H
                  exact absurd H (by simp)
              · rw [if_neg c29] at H
                have c29b0 : decide (x26_2 < (l0.length : Int)) = false := decide_eq_false c29
                clear c29
                by_cases c50 : x9_2 = true
                · subst c50
                  have H1 : ((slices_Clone_int_int.f l0).bind fun t380 => ((some (([x21_1] : List Int) : List Int)).bind fun y383 => (if t380.length + y383.length < 17592186044416 then ((some (t380 ++ y383 : List Int)).bind fun y386 => ((impl_ChainNumbers_1.f k2 y386 a1_0 l1_1 a2_0 l3_0 a4_0).bind fun t389 => (if (!(t389.isEmpty && !((y386.length : Int) == a1_0))) = true then (some t389) else (impl_ChainNumbers_1.l0 k2 l0 (l0.length : Int) a2_0 (wrap64 (x21_1 + 1)) a1_0 l1_1 a2_0 l3_0 a4_0)))) else (none)))) = some r := by rw [if_pos rfl] at H; exact H
                  clear H
                  have H := H1
                  clear H1
                  replace H := Option.bind_eq_some_iff.mp H
                  obtain ⟨t380, A510, H⟩ := H
                  replace H : ((some (([x21_1] : List Int) : List Int)).bind fun y383 => (if t380.length + y383.length < 17592186044416 then ((some (t380 ++ y383 : List Int)).bind fun y386 => ((impl_ChainNumbers_1.f k2 y386 a1_0 l1_1 a2_0 l3_0 a4_0).bind fun t389 => (if (!(t389.isEmpty && !((y386.length : Int) == a1_0))) = true then (some t389) else (impl_ChainNumbers_1.l0 k2 l0 (l0.length : Int) a2_0 (wrap64 (x21_1 + 1)) a1_0 l1_1 a2_0 l3_0 a4_0)))) else (none))) = some r := H
                  have A51 := Aside0.mk A510
                  clear A510
                  obtain ⟨y383, hy383⟩ : ∃ y_ : List Int, y_ = (([x21_1] : List Int)) := ⟨_, rfl⟩
                  replace H : (if t380.length + y383.length < 17592186044416 then ((some (t380 ++ y383 : List Int)).bind fun y386 => ((impl_ChainNumbers_1.f k2 y386 a1_0 l1_1 a2_0 l3_0 a4_0).bind fun t389 => (if (!(t389.isEmpty && !((y386.length : Int) == a1_0))) = true then (some t389) else (impl_ChainNumbers_1.l0 k2 l0 (l0.length : Int) a2_0 (wrap64 (x21_1 + 1)) a1_0 l1_1 a2_0 l3_0 a4_0)))) else (none)) = some r := by first | (rw [hy383]; with_reducible exact H) | (have H2_ := (Option.bind_some _ _).symm.trans H; rw [hy383]; with_reducible exact H2_) | (have H2_ := (Option.bind_some _ _).symm.trans H; with_reducible exact H2_) | with_reducible exact H | (rw [hy383]; exact H) | exact H
                  have Ny383 := Aside0.mk hy383
                  clear hy383
                  by_cases c52 : t380.length + y383.length < 17592186044416
                  · rw [if_pos c52] at H
                    have LMc52 := Aside0.mk c52
                    clear c52
                    obtain ⟨y386, hy386⟩ : ∃ y_ : List Int, y_ = (t380 ++ y383) := ⟨_, rfl⟩
                    replace H : ((impl_ChainNumbers_1.f k2 y386 a1_0 l1_1 a2_0 l3_0 a4_0).bind fun t389 => (if (!(t389.isEmpty && !((y386.length : Int) == a1_0))) = true then (some t389) else (impl_ChainNumbers_1.l0 k2 l0 (l0.length : Int) a2_0 (wrap64 (x21_1 + 1)) a1_0 l1_1 a2_0 l3_0 a4_0))) = some r := by first | (rw [hy386]; with_reducible exact H) | (have H2_ := (Option.bind_some _ _).symm.trans H; rw [hy386]; with_reducible exact H2_) | (have H2_ := (Option.bind_some _ _).symm.trans H; with_reducible exact H2_) | with_reducible exact H | (rw [hy386]; exact H) | exact H
                    have Ny386 := Aside0.mk hy386
                    clear hy386
                    replace H := Option.bind_eq_some_iff.mp H
                    obtain ⟨t389, A530, H⟩ := H
                    replace H : (if (!(t389.isEmpty && !((y386.length : Int) == a1_0))) = true then (some t389) else (impl_ChainNumbers_1.l0 k2 l0 (l0.length : Int) a2_0 (wrap64 (x21_1 + 1)) a1_0 l1_1 a2_0 l3_0 a4_0)) = some r := H
                    have A53 := Aside0.mk A530
                    clear A530
                    by_cases c54 : (!(t389.isEmpty && !((y386.length : Int) == a1_0))) = true
                    · rw [if_pos c54] at H
                      have c54b0 : (!(t389.isEmpty && !((y386.length : Int) == a1_0))) = true := c54
                      clear c54
                      obtain rfl := Option.some.inj H
                      have hnb55 := NB374_375.out
                      have hnc55 := NB375_374.out
                      have hnb56 := NB374_376.out
                      have hnc56 := NB376_374.out
                      have hnb57 := NB374_377.out
                      have hnc57 := NB377_374.out
                      have hcz58_0 : wr.cell? ⟨gb374, 0, none⟩ = some (.int .i64 a1_0) := (blk_cell BK374.out 0).trans rfl
                      have hcz58_1 : wr.cell? ⟨gb374, 1, none⟩ = some (.slice A1_1 l1_1.length c1_1) := (blk_cell BK374.out 1).trans rfl
                      have hfz58_0 := blk_frozen BK374.out 0
                      have hfz58_1 := blk_frozen BK374.out 1
                      have hnb59 := NB375_376.out
                      have hnc59 := NB376_375.out
                      have hnb60 := NB375_377.out
                      have hnc60 := NB377_375.out
                      have hcz61_0 : wr.cell? ⟨gb375, 0, none⟩ = some (.int .i64 a2_0) := (blk_cell BK375.out 0).trans rfl
                      have hfz61_0 := blk_frozen BK375.out 0
                      have hnb62 := NB376_377.out
                      have hnc62 := NB377_376.out
                      have hcz63_0 : wr.cell? ⟨gb376, 0, none⟩ = some (.slice A3_0 l3_0.length c3_0) := (blk_cell BK376.out 0).trans rfl
                      have hfz63_0 := blk_frozen BK376.out 0
                      try go_wp2
                      have n0_ := Aside0.mk (Kd.R_drew HO_0.out)
                      have n1_ := Aside0.mk (Kd.R_drew HO_24.out)
                      have n2_ := Aside0.mk (blk_drew BK374.out)
                      have n3_ := Aside0.mk (blk_drew BK375.out)
                      have n4_ := Aside0.mk (blk_drew BK376.out)
                      have n5_ := Aside0.mk (blk_drew BK377.out)
                      have n6_ := Aside0.mk (Kept.drew HK.out)
                      have n7_ := Aside0.mk (below_drew1 HB.out)
                      clear HO_0
                      clear HO_24
                      clear BK374
                      clear BK375
                      clear BK376
                      clear BK377
                      clear HK
                      clear HB
                      have HO_0 := n0_
                      have HO_24 := n1_
                      have BK374 := n2_
                      have BK375 := n3_
                      have BK376 := n4_
                      have BK377 := n5_
                      have HK := n6_
                      have HB := n7_
                      clear n0_ n1_ n2_ n3_ n4_ n5_ n6_ n7_
                      refine start_ (n := 8) (S := fun w' => w'.cell? ⟨gb377, 0, none⟩ = some (.func (.func 61) #[] #[.pointer (some ⟨gb374, 0, none⟩), .pointer (some ⟨gb375, 0, none⟩), .pointer (some ⟨gb376, 0, none⟩), .pointer (some ⟨gb377, 0, none⟩)])) (ds := []) #[false, false, false, false, false, false, false, false] (by kernel_rfl) rfl rfl ((blk_cell BK377.out 0).trans rfl) (fun hHeld => ?_); refine with_tabW impl_ChainNumbers_1.tab14 impl_ChainNumbers_1.bits14 (fun HT_ HW_ => ?_)
                      generalize wr.drew = w64 at HO_0 HO_24 BK374 BK375 BK376 BK377 HK HB hHeld ⊢
                      refine pure_ (i := 1) (N := some 50) (v := ?_) (a' := ?_) #[false, true, false, false, false, false, false, false] rfl rfl (any_of HT_.out (by kernel_rfl)) (fun _ _ _ h => h) (Or.inl ⟨by rfl, ?_⟩) ?_ ?_
                      rotate_left
                      · intro w'
                        go_simp
                        with_reducible rfl
                      rotate_left
                      · simp only [Act.put, List.setIfInBounds_toArray, List.set_cons_zero, List.set_cons_succ, i64_w, i32_w]
                        rfl
                      refine pure_ (i := 3) (N := some 52) (v := ?_) (a' := ?_) #[false, true, false, true, false, false, false, false] rfl rfl (any_of HT_.out (by kernel_rfl)) (fun _ _ _ h => h) (Or.inl ⟨by rfl, ?_⟩) ?_ ?_
                      rotate_left
                      · intro w'
                        go_simp
                        with_reducible rfl
                      rotate_left
                      · simp only [Act.put, List.setIfInBounds_toArray, List.set_cons_zero, List.set_cons_succ, i64_w, i32_w]
                        rfl
                      refine take_ (i := 0) (N := some 49) (v := ?_) (a' := ?_) #[true, true, false, true, false, false, false, false] rfl rfl (take_ofW HT_.out HW_.out (by kernel_rfl)) (fun _ _ _ h => h) (Or.inl ⟨by rfl, ?_⟩) hHeld ?_ ?_
                      rotate_left
                      · intro w' s0
                        go_simp
                        with_reducible rfl
                      rotate_left
                      · simp only [Act.put, List.setIfInBounds_toArray, List.set_cons_zero, List.set_cons_succ, i64_w, i32_w]
                        rfl
                      refine join_ (σ := Value × Value) 3 #[true, true, true, true, true, false, false, false] (fun s_ => [(51, s_.1), (53, s_.2)]) (fun s_ w' => (w'.cell? ⟨gb377, 0, none⟩ = some (.func (.func 61) #[] #[.pointer (some ⟨gb374, 0, none⟩), .pointer (some ⟨gb375, 0, none⟩), .pointer (some ⟨gb376, 0, none⟩), .pointer (some ⟨gb377, 0, none⟩)])) ∧ (Kd.R (Kd.int .i64) 3 w' w0.heap.size (fun k_ => (P0_ k_ ∨ w.heap.size ≤ k_) ∧ some k_ ≠ (s_.2 : Value).ownBlock ∧ some k_ ≠ (.slice Ao20 l0.length co20 : Value).ownBlock ∧ some k_ ≠ (.slice Ao20 l0.length co20 : Value).ownBlock) s_.1 t380) ∧ (Kd.R (Kd.int .i64) 3 w' w0.heap.size (fun k_ => (P0_ k_ ∨ w.heap.size ≤ k_) ∧ some k_ ≠ (s_.1 : Value).ownBlock ∧ some k_ ≠ (.slice Ao20 l0.length co20 : Value).ownBlock ∧ some k_ ≠ (.slice Ao20 l0.length co20 : Value).ownBlock) s_.2 y383) ∧ (Kd.R (Kd.int .i64) 3 w' w0.heap.size (fun k_ => (P0_ k_ ∨ w.heap.size ≤ k_) ∧ some k_ ≠ (s_.1 : Value).ownBlock ∧ some k_ ≠ (s_.2 : Value).ownBlock) (.slice Ao20 l0.length co20) l0) ∧ (Kd.R (Kd.int .i64) 3 w' w0.heap.size (fun k_ => (P0_ k_ ∨ w.heap.size ≤ k_) ∧ some k_ ≠ (s_.1 : Value).ownBlock ∧ some k_ ≠ (s_.2 : Value).ownBlock) (.slice Ao20 l0.length co20) l0) ∧ (w'.heap[gb374]? = some (.cells #[.int .i64 a1_0, .slice A1_1 l1_1.length c1_1] 26 (0, 0))) ∧ (w'.heap[gb375]? = some (.cells #[.int .i64 a2_0] 3 (0, 0))) ∧ (w'.heap[gb376]? = some (.cells #[.slice A3_0 l3_0.length c3_0] 22 (0, 0))) ∧ (w'.heap[gb377]? = some (.cells #[.func (.func 61) #[] #[.pointer (some ⟨gb374, 0, none⟩), .pointer (some ⟨gb375, 0, none⟩), .pointer (some ⟨gb376, 0, none⟩), .pointer (some ⟨gb377, 0, none⟩)]] 30 (0, 0))) ∧ (Kept w w' (fun k_ => P0_ k_)) ∧ (Below w0.heap.size w0 w')) ?_ ?_
                      rotate_left
                      · intro hCont
                        refine two_ (i := 2) (j := 4) (Ni := some 51) (Nj := some 53) #[true, true, true, true, false, false, false, false] #[true, true, false, true, true, false, false, false] rfl rfl rfl rfl (two_of HT_.out (by kernel_rfl)) (by decide) (by decide) (fun K hK => ?_) (fun K hK => ?_)
                        · skip
                          refine goes_ Tryd.func62 (by kernel_rfl) rfl #[.slice Ao20 l0.length co20] (by rfl) rfl rfl (by (try simp only [List.map_toArray, List.map_cons, List.map_nil]); first | done | rfl | (simp only [List.length_drop, List.length_take]; rfl)) ?_
                          with_reducible refine (slices_Clone_int_int.calls _ _ l0 t380 _ ?side1 ?side2 A51.out).mono ?_
                          (case side1 => repeat (first | exact (Kd.R_reads' HO_0.out).2.2 | (with_reducible refine Kd.C_alloc ?_ _) | (with_reducible refine Kd.C_drewN ?_ _) | (with_reducible refine Kd.C_drew ?_)))
                          (case side2 => exact (Kd.R_reads' HO_0.out).2.1)
                          rintro e w65 ⟨v381, rfl, ho0, hb⟩
                          refine ⟨_, rfl, ?_⟩
                          have n0_ := Aside0.mk (Kd.R_elder' (by (with_reducible repeat (first | apply Kd.R_alloc | apply Kd.R_drewN | apply Kd.R_drew)); exact HO_0.out) (Kd.R_base ho0) hb)
                          have n1_ := Aside0.mk (Kd.R_elder' (by (with_reducible repeat (first | apply Kd.R_alloc | apply Kd.R_drewN | apply Kd.R_drew)); exact HO_24.out) (Kd.R_base ho0) hb)
                          have n2_ := Aside0.mk (Kd.R_lower (Kd.R_new' (Kd.R_new' (Kd.R_newM (M := fun k_ => (P0_ k_ ∨ w.heap.size ≤ k_)) ho0 (by first | exact HK.out.1 | exact (show Kept w _ (fun k_ => P0_ k_) from by repeat (first | (with_reducible first | exact HK.out | apply Kept.alloc | apply Kept.drewN | apply Kept.drew | refine Kept.setCell ?_ (.inr GW374.out) _ | refine Kept.setCell ?_ (.inr GW375.out) _ | refine Kept.setCell ?_ (.inr GW376.out) _ | refine Kept.setCell ?_ (.inr GW377.out) _) | exact HK.out)).1) (fun k_ h_ => .inr h_)) (Kd.R_lt (by (with_reducible repeat (first | apply Kd.R_alloc | apply Kd.R_drewN | apply Kd.R_drew)); exact HO_0.out))) (Kd.R_lt (by (with_reducible repeat (first | apply Kd.R_alloc | apply Kd.R_drewN | apply Kd.R_drew)); exact HO_24.out))) (below_size (by repeat (first | (with_reducible first | exact HB.out | apply below_alloc | apply pw_below_drewN | apply below_drew1 | refine below_set ?_ GE374.out | refine below_set ?_ GE375.out | refine below_set ?_ GE376.out | refine below_set ?_ GE377.out) | exact HB.out))))
                          have n3_ := Aside0.mk (blk_below (g := gb374) (o := .cells #[.int .i64 a1_0, .slice A1_1 l1_1.length c1_1] 26 (0, 0)) (by (with_reducible repeat (first | refine blk_drewN ?_ _ | refine blk_drew ?_ | refine blk_alloc ?_ _)); exact BK374.out) hb)
                          have n4_ := Aside0.mk (blk_below (g := gb375) (o := .cells #[.int .i64 a2_0] 3 (0, 0)) (by (with_reducible repeat (first | refine blk_drewN ?_ _ | refine blk_drew ?_ | refine blk_alloc ?_ _)); exact BK375.out) hb)
                          have n5_ := Aside0.mk (blk_below (g := gb376) (o := .cells #[.slice A3_0 l3_0.length c3_0] 22 (0, 0)) (by (with_reducible repeat (first | refine blk_drewN ?_ _ | refine blk_drew ?_ | refine blk_alloc ?_ _)); exact BK376.out) hb)
                          have n6_ := Aside0.mk (blk_below (g := gb377) (o := .cells #[.func (.func 61) #[] #[.pointer (some ⟨gb374, 0, none⟩), .pointer (some ⟨gb375, 0, none⟩), .pointer (some ⟨gb376, 0, none⟩), .pointer (some ⟨gb377, 0, none⟩)]] 30 (0, 0)) (by (with_reducible repeat (first | refine blk_drewN ?_ _ | refine blk_drew ?_ | refine blk_alloc ?_ _)); exact BK377.out) hb)
                          have n7_ := Aside0.mk (Kept.below (S := (fun k_ => P0_ k_)) (by repeat (first | (with_reducible first | exact HK.out | apply Kept.alloc | apply Kept.drewN | apply Kept.drew | refine Kept.setCell ?_ (.inr GW374.out) _ | refine Kept.setCell ?_ (.inr GW375.out) _ | refine Kept.setCell ?_ (.inr GW376.out) _ | refine Kept.setCell ?_ (.inr GW377.out) _) | exact HK.out)) hb)
                          have n8_ := Aside0.mk (below_step (by repeat (first | (with_reducible first | exact HB.out | apply below_alloc | apply pw_below_drewN | apply below_drew1 | refine below_set ?_ GE374.out | refine below_set ?_ GE375.out | refine below_set ?_ GE376.out | refine below_set ?_ GE377.out) | exact HB.out)) hb)
                          clear HO_0
                          clear HO_24
                          clear BK374
                          clear BK375
                          clear BK376
                          clear BK377
                          clear HK
                          clear HB
                          have HO_0 := n0_
                          have HO_24 := n1_
                          have HO382 := n2_
                          have BK374 := n3_
                          have BK375 := n4_
                          have BK376 := n5_
                          have BK377 := n6_
                          have HK := n7_
                          have HB := n8_
                          clear n0_ n1_ n2_ n3_ n4_ n5_ n6_ n7_ n8_
                          (try clear hb)
                          (try clear hb2)
                          (try clear hk)
                          (try clear hi)
                          (try clear ho0)
                          refine hK.out _ _ ((blk_cell BK377.out 0).trans rfl) (fun hHeld => ?_)
                          clear hK K
                          refine norm_ (a' := ?_) ?_ ?_
                          rotate_left
                          · show Act.put _ (some 51) _ = _
                            simp only [Act.put, List.setIfInBounds_toArray, List.set_cons_zero, List.set_cons_succ, i64_w, i32_w]
                            rfl
                          refine one_ (i := 4) (N := some 53) #[true, true, true, true, true, false, false, false] rfl rfl (one_of HT_.out (by kernel_rfl)) (by decide) (fun K hK => ?_)
                          refine Kd.R_lit_step (Kd.int .i64) _ 3 ?hg (N := 53) ?hd (xs := ([x21_1] : List Int)) (inner := [.int .i64 x21_1]) (ok := fun _ => True) (okp := fun _ => True) ?hr ?hp (fun _ hk => hk) trivial (Below.refl _ _) (Nat.le_refl _) (by simp) ?_; (case hd => rfl); (case hg => rfl); (case hr => first | (go_simp; done) | (go_simp; rfl)); (case hp => exact (Reps.one (show Kd.M (Kd.int .i64) _ _ _ x21_1 [.int .i64 x21_1] from rfl) (Reps.none _ _)))
                          intro v384 w66 ho67 hb hg_ hnew_
                          clear hg_ hnew_
                          (first | rw [← Ny383.out] at ho67 | (simp only [Int.reduceToNat] at ho67; rw [← Ny383.out] at ho67))
                          have n0_ := Aside0.mk (Kd.R_elder' (by (with_reducible repeat (first | apply Kd.R_alloc | apply Kd.R_drewN | apply Kd.R_drew)); exact HO_0.out) (Kd.R_base ho67) hb)
                          have n1_ := Aside0.mk (Kd.R_elder' (by (with_reducible repeat (first | apply Kd.R_alloc | apply Kd.R_drewN | apply Kd.R_drew)); exact HO_24.out) (Kd.R_base ho67) hb)
                          have n2_ := Aside0.mk (Kd.R_elder' (by (with_reducible repeat (first | apply Kd.R_alloc | apply Kd.R_drewN | apply Kd.R_drew)); exact HO382.out) (Kd.R_base ho67) hb)
                          have n3_ := Aside0.mk (Kd.R_lower (Kd.R_new' (Kd.R_new' (Kd.R_new' (Kd.R_newM (M := fun k_ => (P0_ k_ ∨ w.heap.size ≤ k_)) ho67 (by first | exact HK.out.1 | exact (show Kept w _ (fun k_ => P0_ k_) from by repeat (first | (with_reducible first | exact HK.out | apply Kept.alloc | apply Kept.drewN | apply Kept.drew | refine Kept.setCell ?_ (.inr GW374.out) _ | refine Kept.setCell ?_ (.inr GW375.out) _ | refine Kept.setCell ?_ (.inr GW376.out) _ | refine Kept.setCell ?_ (.inr GW377.out) _) | exact HK.out)).1) (fun k_ h_ => .inr h_)) (Kd.R_lt (by (with_reducible repeat (first | apply Kd.R_alloc | apply Kd.R_drewN | apply Kd.R_drew)); exact HO_0.out))) (Kd.R_lt (by (with_reducible repeat (first | apply Kd.R_alloc | apply Kd.R_drewN | apply Kd.R_drew)); exact HO_24.out))) (Kd.R_lt (by (with_reducible repeat (first | apply Kd.R_alloc | apply Kd.R_drewN | apply Kd.R_drew)); exact HO382.out))) (below_size (by repeat (first | (with_reducible first | exact HB.out | apply below_alloc | apply pw_below_drewN | apply below_drew1 | refine below_set ?_ GE374.out | refine below_set ?_ GE375.out | refine below_set ?_ GE376.out | refine below_set ?_ GE377.out) | exact HB.out))))
                          have n4_ := Aside0.mk (blk_below (g := gb374) (o := .cells #[.int .i64 a1_0, .slice A1_1 l1_1.length c1_1] 26 (0, 0)) (by (with_reducible repeat (first | refine blk_drewN ?_ _ | refine blk_drew ?_ | refine blk_alloc ?_ _)); exact BK374.out) hb)
                          have n5_ := Aside0.mk (blk_below (g := gb375) (o := .cells #[.int .i64 a2_0] 3 (0, 0)) (by (with_reducible repeat (first | refine blk_drewN ?_ _ | refine blk_drew ?_ | refine blk_alloc ?_ _)); exact BK375.out) hb)
                          have n6_ := Aside0.mk (blk_below (g := gb376) (o := .cells #[.slice A3_0 l3_0.length c3_0] 22 (0, 0)) (by (with_reducible repeat (first | refine blk_drewN ?_ _ | refine blk_drew ?_ | refine blk_alloc ?_ _)); exact BK376.out) hb)
                          have n7_ := Aside0.mk (blk_below (g := gb377) (o := .cells #[.func (.func 61) #[] #[.pointer (some ⟨gb374, 0, none⟩), .pointer (some ⟨gb375, 0, none⟩), .pointer (some ⟨gb376, 0, none⟩), .pointer (some ⟨gb377, 0, none⟩)]] 30 (0, 0)) (by (with_reducible repeat (first | refine blk_drewN ?_ _ | refine blk_drew ?_ | refine blk_alloc ?_ _)); exact BK377.out) hb)
                          have n8_ := Aside0.mk (Kept.below (S := (fun k_ => P0_ k_)) (by repeat (first | (with_reducible first | exact HK.out | apply Kept.alloc | apply Kept.drewN | apply Kept.drew | refine Kept.setCell ?_ (.inr GW374.out) _ | refine Kept.setCell ?_ (.inr GW375.out) _ | refine Kept.setCell ?_ (.inr GW376.out) _ | refine Kept.setCell ?_ (.inr GW377.out) _) | exact HK.out)) hb)
                          have n9_ := Aside0.mk (below_step (by repeat (first | (with_reducible first | exact HB.out | apply below_alloc | apply pw_below_drewN | apply below_drew1 | refine below_set ?_ GE374.out | refine below_set ?_ GE375.out | refine below_set ?_ GE376.out | refine below_set ?_ GE377.out) | exact HB.out)) hb)
                          clear HO_0
                          clear HO_24
                          clear HO382
                          clear BK374
                          clear BK375
                          clear BK376
                          clear BK377
                          clear HK
                          clear HB
                          have HO_0 := n0_
                          have HO_24 := n1_
                          have HO382 := n2_
                          have HO385 := n3_
                          have BK374 := n4_
                          have BK375 := n5_
                          have BK376 := n6_
                          have BK377 := n7_
                          have HK := n8_
                          have HB := n9_
                          clear n0_ n1_ n2_ n3_ n4_ n5_ n6_ n7_ n8_ n9_
                          clear hb ho67
                          refine hK.out _ _ ((blk_cell BK377.out 0).trans rfl) (fun hHeld => ?_)
                          clear hK K
                          refine norm_ (a' := ?_) ?_ ?_
                          rotate_left
                          · show Act.put _ (some 53) _ = _
                            simp only [Act.put, List.setIfInBounds_toArray, List.set_cons_zero, List.set_cons_succ, i64_w, i32_w]
                            rfl
                          exact norm_ (by simp only [putAll, Act.put, List.setIfInBounds_toArray, List.set_cons_zero, List.set_cons_succ]) (hCont (v381, v384) _ ⟨hHeld, (by (with_reducible repeat (first | apply Kd.R_alloc | apply Kd.R_drewN | apply Kd.R_drew)); exact Kd.R_mono HO382.out (fun _ hk => ⟨hk.1.1.1.1, ⟨hk.2, ⟨hk.1.1.2, hk.1.2⟩⟩⟩)), (by (with_reducible repeat (first | apply Kd.R_alloc | apply Kd.R_drewN | apply Kd.R_drew)); exact Kd.R_mono HO385.out (fun _ hk => ⟨hk.1.1.1.1, ⟨hk.2, ⟨hk.1.1.2, hk.1.2⟩⟩⟩)), (by (with_reducible repeat (first | apply Kd.R_alloc | apply Kd.R_drewN | apply Kd.R_drew)); exact Kd.R_mono HO_0.out (fun _ hk => ⟨hk.1.1, ⟨hk.1.2, hk.2⟩⟩)), (by (with_reducible repeat (first | apply Kd.R_alloc | apply Kd.R_drewN | apply Kd.R_drew)); exact Kd.R_mono HO_24.out (fun _ hk => ⟨hk.1.1, ⟨hk.1.2, hk.2⟩⟩)), (by (with_reducible repeat (first | refine blk_drewN ?_ _ | refine blk_drew ?_ | refine blk_alloc ?_ _)); exact BK374.out), (by (with_reducible repeat (first | refine blk_drewN ?_ _ | refine blk_drew ?_ | refine blk_alloc ?_ _)); exact BK375.out), (by (with_reducible repeat (first | refine blk_drewN ?_ _ | refine blk_drew ?_ | refine blk_alloc ?_ _)); exact BK376.out), (by (with_reducible repeat (first | refine blk_drewN ?_ _ | refine blk_drew ?_ | refine blk_alloc ?_ _)); exact BK377.out), (by repeat (first | (with_reducible first | exact HK.out | apply Kept.alloc | apply Kept.drewN | apply Kept.drew | refine Kept.setCell ?_ (.inr GW374.out) _ | refine Kept.setCell ?_ (.inr GW375.out) _ | refine Kept.setCell ?_ (.inr GW376.out) _ | refine Kept.setCell ?_ (.inr GW377.out) _) | exact HK.out)), (by repeat (first | (with_reducible first | exact HB.out | apply below_alloc | apply pw_below_drewN | apply below_drew1 | refine below_set ?_ GE374.out | refine below_set ?_ GE375.out | refine below_set ?_ GE376.out | refine below_set ?_ GE377.out) | exact HB.out))⟩)
                        · skip
                          refine Kd.R_lit_step (Kd.int .i64) _ 3 ?hg (N := 53) ?hd (xs := ([x21_1] : List Int)) (inner := [.int .i64 x21_1]) (ok := fun _ => True) (okp := fun _ => True) ?hr ?hp (fun _ hk => hk) trivial (Below.refl _ _) (Nat.le_refl _) (by simp) ?_; (case hd => rfl); (case hg => rfl); (case hr => first | (go_simp; done) | (go_simp; rfl)); (case hp => exact (Reps.one (show Kd.M (Kd.int .i64) _ _ _ x21_1 [.int .i64 x21_1] from rfl) (Reps.none _ _)))
                          intro v384 w65 ho66 hb hg_ hnew_
                          clear hg_ hnew_
                          (first | rw [← Ny383.out] at ho66 | (simp only [Int.reduceToNat] at ho66; rw [← Ny383.out] at ho66))
                          have n0_ := Aside0.mk (Kd.R_elder' (by (with_reducible repeat (first | apply Kd.R_alloc | apply Kd.R_drewN | apply Kd.R_drew)); exact HO_0.out) (Kd.R_base ho66) hb)
                          have n1_ := Aside0.mk (Kd.R_elder' (by (with_reducible repeat (first | apply Kd.R_alloc | apply Kd.R_drewN | apply Kd.R_drew)); exact HO_24.out) (Kd.R_base ho66) hb)
                          have n2_ := Aside0.mk (Kd.R_lower (Kd.R_new' (Kd.R_new' (Kd.R_newM (M := fun k_ => (P0_ k_ ∨ w.heap.size ≤ k_)) ho66 (by first | exact HK.out.1 | exact (show Kept w _ (fun k_ => P0_ k_) from by repeat (first | (with_reducible first | exact HK.out | apply Kept.alloc | apply Kept.drewN | apply Kept.drew | refine Kept.setCell ?_ (.inr GW374.out) _ | refine Kept.setCell ?_ (.inr GW375.out) _ | refine Kept.setCell ?_ (.inr GW376.out) _ | refine Kept.setCell ?_ (.inr GW377.out) _) | exact HK.out)).1) (fun k_ h_ => .inr h_)) (Kd.R_lt (by (with_reducible repeat (first | apply Kd.R_alloc | apply Kd.R_drewN | apply Kd.R_drew)); exact HO_0.out))) (Kd.R_lt (by (with_reducible repeat (first | apply Kd.R_alloc | apply Kd.R_drewN | apply Kd.R_drew)); exact HO_24.out))) (below_size (by repeat (first | (with_reducible first | exact HB.out | apply below_alloc | apply pw_below_drewN | apply below_drew1 | refine below_set ?_ GE374.out | refine below_set ?_ GE375.out | refine below_set ?_ GE376.out | refine below_set ?_ GE377.out) | exact HB.out))))
                          have n3_ := Aside0.mk (blk_below (g := gb374) (o := .cells #[.int .i64 a1_0, .slice A1_1 l1_1.length c1_1] 26 (0, 0)) (by (with_reducible repeat (first | refine blk_drewN ?_ _ | refine blk_drew ?_ | refine blk_alloc ?_ _)); exact BK374.out) hb)
                          have n4_ := Aside0.mk (blk_below (g := gb375) (o := .cells #[.int .i64 a2_0] 3 (0, 0)) (by (with_reducible repeat (first | refine blk_drewN ?_ _ | refine blk_drew ?_ | refine blk_alloc ?_ _)); exact BK375.out) hb)
                          have n5_ := Aside0.mk (blk_below (g := gb376) (o := .cells #[.slice A3_0 l3_0.length c3_0] 22 (0, 0)) (by (with_reducible repeat (first | refine blk_drewN ?_ _ | refine blk_drew ?_ | refine blk_alloc ?_ _)); exact BK376.out) hb)
                          have n6_ := Aside0.mk (blk_below (g := gb377) (o := .cells #[.func (.func 61) #[] #[.pointer (some ⟨gb374, 0, none⟩), .pointer (some ⟨gb375, 0, none⟩), .pointer (some ⟨gb376, 0, none⟩), .pointer (some ⟨gb377, 0, none⟩)]] 30 (0, 0)) (by (with_reducible repeat (first | refine blk_drewN ?_ _ | refine blk_drew ?_ | refine blk_alloc ?_ _)); exact BK377.out) hb)
                          have n7_ := Aside0.mk (Kept.below (S := (fun k_ => P0_ k_)) (by repeat (first | (with_reducible first | exact HK.out | apply Kept.alloc | apply Kept.drewN | apply Kept.drew | refine Kept.setCell ?_ (.inr GW374.out) _ | refine Kept.setCell ?_ (.inr GW375.out) _ | refine Kept.setCell ?_ (.inr GW376.out) _ | refine Kept.setCell ?_ (.inr GW377.out) _) | exact HK.out)) hb)
                          have n8_ := Aside0.mk (below_step (by repeat (first | (with_reducible first | exact HB.out | apply below_alloc | apply pw_below_drewN | apply below_drew1 | refine below_set ?_ GE374.out | refine below_set ?_ GE375.out | refine below_set ?_ GE376.out | refine below_set ?_ GE377.out) | exact HB.out)) hb)
                          clear HO_0
                          clear HO_24
                          clear BK374
                          clear BK375
                          clear BK376
                          clear BK377
                          clear HK
                          clear HB
                          have HO_0 := n0_
                          have HO_24 := n1_
                          have HO385 := n2_
                          have BK374 := n3_
                          have BK375 := n4_
                          have BK376 := n5_
                          have BK377 := n6_
                          have HK := n7_
                          have HB := n8_
                          clear n0_ n1_ n2_ n3_ n4_ n5_ n6_ n7_ n8_
                          clear hb ho66
                          refine hK.out _ _ ((blk_cell BK377.out 0).trans rfl) (fun hHeld => ?_)
                          clear hK K
                          refine norm_ (a' := ?_) ?_ ?_
                          rotate_left
                          · show Act.put _ (some 53) _ = _
                            simp only [Act.put, List.setIfInBounds_toArray, List.set_cons_zero, List.set_cons_succ, i64_w, i32_w]
                            rfl
                          refine one_ (i := 2) (N := some 51) #[true, true, true, true, true, false, false, false] rfl rfl (one_of HT_.out (by kernel_rfl)) (by decide) (fun K hK => ?_)
                          refine goes_ Tryd.func62 (by kernel_rfl) rfl #[.slice Ao20 l0.length co20] (by rfl) rfl rfl (by (try simp only [List.map_toArray, List.map_cons, List.map_nil]); first | done | rfl | (simp only [List.length_drop, List.length_take]; rfl)) ?_
                          with_reducible refine (slices_Clone_int_int.calls _ _ l0 t380 _ ?side1 ?side2 A51.out).mono ?_
                          (case side1 => repeat (first | exact (Kd.R_reads' HO_0.out).2.2 | (with_reducible refine Kd.C_alloc ?_ _) | (with_reducible refine Kd.C_drewN ?_ _) | (with_reducible refine Kd.C_drew ?_)))
                          (case side2 => exact (Kd.R_reads' HO_0.out).2.1)
                          rintro e w67 ⟨v381, rfl, ho0, hb⟩
                          refine ⟨_, rfl, ?_⟩
                          have n0_ := Aside0.mk (Kd.R_elder' (by (with_reducible repeat (first | apply Kd.R_alloc | apply Kd.R_drewN | apply Kd.R_drew)); exact HO_0.out) (Kd.R_base ho0) hb)
                          have n1_ := Aside0.mk (Kd.R_elder' (by (with_reducible repeat (first | apply Kd.R_alloc | apply Kd.R_drewN | apply Kd.R_drew)); exact HO_24.out) (Kd.R_base ho0) hb)
                          have n2_ := Aside0.mk (Kd.R_elder' (by (with_reducible repeat (first | apply Kd.R_alloc | apply Kd.R_drewN | apply Kd.R_drew)); exact HO385.out) (Kd.R_base ho0) hb)
                          have n3_ := Aside0.mk (Kd.R_lower (Kd.R_new' (Kd.R_new' (Kd.R_new' (Kd.R_newM (M := fun k_ => (P0_ k_ ∨ w.heap.size ≤ k_)) ho0 (by first | exact HK.out.1 | exact (show Kept w _ (fun k_ => P0_ k_) from by repeat (first | (with_reducible first | exact HK.out | apply Kept.alloc | apply Kept.drewN | apply Kept.drew | refine Kept.setCell ?_ (.inr GW374.out) _ | refine Kept.setCell ?_ (.inr GW375.out) _ | refine Kept.setCell ?_ (.inr GW376.out) _ | refine Kept.setCell ?_ (.inr GW377.out) _) | exact HK.out)).1) (fun k_ h_ => .inr h_)) (Kd.R_lt (by (with_reducible repeat (first | apply Kd.R_alloc | apply Kd.R_drewN | apply Kd.R_drew)); exact HO_0.out))) (Kd.R_lt (by (with_reducible repeat (first | apply Kd.R_alloc | apply Kd.R_drewN | apply Kd.R_drew)); exact HO_24.out))) (Kd.R_lt (by (with_reducible repeat (first | apply Kd.R_alloc | apply Kd.R_drewN | apply Kd.R_drew)); exact HO385.out))) (below_size (by repeat (first | (with_reducible first | exact HB.out | apply below_alloc | apply pw_below_drewN | apply below_drew1 | refine below_set ?_ GE374.out | refine below_set ?_ GE375.out | refine below_set ?_ GE376.out | refine below_set ?_ GE377.out) | exact HB.out))))
                          have n4_ := Aside0.mk (blk_below (g := gb374) (o := .cells #[.int .i64 a1_0, .slice A1_1 l1_1.length c1_1] 26 (0, 0)) (by (with_reducible repeat (first | refine blk_drewN ?_ _ | refine blk_drew ?_ | refine blk_alloc ?_ _)); exact BK374.out) hb)
                          have n5_ := Aside0.mk (blk_below (g := gb375) (o := .cells #[.int .i64 a2_0] 3 (0, 0)) (by (with_reducible repeat (first | refine blk_drewN ?_ _ | refine blk_drew ?_ | refine blk_alloc ?_ _)); exact BK375.out) hb)
                          have n6_ := Aside0.mk (blk_below (g := gb376) (o := .cells #[.slice A3_0 l3_0.length c3_0] 22 (0, 0)) (by (with_reducible repeat (first | refine blk_drewN ?_ _ | refine blk_drew ?_ | refine blk_alloc ?_ _)); exact BK376.out) hb)
                          have n7_ := Aside0.mk (blk_below (g := gb377) (o := .cells #[.func (.func 61) #[] #[.pointer (some ⟨gb374, 0, none⟩), .pointer (some ⟨gb375, 0, none⟩), .pointer (some ⟨gb376, 0, none⟩), .pointer (some ⟨gb377, 0, none⟩)]] 30 (0, 0)) (by (with_reducible repeat (first | refine blk_drewN ?_ _ | refine blk_drew ?_ | refine blk_alloc ?_ _)); exact BK377.out) hb)
                          have n8_ := Aside0.mk (Kept.below (S := (fun k_ => P0_ k_)) (by repeat (first | (with_reducible first | exact HK.out | apply Kept.alloc | apply Kept.drewN | apply Kept.drew | refine Kept.setCell ?_ (.inr GW374.out) _ | refine Kept.setCell ?_ (.inr GW375.out) _ | refine Kept.setCell ?_ (.inr GW376.out) _ | refine Kept.setCell ?_ (.inr GW377.out) _) | exact HK.out)) hb)
                          have n9_ := Aside0.mk (below_step (by repeat (first | (with_reducible first | exact HB.out | apply below_alloc | apply pw_below_drewN | apply below_drew1 | refine below_set ?_ GE374.out | refine below_set ?_ GE375.out | refine below_set ?_ GE376.out | refine below_set ?_ GE377.out) | exact HB.out)) hb)
                          clear HO_0
                          clear HO_24
                          clear HO385
                          clear BK374
                          clear BK375
                          clear BK376
                          clear BK377
                          clear HK
                          clear HB
                          have HO_0 := n0_
                          have HO_24 := n1_
                          have HO385 := n2_
                          have HO382 := n3_
                          have BK374 := n4_
                          have BK375 := n5_
                          have BK376 := n6_
                          have BK377 := n7_
                          have HK := n8_
                          have HB := n9_
                          clear n0_ n1_ n2_ n3_ n4_ n5_ n6_ n7_ n8_ n9_
                          (try clear hb)
                          (try clear hb2)
                          (try clear hk)
                          (try clear hi)
                          (try clear ho0)
                          refine hK.out _ _ ((blk_cell BK377.out 0).trans rfl) (fun hHeld => ?_)
                          clear hK K
                          refine norm_ (a' := ?_) ?_ ?_
                          rotate_left
                          · show Act.put _ (some 51) _ = _
                            simp only [Act.put, List.setIfInBounds_toArray, List.set_cons_zero, List.set_cons_succ, i64_w, i32_w]
                            rfl
                          exact norm_ (by simp only [putAll, Act.put, List.setIfInBounds_toArray, List.set_cons_zero, List.set_cons_succ]) (hCont (v381, v384) _ ⟨hHeld, (by (with_reducible repeat (first | apply Kd.R_alloc | apply Kd.R_drewN | apply Kd.R_drew)); exact Kd.R_mono HO382.out (fun _ hk => ⟨hk.1.1.1.1, ⟨hk.2, ⟨hk.1.1.2, hk.1.2⟩⟩⟩)), (by (with_reducible repeat (first | apply Kd.R_alloc | apply Kd.R_drewN | apply Kd.R_drew)); exact Kd.R_mono HO385.out (fun _ hk => ⟨hk.1.1.1.1, ⟨hk.2, ⟨hk.1.1.2, hk.1.2⟩⟩⟩)), (by (with_reducible repeat (first | apply Kd.R_alloc | apply Kd.R_drewN | apply Kd.R_drew)); exact Kd.R_mono HO_0.out (fun _ hk => ⟨hk.1.1, ⟨hk.2, hk.1.2⟩⟩)), (by (with_reducible repeat (first | apply Kd.R_alloc | apply Kd.R_drewN | apply Kd.R_drew)); exact Kd.R_mono HO_24.out (fun _ hk => ⟨hk.1.1, ⟨hk.2, hk.1.2⟩⟩)), (by (with_reducible repeat (first | refine blk_drewN ?_ _ | refine blk_drew ?_ | refine blk_alloc ?_ _)); exact BK374.out), (by (with_reducible repeat (first | refine blk_drewN ?_ _ | refine blk_drew ?_ | refine blk_alloc ?_ _)); exact BK375.out), (by (with_reducible repeat (first | refine blk_drewN ?_ _ | refine blk_drew ?_ | refine blk_alloc ?_ _)); exact BK376.out), (by (with_reducible repeat (first | refine blk_drewN ?_ _ | refine blk_drew ?_ | refine blk_alloc ?_ _)); exact BK377.out), (by repeat (first | (with_reducible first | exact HK.out | apply Kept.alloc | apply Kept.drewN | apply Kept.drew | refine Kept.setCell ?_ (.inr GW374.out) _ | refine Kept.setCell ?_ (.inr GW375.out) _ | refine Kept.setCell ?_ (.inr GW376.out) _ | refine Kept.setCell ?_ (.inr GW377.out) _) | exact HK.out)), (by repeat (first | (with_reducible first | exact HB.out | apply below_alloc | apply pw_below_drewN | apply below_drew1 | refine below_set ?_ GE374.out | refine below_set ?_ GE375.out | refine below_set ?_ GE376.out | refine below_set ?_ GE377.out) | exact HB.out))⟩)
                      rintro ⟨v381, v384⟩ w68 ⟨hS_, h0_, h1_, h2_, h3_, h4_, h5_, h6_, h7_, h8_, h9_⟩
                      have n0_ : Aside0 (Kd.R (Kd.int .i64) 3 w68 w0.heap.size (fun k_ => (P0_ k_ ∨ w.heap.size ≤ k_) ∧ some k_ ≠ (v384 : Value).ownBlock ∧ some k_ ≠ (.slice Ao20 l0.length co20 : Value).ownBlock ∧ some k_ ≠ (.slice Ao20 l0.length co20 : Value).ownBlock) v381 t380) := ⟨h0_⟩
                      have n1_ : Aside0 (Kd.R (Kd.int .i64) 3 w68 w0.heap.size (fun k_ => (P0_ k_ ∨ w.heap.size ≤ k_) ∧ some k_ ≠ (v381 : Value).ownBlock ∧ some k_ ≠ (.slice Ao20 l0.length co20 : Value).ownBlock ∧ some k_ ≠ (.slice Ao20 l0.length co20 : Value).ownBlock) v384 y383) := ⟨h1_⟩
                      have n2_ : Aside0 (Kd.R (Kd.int .i64) 3 w68 w0.heap.size (fun k_ => (P0_ k_ ∨ w.heap.size ≤ k_) ∧ some k_ ≠ (v381 : Value).ownBlock ∧ some k_ ≠ (v384 : Value).ownBlock) (.slice Ao20 l0.length co20) l0) := ⟨h2_⟩
                      have n3_ : Aside0 (Kd.R (Kd.int .i64) 3 w68 w0.heap.size (fun k_ => (P0_ k_ ∨ w.heap.size ≤ k_) ∧ some k_ ≠ (v381 : Value).ownBlock ∧ some k_ ≠ (v384 : Value).ownBlock) (.slice Ao20 l0.length co20) l0) := ⟨h3_⟩
                      have n4_ : Aside0 (w68.heap[gb374]? = some (.cells #[.int .i64 a1_0, .slice A1_1 l1_1.length c1_1] 26 (0, 0))) := ⟨h4_⟩
                      have n5_ : Aside0 (w68.heap[gb375]? = some (.cells #[.int .i64 a2_0] 3 (0, 0))) := ⟨h5_⟩
                      have n6_ : Aside0 (w68.heap[gb376]? = some (.cells #[.slice A3_0 l3_0.length c3_0] 22 (0, 0))) := ⟨h6_⟩
                      have n7_ : Aside0 (w68.heap[gb377]? = some (.cells #[.func (.func 61) #[] #[.pointer (some ⟨gb374, 0, none⟩), .pointer (some ⟨gb375, 0, none⟩), .pointer (some ⟨gb376, 0, none⟩), .pointer (some ⟨gb377, 0, none⟩)]] 30 (0, 0))) := ⟨h7_⟩
                      have n8_ : Aside0 (Kept w w68 (fun k_ => P0_ k_)) := ⟨h8_⟩
                      have n9_ : Aside0 (Below w0.heap.size w0 w68) := ⟨h9_⟩
                      clear HO_0
                      clear HO_24
                      clear BK374
                      clear BK375
                      clear BK376
                      clear BK377
                      clear HK
                      clear HB
                      clear h0_ h1_ h2_ h3_ h4_ h5_ h6_ h7_ h8_ h9_
                      have HO382 := n0_
                      have HO385 := n1_
                      have HO_0 := n2_
                      have HO_24 := n3_
                      have BK374 := n4_
                      have BK375 := n5_
                      have BK376 := n6_
                      have BK377 := n7_
                      have HK := n8_
                      have HB := n9_
                      clear n0_ n1_ n2_ n3_ n4_ n5_ n6_ n7_ n8_ n9_
                      have hHeld : w68.cell? ⟨gb377, 0, none⟩ = some (.func (.func 61) #[] #[.pointer (some ⟨gb374, 0, none⟩), .pointer (some ⟨gb375, 0, none⟩), .pointer (some ⟨gb376, 0, none⟩), .pointer (some ⟨gb377, 0, none⟩)]) := hS_
                      obtain ⟨Ao70, co70, eo70⟩ := Kd.R_slice HO385.out
                      (first | subst eo70 | (injection eo70 with f1_ f2_ f3_; have f4_ := f1_.symm; have f5_ := f3_.symm; clear f1_ f2_ f3_; subst f4_; subst f5_))
                      refine norm_ (a' := ?_) ?_ ?_
                      rotate_left
                      · simp only [putAll, Act.put, List.setIfInBounds_toArray, List.set_cons_zero, List.set_cons_succ]
                        rfl
                      refine one_ (i := 5) (N := some 54) #[true, true, true, true, true, true, false, false] rfl rfl (one_of HT_.out (by kernel_rfl)) (by decide) (fun K hK => ?_)
                      refine Kd.R_append_rows_step (Kd.int .i64) (w0 := w0) w0.heap.size (by rfl) (.tmp 51) (.tmp 53) 22 3 (.int .i64 0) 8 rfl Tryd.underlying22 info3 rfl (by decide) (by omega) v381 t380 y383 _ _ _ (fun k_ => (P0_ k_ ∨ w.heap.size ≤ k_) ∧ some k_ ≠ (.slice Ao20 l0.length co20 : Value).ownBlock ∧ some k_ ≠ (.slice Ao20 l0.length co20 : Value).ownBlock ∧ some k_ ≠ (.slice Ao70 y383.length co70 : Value).ownBlock) (fun _ => False) rfl rfl ?aO ?aR (fun _ _ h => h) (fun _ h => h.elim) ?aF ?aB ?aS ?aL ?_
                      (case aR => repeat (first | exact (Kd.R_reads' HO385.out).2.2 | (with_reducible refine Kd.C_alloc ?_ _) | (with_reducible refine Kd.C_drewN ?_ _) | (with_reducible refine Kd.C_drew ?_)))
                      (case aB => exact (by repeat (first | (with_reducible first | exact HB.out | apply below_alloc | apply pw_below_drewN | apply below_drew1 | refine below_set ?_ GE374.out | refine below_set ?_ GE375.out | refine below_set ?_ GE376.out | refine below_set ?_ GE377.out) | exact HB.out)))
                      (case aF => exact (fun k_ hk => ⟨(.inr (Nat.le_trans (by first | exact HK.out.1 | exact (show Kept w _ (fun k_ => P0_ k_) from by repeat (first | (with_reducible first | exact HK.out | apply Kept.alloc | apply Kept.drewN | apply Kept.drew | refine Kept.setCell ?_ (.inr GW374.out) _ | refine Kept.setCell ?_ (.inr GW375.out) _ | refine Kept.setCell ?_ (.inr GW376.out) _ | refine Kept.setCell ?_ (.inr GW377.out) _) | exact HK.out)).1) hk)), Kd.fresh' (Kd.R_lt (by (with_reducible repeat (first | apply Kd.R_alloc | apply Kd.R_drewN | apply Kd.R_drew)); exact HO_0.out)) k_ hk, Kd.fresh' (Kd.R_lt (by (with_reducible repeat (first | apply Kd.R_alloc | apply Kd.R_drewN | apply Kd.R_drew)); exact HO_24.out)) k_ hk, Kd.fresh' (Kd.R_lt (by (with_reducible repeat (first | apply Kd.R_alloc | apply Kd.R_drewN | apply Kd.R_drew)); exact HO385.out)) k_ hk⟩))
                      (case aO => exact (by (with_reducible repeat (first | apply Kd.R_alloc | apply Kd.R_drewN | apply Kd.R_drew)); exact Kd.R_mono HO382.out (fun _ hk => ⟨hk.1, ⟨hk.2.2.1, ⟨hk.2.2.2, hk.2.1⟩⟩⟩)))
                      (case aS => exact (below_size (by repeat (first | (with_reducible first | exact HB.out | apply below_alloc | apply pw_below_drewN | apply below_drew1 | refine below_set ?_ GE374.out | refine below_set ?_ GE375.out | refine below_set ?_ GE376.out | refine below_set ?_ GE377.out) | exact HB.out))))
                      (case aL => have := LMc52.out; omega)
                      intro v387 w69 ho hb hg hat
                      rw [← Ny386.out] at ho
                      have n0_ := Aside0.mk (Kd.R_after (ok := (fun k_ => (P0_ k_ ∨ w.heap.size ≤ k_) ∧ some k_ ≠ (.slice Ao70 y383.length co70 : Value).ownBlock)) (by (with_reducible repeat (first | apply Kd.R_alloc | apply Kd.R_drewN | apply Kd.R_drew)); exact Kd.R_mono HO_0.out (fun _ hk => ⟨⟨hk.1, hk.2.2⟩, hk.2.1⟩)) hg hat)
                      have n1_ := Aside0.mk (Kd.R_after (ok := (fun k_ => (P0_ k_ ∨ w.heap.size ≤ k_) ∧ some k_ ≠ (.slice Ao70 y383.length co70 : Value).ownBlock)) (by (with_reducible repeat (first | apply Kd.R_alloc | apply Kd.R_drewN | apply Kd.R_drew)); exact Kd.R_mono HO_24.out (fun _ hk => ⟨⟨hk.1, hk.2.2⟩, hk.2.1⟩)) hg hat)
                      have n2_ := Aside0.mk (blk_grown (g := gb374) (o := .cells #[.int .i64 a1_0, .slice A1_1 l1_1.length c1_1] 26 (0, 0)) (by (with_reducible repeat (first | refine blk_drewN ?_ _ | refine blk_drew ?_ | refine blk_alloc ?_ _)); exact BK374.out) hg (Kd.R_ne HO382.out BK374.out (by decide)))
                      have n3_ := Aside0.mk (blk_grown (g := gb375) (o := .cells #[.int .i64 a2_0] 3 (0, 0)) (by (with_reducible repeat (first | refine blk_drewN ?_ _ | refine blk_drew ?_ | refine blk_alloc ?_ _)); exact BK375.out) hg (fun e_ => NE375.out gb375 (by first | exact HO382.out.1 _ e_.symm | exact (HO382.out.1 _ e_.symm).1) rfl))
                      have n4_ := Aside0.mk (blk_grown (g := gb376) (o := .cells #[.slice A3_0 l3_0.length c3_0] 22 (0, 0)) (by (with_reducible repeat (first | refine blk_drewN ?_ _ | refine blk_drew ?_ | refine blk_alloc ?_ _)); exact BK376.out) hg (Kd.R_ne HO382.out BK376.out (by decide)))
                      have n5_ := Aside0.mk (blk_grown (g := gb377) (o := .cells #[.func (.func 61) #[] #[.pointer (some ⟨gb374, 0, none⟩), .pointer (some ⟨gb375, 0, none⟩), .pointer (some ⟨gb376, 0, none⟩), .pointer (some ⟨gb377, 0, none⟩)]] 30 (0, 0)) (by (with_reducible repeat (first | refine blk_drewN ?_ _ | refine blk_drew ?_ | refine blk_alloc ?_ _)); exact BK377.out) hg (Kd.R_ne HO382.out BK377.out (by decide)))
                      have n6_ := Aside0.mk (Kd.R_after (ok := (fun k_ => (P0_ k_ ∨ w.heap.size ≤ k_) ∧ some k_ ≠ (.slice Ao20 l0.length co20 : Value).ownBlock ∧ some k_ ≠ (.slice Ao20 l0.length co20 : Value).ownBlock)) (by (with_reducible repeat (first | apply Kd.R_alloc | apply Kd.R_drewN | apply Kd.R_drew)); exact Kd.R_mono HO385.out (fun _ hk => ⟨⟨hk.1, ⟨hk.2.2.1, hk.2.2.2⟩⟩, hk.2.1⟩)) hg hat)
                      have n7_ := Aside0.mk (hb)
                      have n8_ := Aside0.mk (Kept.of_grown (S := (fun k_ => P0_ k_)) hg (by repeat (first | (with_reducible first | exact HK.out | apply Kept.alloc | apply Kept.drewN | apply Kept.drew | refine Kept.setCell ?_ (.inr GW374.out) _ | refine Kept.setCell ?_ (.inr GW375.out) _ | refine Kept.setCell ?_ (.inr GW376.out) _ | refine Kept.setCell ?_ (.inr GW377.out) _) | exact HK.out)) (fun k_ e_ => (HO382.out.1 k_ e_).1))
                      have n9_ := Aside0.mk (ho)
                      clear HO_0
                      clear HO_24
                      clear BK374
                      clear BK375
                      clear BK376
                      clear BK377
                      clear HO385
                      clear HB
                      clear HK
                      clear HO382
                      have HO_0 := n0_
                      have HO_24 := n1_
                      have BK374 := n2_
                      have BK375 := n3_
                      have BK376 := n4_
                      have BK377 := n5_
                      have HO385 := n6_
                      have HB := n7_
                      have HK := n8_
                      have HO388 := n9_
                      clear n0_ n1_ n2_ n3_ n4_ n5_ n6_ n7_ n8_ n9_
                      clear ho hb hg hat
                      obtain ⟨Ao71, co71, eo71⟩ := Kd.R_slice HO388.out
                      (first | subst eo71 | (injection eo71 with f1_ f2_ f3_; have f4_ := f1_.symm; have f5_ := f3_.symm; clear f1_ f2_ f3_; subst f4_; subst f5_))
                      refine hK.out _ _ ((blk_cell BK377.out 0).trans rfl) (fun hHeld => ?_)
                      clear hK K
                      refine norm_ (a' := ?_) ?_ ?_
                      rotate_left
                      · show Act.put _ (some 54) _ = _
                        simp only [Act.put, List.setIfInBounds_toArray, List.set_cons_zero, List.set_cons_succ, i64_w, i32_w]
                        rfl
                      refine one_ (i := 6) (N := some 55) #[true, true, true, true, true, true, true, false] rfl rfl (one_of HT_.out (by kernel_rfl)) (by decide) (fun K hK => ?_)
                      refine L.goesV1_ (f := 61) (caps := #[.pointer (some ⟨gb374, 0, none⟩), .pointer (some ⟨gb375, 0, none⟩), .pointer (some ⟨gb376, 0, none⟩), .pointer (some ⟨gb377, 0, none⟩)]) #[.slice Ao71 y386.length co71] (by rfl) rfl rfl rfl (by (try simp only [List.map_toArray, List.map_cons, List.map_nil]); first | done | rfl | (simp only [List.length_drop, List.length_take]; rfl)) HEV.out ?_
                      simp only [List.append_toArray, List.cons_append, List.nil_append]
                      with_reducible refine (ih k2 (by have := HK1.out; have := HK2.out; omega) (fun k_ => some k_ = (.slice Ao71 y386.length co71 : Value).ownBlock) (.slice Ao71 y386.length co71) y386 a1_0 A1_1 c1_1 l1_1 a2_0 A3_0 c3_0 l3_0 a4_0 t389 w0 _ ?side1 ?side2 ?side3 ?side4 ?side5 ?side6 gb374 ?sideG374 gb375 ?sideG375 gb376 ?sideG376 gb377 ?sideG377  ?sideP ?sideN A53.out).mono ?_
                      (case sideP => exact (fun e_ => NE375.out gb375 (by first | exact HO388.out.1 _ e_.symm | exact (HO388.out.1 _ e_.symm).1) rfl))
                      (case sideG374 => (with_reducible repeat (first | refine blk_drewN ?_ _ | refine blk_drew ?_ | refine blk_alloc ?_ _)); exact BK374.out)
                      (case sideG375 => (with_reducible repeat (first | refine blk_drewN ?_ _ | refine blk_drew ?_ | refine blk_alloc ?_ _)); exact BK375.out)
                      (case sideG376 => (with_reducible repeat (first | refine blk_drewN ?_ _ | refine blk_drew ?_ | refine blk_alloc ?_ _)); exact BK376.out)
                      (case sideG377 => (with_reducible repeat (first | refine blk_drewN ?_ _ | refine blk_drew ?_ | refine blk_alloc ?_ _)); exact BK377.out)
                      (case sideN => exact L.Blk.ofR HO388.out (by rw [Ny386.out]; exact L.app_ne _ (by rw [Ny383.out]; simp)))
                      (case side1 => repeat (first | (with_reducible first | exact HB.out | apply below_alloc | apply pw_below_drewN | apply below_drew1 | refine below_set ?_ GE374.out | refine below_set ?_ GE375.out | refine below_set ?_ GE376.out | refine below_set ?_ GE377.out) | exact HB.out))
                      (case side2 => exact Kd.R_tight rfl HO388.out)
                      (case side3 => exact Kd.C_kept_call HR1_1.out (by repeat (first | (with_reducible first | exact HK.out | apply Kept.alloc | apply Kept.drewN | apply Kept.drew | refine Kept.setCell ?_ (.inr GW374.out) _ | refine Kept.setCell ?_ (.inr GW375.out) _ | refine Kept.setCell ?_ (.inr GW376.out) _ | refine Kept.setCell ?_ (.inr GW377.out) _) | exact HK.out)) (fun k_ hs_ => (fun e_ => (HO388.out.1 k_ e_.symm).1) hs_))
                      (case side4 => exact HC1_1.out)
                      (case side5 => exact Kd.C_kept_call HR3_0.out (by repeat (first | (with_reducible first | exact HK.out | apply Kept.alloc | apply Kept.drewN | apply Kept.drew | refine Kept.setCell ?_ (.inr GW374.out) _ | refine Kept.setCell ?_ (.inr GW375.out) _ | refine Kept.setCell ?_ (.inr GW376.out) _ | refine Kept.setCell ?_ (.inr GW377.out) _) | exact HK.out)) (fun k_ hs_ => (fun e_ => (HO388.out.1 k_ e_.symm).1) hs_))
                      (case side6 => exact HC3_0.out)
                      rintro e w72 ⟨v390, rfl, ho0, hnq0, hb, hkp⟩
                      have hnq1 := L.nil_eql (P := Tryd.prog) Tryd.underlying22 hnq0
                      have hnq2 := L.nil_neq (P := Tryd.prog) Tryd.underlying22 hnq0
                      have hnq3 : ∀ op t x y W, (Go.eqGuard op t x y v390 (.slice none 0 0)).run Tryd.prog W = .ok () W := fun op t x y W => (by unfold Go.eqGuard; cases op <;> cases v390 <;> rfl)
                      have HNQ := Aside0.mk hnq0
                      clear hnq0
                      refine ⟨_, rfl, ?_⟩
                      have n0_ := Aside0.mk (Kd.R_mono (ok' := fun k_ => (P0_ k_ ∨ w.heap.size ≤ k_) ∧ some k_ ≠ (.slice Ao70 y383.length co70 : Value).ownBlock ∧ some k_ ≠ (v390 : Value).ownBlock) (Kd.R_keptB (HO_0.out) hkp (fun k_ hk_ hs_ => (hk_.2) hs_)) (fun k_ hk_ => ⟨hk_.1.1.1, hk_.1.1.2, fun e_ => Or.elim (ho0.1 k_ e_.symm) (fun hs_ => hk_.2.1 hs_) (fun hn_ => Nat.not_le.2 hk_.2.2 hn_)⟩))
                      have n1_ := Aside0.mk (Kd.R_mono (ok' := fun k_ => (P0_ k_ ∨ w.heap.size ≤ k_) ∧ some k_ ≠ (.slice Ao70 y383.length co70 : Value).ownBlock ∧ some k_ ≠ (v390 : Value).ownBlock) (Kd.R_keptB (HO_24.out) hkp (fun k_ hk_ hs_ => (hk_.2) hs_)) (fun k_ hk_ => ⟨hk_.1.1.1, hk_.1.1.2, fun e_ => Or.elim (ho0.1 k_ e_.symm) (fun hs_ => hk_.2.1 hs_) (fun hn_ => Nat.not_le.2 hk_.2.2 hn_)⟩))
                      have n2_ := Aside0.mk (blk_kept (by (with_reducible repeat (first | refine blk_drewN ?_ _ | refine blk_drew ?_ | refine blk_alloc ?_ _)); exact BK374.out) hkp (fun hs_ => (fun e_ => (Kd.R_ne HO388.out BK374.out (by decide)) e_) hs_))
                      have n3_ := Aside0.mk (blk_kept (by (with_reducible repeat (first | refine blk_drewN ?_ _ | refine blk_drew ?_ | refine blk_alloc ?_ _)); exact BK375.out) hkp (fun hs_ => (fun e_ => (fun e_ => NE375.out gb375 (by first | exact HO388.out.1 _ e_.symm | exact (HO388.out.1 _ e_.symm).1) rfl) e_) hs_))
                      have n4_ := Aside0.mk (blk_kept (by (with_reducible repeat (first | refine blk_drewN ?_ _ | refine blk_drew ?_ | refine blk_alloc ?_ _)); exact BK376.out) hkp (fun hs_ => (fun e_ => (Kd.R_ne HO388.out BK376.out (by decide)) e_) hs_))
                      have n5_ := Aside0.mk (blk_kept (by (with_reducible repeat (first | refine blk_drewN ?_ _ | refine blk_drew ?_ | refine blk_alloc ?_ _)); exact BK377.out) hkp (fun hs_ => (fun e_ => (Kd.R_ne HO388.out BK377.out (by decide)) e_) hs_))
                      have n6_ := Aside0.mk (Kd.R_mono (ok' := fun k_ => (P0_ k_ ∨ w.heap.size ≤ k_) ∧ some k_ ≠ (.slice Ao20 l0.length co20 : Value).ownBlock ∧ some k_ ≠ (.slice Ao20 l0.length co20 : Value).ownBlock ∧ some k_ ≠ (v390 : Value).ownBlock) (Kd.R_keptB (HO385.out) hkp (fun k_ hk_ hs_ => (hk_.2) hs_)) (fun k_ hk_ => ⟨hk_.1.1.1, hk_.1.1.2.1, hk_.1.1.2.2, fun e_ => Or.elim (ho0.1 k_ e_.symm) (fun hs_ => hk_.2.1 hs_) (fun hn_ => Nat.not_le.2 hk_.2.2 hn_)⟩))
                      have n7_ := Aside0.mk (Kd.R_mono (ok' := fun k_ => (P0_ k_ ∨ w.heap.size ≤ k_) ∧ some k_ ≠ (.slice Ao20 l0.length co20 : Value).ownBlock ∧ some k_ ≠ (.slice Ao20 l0.length co20 : Value).ownBlock ∧ some k_ ≠ (.slice Ao70 y383.length co70 : Value).ownBlock) ho0 (fun k_ hk_ => ⟨Or.elim hk_ (fun hs_ => (HO388.out.1 k_ (hs_).symm).1) (fun hn_ => (.inr (Nat.le_trans (by first | exact HK.out.1 | exact (show Kept w _ (fun k_ => P0_ k_) from by repeat (first | (with_reducible first | exact HK.out | apply Kept.alloc | apply Kept.drewN | apply Kept.drew | refine Kept.setCell ?_ (.inr GW374.out) _ | refine Kept.setCell ?_ (.inr GW375.out) _ | refine Kept.setCell ?_ (.inr GW376.out) _ | refine Kept.setCell ?_ (.inr GW377.out) _) | exact HK.out)).1) hn_))), Or.elim hk_ (fun hs_ => fun e_ => (((HO_0.out).1 k_ e_.symm).2) hs_) (fun hn_ => (Kd.fresh' (Kd.R_lt (by (with_reducible repeat (first | apply Kd.R_alloc | apply Kd.R_drewN | apply Kd.R_drew)); exact HO_0.out)) k_ hn_)), Or.elim hk_ (fun hs_ => fun e_ => (((HO_24.out).1 k_ e_.symm).2) hs_) (fun hn_ => (Kd.fresh' (Kd.R_lt (by (with_reducible repeat (first | apply Kd.R_alloc | apply Kd.R_drewN | apply Kd.R_drew)); exact HO_24.out)) k_ hn_)), Or.elim hk_ (fun hs_ => fun e_ => (((HO385.out).1 k_ e_.symm).2) hs_) (fun hn_ => (Kd.fresh' (Kd.R_lt (by (with_reducible repeat (first | apply Kd.R_alloc | apply Kd.R_drewN | apply Kd.R_drew)); exact HO385.out)) k_ hn_))⟩))
                      have n8_ := Aside0.mk (Kept.then_ (S := (fun k_ => P0_ k_)) (by repeat (first | (with_reducible first | exact HK.out | apply Kept.alloc | apply Kept.drewN | apply Kept.drew | refine Kept.setCell ?_ (.inr GW374.out) _ | refine Kept.setCell ?_ (.inr GW375.out) _ | refine Kept.setCell ?_ (.inr GW376.out) _ | refine Kept.setCell ?_ (.inr GW377.out) _) | exact HK.out)) hkp (fun k_ hs_ => (fun e_ => (HO388.out.1 k_ e_.symm).1) hs_))
                      have n9_ := Aside0.mk (hb)
                      clear HO_0
                      clear HO_24
                      clear BK374
                      clear BK375
                      clear BK376
                      clear BK377
                      clear HO385
                      clear HK
                      clear HB
                      clear HO388
                      have HO_0 := n0_
                      have HO_24 := n1_
                      have BK374 := n2_
                      have BK375 := n3_
                      have BK376 := n4_
                      have BK377 := n5_
                      have HO385 := n6_
                      have HO391 := n7_
                      have HK := n8_
                      have HB := n9_
                      clear n0_ n1_ n2_ n3_ n4_ n5_ n6_ n7_ n8_ n9_
                      (try clear hb)
                      (try clear hkp)
                      (try clear ho0)
                      refine hK.out _ _ ((blk_cell BK377.out 0).trans rfl) (fun hHeld => ?_)
                      clear hK K
                      refine norm_ (a' := ?_) ?_ ?_
                      rotate_left
                      · show Act.put _ (some 55) _ = _
                        simp only [Act.put, List.setIfInBounds_toArray, List.set_cons_zero, List.set_cons_succ, i64_w, i32_w]
                        rfl
                      refine pure_ (i := 7) (N := some 12) (v := ?_) (a' := ?_) #[true, true, true, true, true, true, true, true] rfl rfl (any_of HT_.out (by kernel_rfl)) (fun _ _ _ h => h) (Or.inl ⟨by rfl, ?_⟩) ?_ ?_
                      rotate_left
                      · intro w'
                        go_simp
                        with_reducible rfl
                      rotate_left
                      · simp only [Act.put, List.setIfInBounds_toArray, List.set_cons_zero, List.set_cons_succ, i64_w, i32_w]
                        rfl
                      refine done_ (done_of HT_.out (by kernel_rfl)) ?_
                      try go_wp2
                      go_ret
                      exact ⟨_, by first | rfl | (simp [errW_none, errW_some] <;> rfl) | (simp [*, errW_none, errW_some] <;> rfl), by (with_reducible repeat (first | apply Kd.R_alloc | apply Kd.R_drewN | apply Kd.R_drew)); exact Kd.R_mono HO391.out (fun _ hk => hk.1), (by first | exact L.NilIs.own2 HBK.out rfl | (exact L.NilIs.own2 HBK.out (by rw [HC5.out]; simp)) | (rw [HC5.out]; exact L.NilIs.nil_) | (exact L.NilIs.found HNQ.out (by assumption) (fun e_ => impl_ChainNumbers_1.ne A53.out (L.app_ne2 Ny386.out Ny383.out) (by assumption) e_))), by repeat (first | (with_reducible first | exact HB.out | apply below_alloc | apply pw_below_drewN | apply below_drew1 | refine below_set ?_ GE374.out | refine below_set ?_ GE375.out | refine below_set ?_ GE376.out | refine below_set ?_ GE377.out) | exact HB.out), by repeat (first | (with_reducible first | exact HK.out | apply Kept.alloc | apply Kept.drewN | apply Kept.drew | refine Kept.setCell ?_ (.inr GW374.out) _ | refine Kept.setCell ?_ (.inr GW375.out) _ | refine Kept.setCell ?_ (.inr GW376.out) _ | refine Kept.setCell ?_ (.inr GW377.out) _) | exact HK.out)⟩
                    · rw [if_neg c54] at H
                      have c54b0 : (!(t389.isEmpty && !((y386.length : Int) == a1_0))) = false := by simpa using c54
                      clear c54
                      have H' := Aside0.mk H
                      clear H
                      have hnb73 := NB374_375.out
                      have hnc73 := NB375_374.out
                      have hnb74 := NB374_376.out
                      have hnc74 := NB376_374.out
                      have hnb75 := NB374_377.out
                      have hnc75 := NB377_374.out
                      have hcz76_0 : wr.cell? ⟨gb374, 0, none⟩ = some (.int .i64 a1_0) := (blk_cell BK374.out 0).trans rfl
                      have hcz76_1 : wr.cell? ⟨gb374, 1, none⟩ = some (.slice A1_1 l1_1.length c1_1) := (blk_cell BK374.out 1).trans rfl
                      have hfz76_0 := blk_frozen BK374.out 0
                      have hfz76_1 := blk_frozen BK374.out 1
                      have hnb77 := NB375_376.out
                      have hnc77 := NB376_375.out
                      have hnb78 := NB375_377.out
                      have hnc78 := NB377_375.out
                      have hcz79_0 : wr.cell? ⟨gb375, 0, none⟩ = some (.int .i64 a2_0) := (blk_cell BK375.out 0).trans rfl
                      have hfz79_0 := blk_frozen BK375.out 0
                      have hnb80 := NB376_377.out
                      have hnc80 := NB377_376.out
                      have hcz81_0 : wr.cell? ⟨gb376, 0, none⟩ = some (.slice A3_0 l3_0.length c3_0) := (blk_cell BK376.out 0).trans rfl
                      have hfz81_0 := blk_frozen BK376.out 0
                      try go_wp2
                      have n0_ := Aside0.mk (Kd.R_drew HO_0.out)
                      have n1_ := Aside0.mk (Kd.R_drew HO_24.out)
                      have n2_ := Aside0.mk (blk_drew BK374.out)
                      have n3_ := Aside0.mk (blk_drew BK375.out)
                      have n4_ := Aside0.mk (blk_drew BK376.out)
                      have n5_ := Aside0.mk (blk_drew BK377.out)
                      have n6_ := Aside0.mk (Kept.drew HK.out)
                      have n7_ := Aside0.mk (below_drew1 HB.out)
                      clear HO_0
                      clear HO_24
                      clear BK374
                      clear BK375
                      clear BK376
                      clear BK377
                      clear HK
                      clear HB
                      have HO_0 := n0_
                      have HO_24 := n1_
                      have BK374 := n2_
                      have BK375 := n3_
                      have BK376 := n4_
                      have BK377 := n5_
                      have HK := n6_
                      have HB := n7_
                      clear n0_ n1_ n2_ n3_ n4_ n5_ n6_ n7_
                      refine start_ (n := 8) (S := fun w' => w'.cell? ⟨gb377, 0, none⟩ = some (.func (.func 61) #[] #[.pointer (some ⟨gb374, 0, none⟩), .pointer (some ⟨gb375, 0, none⟩), .pointer (some ⟨gb376, 0, none⟩), .pointer (some ⟨gb377, 0, none⟩)])) (ds := []) #[false, false, false, false, false, false, false, false] (by kernel_rfl) rfl rfl ((blk_cell BK377.out 0).trans rfl) (fun hHeld => ?_); refine with_tabW impl_ChainNumbers_1.tab14 impl_ChainNumbers_1.bits14 (fun HT_ HW_ => ?_)
                      generalize wr.drew = w82 at HO_0 HO_24 BK374 BK375 BK376 BK377 HK HB hHeld ⊢
                      refine pure_ (i := 1) (N := some 50) (v := ?_) (a' := ?_) #[false, true, false, false, false, false, false, false] rfl rfl (any_of HT_.out (by kernel_rfl)) (fun _ _ _ h => h) (Or.inl ⟨by rfl, ?_⟩) ?_ ?_
                      rotate_left
                      · intro w'
                        go_simp
                        with_reducible rfl
                      rotate_left
                      · simp only [Act.put, List.setIfInBounds_toArray, List.set_cons_zero, List.set_cons_succ, i64_w, i32_w]
                        rfl
                      refine pure_ (i := 3) (N := some 52) (v := ?_) (a' := ?_) #[false, true, false, true, false, false, false, false] rfl rfl (any_of HT_.out (by kernel_rfl)) (fun _ _ _ h => h) (Or.inl ⟨by rfl, ?_⟩) ?_ ?_
                      rotate_left
                      · intro w'
                        go_simp
                        with_reducible rfl
                      rotate_left
                      · simp only [Act.put, List.setIfInBounds_toArray, List.set_cons_zero, List.set_cons_succ, i64_w, i32_w]
                        rfl
                      refine take_ (i := 0) (N := some 49) (v := ?_) (a' := ?_) #[true, true, false, true, false, false, false, false] rfl rfl (take_ofW HT_.out HW_.out (by kernel_rfl)) (fun _ _ _ h => h) (Or.inl ⟨by rfl, ?_⟩) hHeld ?_ ?_
                      rotate_left
                      · intro w' s0
                        go_simp
                        with_reducible rfl
                      rotate_left
                      · simp only [Act.put, List.setIfInBounds_toArray, List.set_cons_zero, List.set_cons_succ, i64_w, i32_w]
                        rfl
                      refine join_ (σ := Value × Value) 3 #[true, true, true, true, true, false, false, false] (fun s_ => [(51, s_.1), (53, s_.2)]) (fun s_ w' => (w'.cell? ⟨gb377, 0, none⟩ = some (.func (.func 61) #[] #[.pointer (some ⟨gb374, 0, none⟩), .pointer (some ⟨gb375, 0, none⟩), .pointer (some ⟨gb376, 0, none⟩), .pointer (some ⟨gb377, 0, none⟩)])) ∧ (Kd.R (Kd.int .i64) 3 w' w0.heap.size (fun k_ => (P0_ k_ ∨ w.heap.size ≤ k_) ∧ some k_ ≠ (s_.2 : Value).ownBlock ∧ some k_ ≠ (.slice Ao20 l0.length co20 : Value).ownBlock ∧ some k_ ≠ (.slice Ao20 l0.length co20 : Value).ownBlock) s_.1 t380) ∧ (Kd.R (Kd.int .i64) 3 w' w0.heap.size (fun k_ => (P0_ k_ ∨ w.heap.size ≤ k_) ∧ some k_ ≠ (s_.1 : Value).ownBlock ∧ some k_ ≠ (.slice Ao20 l0.length co20 : Value).ownBlock ∧ some k_ ≠ (.slice Ao20 l0.length co20 : Value).ownBlock) s_.2 y383) ∧ (Kd.R (Kd.int .i64) 3 w' w0.heap.size (fun k_ => (P0_ k_ ∨ w.heap.size ≤ k_) ∧ some k_ ≠ (s_.1 : Value).ownBlock ∧ some k_ ≠ (s_.2 : Value).ownBlock) (.slice Ao20 l0.length co20) l0) ∧ (Kd.R (Kd.int .i64) 3 w' w0.heap.size (fun k_ => (P0_ k_ ∨ w.heap.size ≤ k_) ∧ some k_ ≠ (s_.1 : Value).ownBlock ∧ some k_ ≠ (s_.2 : Value).ownBlock) (.slice Ao20 l0.length co20) l0) ∧ (w'.heap[gb374]? = some (.cells #[.int .i64 a1_0, .slice A1_1 l1_1.length c1_1] 26 (0, 0))) ∧ (w'.heap[gb375]? = some (.cells #[.int .i64 a2_0] 3 (0, 0))) ∧ (w'.heap[gb376]? = some (.cells #[.slice A3_0 l3_0.length c3_0] 22 (0, 0))) ∧ (w'.heap[gb377]? = some (.cells #[.func (.func 61) #[] #[.pointer (some ⟨gb374, 0, none⟩), .pointer (some ⟨gb375, 0, none⟩), .pointer (some ⟨gb376, 0, none⟩), .pointer (some ⟨gb377, 0, none⟩)]] 30 (0, 0))) ∧ (Kept w w' (fun k_ => P0_ k_)) ∧ (Below w0.heap.size w0 w')) ?_ ?_
                      rotate_left
                      · intro hCont
                        refine two_ (i := 2) (j := 4) (Ni := some 51) (Nj := some 53) #[true, true, true, true, false, false, false, false] #[true, true, false, true, true, false, false, false] rfl rfl rfl rfl (two_of HT_.out (by kernel_rfl)) (by decide) (by decide) (fun K hK => ?_) (fun K hK => ?_)
                        · skip
                          refine goes_ Tryd.func62 (by kernel_rfl) rfl #[.slice Ao20 l0.length co20] (by rfl) rfl rfl (by (try simp only [List.map_toArray, List.map_cons, List.map_nil]); first | done | rfl | (simp only [List.length_drop, List.length_take]; rfl)) ?_
                          with_reducible refine (slices_Clone_int_int.calls _ _ l0 t380 _ ?side1 ?side2 A51.out).mono ?_
                          (case side1 => repeat (first | exact (Kd.R_reads' HO_0.out).2.2 | (with_reducible refine Kd.C_alloc ?_ _) | (with_reducible refine Kd.C_drewN ?_ _) | (with_reducible refine Kd.C_drew ?_)))
                          (case side2 => exact (Kd.R_reads' HO_0.out).2.1)
                          rintro e w83 ⟨v381, rfl, ho0, hb⟩
                          refine ⟨_, rfl, ?_⟩
                          have n0_ := Aside0.mk (Kd.R_elder' (by (with_reducible repeat (first | apply Kd.R_alloc | apply Kd.R_drewN | apply Kd.R_drew)); exact HO_0.out) (Kd.R_base ho0) hb)
                          have n1_ := Aside0.mk (Kd.R_elder' (by (with_reducible repeat (first | apply Kd.R_alloc | apply Kd.R_drewN | apply Kd.R_drew)); exact HO_24.out) (Kd.R_base ho0) hb)
                          have n2_ := Aside0.mk (Kd.R_lower (Kd.R_new' (Kd.R_new' (Kd.R_newM (M := fun k_ => (P0_ k_ ∨ w.heap.size ≤ k_)) ho0 (by first | exact HK.out.1 | exact (show Kept w _ (fun k_ => P0_ k_) from by repeat (first | (with_reducible first | exact HK.out | apply Kept.alloc | apply Kept.drewN | apply Kept.drew | refine Kept.setCell ?_ (.inr GW374.out) _ | refine Kept.setCell ?_ (.inr GW375.out) _ | refine Kept.setCell ?_ (.inr GW376.out) _ | refine Kept.setCell ?_ (.inr GW377.out) _) | exact HK.out)).1) (fun k_ h_ => .inr h_)) (Kd.R_lt (by (with_reducible repeat (first | apply Kd.R_alloc | apply Kd.R_drewN | apply Kd.R_drew)); exact HO_0.out))) (Kd.R_lt (by (with_reducible repeat (first | apply Kd.R_alloc | apply Kd.R_drewN | apply Kd.R_drew)); exact HO_24.out))) (below_size (by repeat (first | (with_reducible first | exact HB.out | apply below_alloc | apply pw_below_drewN | apply below_drew1 | refine below_set ?_ GE374.out | refine below_set ?_ GE375.out | refine below_set ?_ GE376.out | refine below_set ?_ GE377.out) | exact HB.out))))
                          have n3_ := Aside0.mk (blk_below (g := gb374) (o := .cells #[.int .i64 a1_0, .slice A1_1 l1_1.length c1_1] 26 (0, 0)) (by (with_reducible repeat (first | refine blk_drewN ?_ _ | refine blk_drew ?_ | refine blk_alloc ?_ _)); exact BK374.out) hb)
                          have n4_ := Aside0.mk (blk_below (g := gb375) (o := .cells #[.int .i64 a2_0] 3 (0, 0)) (by (with_reducible repeat (first | refine blk_drewN ?_ _ | refine blk_drew ?_ | refine blk_alloc ?_ _)); exact BK375.out) hb)
                          have n5_ := Aside0.mk (blk_below (g := gb376) (o := .cells #[.slice A3_0 l3_0.length c3_0] 22 (0, 0)) (by (with_reducible repeat (first | refine blk_drewN ?_ _ | refine blk_drew ?_ | refine blk_alloc ?_ _)); exact BK376.out) hb)
                          have n6_ := Aside0.mk (blk_below (g := gb377) (o := .cells #[.func (.func 61) #[] #[.pointer (some ⟨gb374, 0, none⟩), .pointer (some ⟨gb375, 0, none⟩), .pointer (some ⟨gb376, 0, none⟩), .pointer (some ⟨gb377, 0, none⟩)]] 30 (0, 0)) (by (with_reducible repeat (first | refine blk_drewN ?_ _ | refine blk_drew ?_ | refine blk_alloc ?_ _)); exact BK377.out) hb)
                          have n7_ := Aside0.mk (Kept.below (S := (fun k_ => P0_ k_)) (by repeat (first | (with_reducible first | exact HK.out | apply Kept.alloc | apply Kept.drewN | apply Kept.drew | refine Kept.setCell ?_ (.inr GW374.out) _ | refine Kept.setCell ?_ (.inr GW375.out) _ | refine Kept.setCell ?_ (.inr GW376.out) _ | refine Kept.setCell ?_ (.inr GW377.out) _) | exact HK.out)) hb)
                          have n8_ := Aside0.mk (below_step (by repeat (first | (with_reducible first | exact HB.out | apply below_alloc | apply pw_below_drewN | apply below_drew1 | refine below_set ?_ GE374.out | refine below_set ?_ GE375.out | refine below_set ?_ GE376.out | refine below_set ?_ GE377.out) | exact HB.out)) hb)
                          clear HO_0
                          clear HO_24
                          clear BK374
                          clear BK375
                          clear BK376
                          clear BK377
                          clear HK
                          clear HB
                          have HO_0 := n0_
                          have HO_24 := n1_
                          have HO382 := n2_
                          have BK374 := n3_
                          have BK375 := n4_
                          have BK376 := n5_
                          have BK377 := n6_
                          have HK := n7_
                          have HB := n8_
                          clear n0_ n1_ n2_ n3_ n4_ n5_ n6_ n7_ n8_
                          (try clear hb)
                          (try clear hb2)
                          (try clear hk)
                          (try clear hi)
                          (try clear ho0)
                          refine hK.out _ _ ((blk_cell BK377.out 0).trans rfl) (fun hHeld => ?_)
                          clear hK K
                          refine norm_ (a' := ?_) ?_ ?_
                          rotate_left
                          · show Act.put _ (some 51) _ = _
                            simp only [Act.put, List.setIfInBounds_toArray, List.set_cons_zero, List.set_cons_succ, i64_w, i32_w]
                            rfl
                          refine one_ (i := 4) (N := some 53) #[true, true, true, true, true, false, false, false] rfl rfl (one_of HT_.out (by kernel_rfl)) (by decide) (fun K hK => ?_)
                          refine Kd.R_lit_step (Kd.int .i64) _ 3 ?hg (N := 53) ?hd (xs := ([x21_1] : List Int)) (inner := [.int .i64 x21_1]) (ok := fun _ => True) (okp := fun _ => True) ?hr ?hp (fun _ hk => hk) trivial (Below.refl _ _) (Nat.le_refl _) (by simp) ?_; (case hd => rfl); (case hg => rfl); (case hr => first | (go_simp; done) | (go_simp; rfl)); (case hp => exact (Reps.one (show Kd.M (Kd.int .i64) _ _ _ x21_1 [.int .i64 x21_1] from rfl) (Reps.none _ _)))
                          intro v384 w84 ho85 hb hg_ hnew_
                          clear hg_ hnew_
                          (first | rw [← Ny383.out] at ho85 | (simp only [Int.reduceToNat] at ho85; rw [← Ny383.out] at ho85))
                          have n0_ := Aside0.mk (Kd.R_elder' (by (with_reducible repeat (first | apply Kd.R_alloc | apply Kd.R_drewN | apply Kd.R_drew)); exact HO_0.out) (Kd.R_base ho85) hb)
                          have n1_ := Aside0.mk (Kd.R_elder' (by (with_reducible repeat (first | apply Kd.R_alloc | apply Kd.R_drewN | apply Kd.R_drew)); exact HO_24.out) (Kd.R_base ho85) hb)
                          have n2_ := Aside0.mk (Kd.R_elder' (by (with_reducible repeat (first | apply Kd.R_alloc | apply Kd.R_drewN | apply Kd.R_drew)); exact HO382.out) (Kd.R_base ho85) hb)
                          have n3_ := Aside0.mk (Kd.R_lower (Kd.R_new' (Kd.R_new' (Kd.R_new' (Kd.R_newM (M := fun k_ => (P0_ k_ ∨ w.heap.size ≤ k_)) ho85 (by first | exact HK.out.1 | exact (show Kept w _ (fun k_ => P0_ k_) from by repeat (first | (with_reducible first | exact HK.out | apply Kept.alloc | apply Kept.drewN | apply Kept.drew | refine Kept.setCell ?_ (.inr GW374.out) _ | refine Kept.setCell ?_ (.inr GW375.out) _ | refine Kept.setCell ?_ (.inr GW376.out) _ | refine Kept.setCell ?_ (.inr GW377.out) _) | exact HK.out)).1) (fun k_ h_ => .inr h_)) (Kd.R_lt (by (with_reducible repeat (first | apply Kd.R_alloc | apply Kd.R_drewN | apply Kd.R_drew)); exact HO_0.out))) (Kd.R_lt (by (with_reducible repeat (first | apply Kd.R_alloc | apply Kd.R_drewN | apply Kd.R_drew)); exact HO_24.out))) (Kd.R_lt (by (with_reducible repeat (first | apply Kd.R_alloc | apply Kd.R_drewN | apply Kd.R_drew)); exact HO382.out))) (below_size (by repeat (first | (with_reducible first | exact HB.out | apply below_alloc | apply pw_below_drewN | apply below_drew1 | refine below_set ?_ GE374.out | refine below_set ?_ GE375.out | refine below_set ?_ GE376.out | refine below_set ?_ GE377.out) | exact HB.out))))
                          have n4_ := Aside0.mk (blk_below (g := gb374) (o := .cells #[.int .i64 a1_0, .slice A1_1 l1_1.length c1_1] 26 (0, 0)) (by (with_reducible repeat (first | refine blk_drewN ?_ _ | refine blk_drew ?_ | refine blk_alloc ?_ _)); exact BK374.out) hb)
                          have n5_ := Aside0.mk (blk_below (g := gb375) (o := .cells #[.int .i64 a2_0] 3 (0, 0)) (by (with_reducible repeat (first | refine blk_drewN ?_ _ | refine blk_drew ?_ | refine blk_alloc ?_ _)); exact BK375.out) hb)
                          have n6_ := Aside0.mk (blk_below (g := gb376) (o := .cells #[.slice A3_0 l3_0.length c3_0] 22 (0, 0)) (by (with_reducible repeat (first | refine blk_drewN ?_ _ | refine blk_drew ?_ | refine blk_alloc ?_ _)); exact BK376.out) hb)
                          have n7_ := Aside0.mk (blk_below (g := gb377) (o := .cells #[.func (.func 61) #[] #[.pointer (some ⟨gb374, 0, none⟩), .pointer (some ⟨gb375, 0, none⟩), .pointer (some ⟨gb376, 0, none⟩), .pointer (some ⟨gb377, 0, none⟩)]] 30 (0, 0)) (by (with_reducible repeat (first | refine blk_drewN ?_ _ | refine blk_drew ?_ | refine blk_alloc ?_ _)); exact BK377.out) hb)
                          have n8_ := Aside0.mk (Kept.below (S := (fun k_ => P0_ k_)) (by repeat (first | (with_reducible first | exact HK.out | apply Kept.alloc | apply Kept.drewN | apply Kept.drew | refine Kept.setCell ?_ (.inr GW374.out) _ | refine Kept.setCell ?_ (.inr GW375.out) _ | refine Kept.setCell ?_ (.inr GW376.out) _ | refine Kept.setCell ?_ (.inr GW377.out) _) | exact HK.out)) hb)
                          have n9_ := Aside0.mk (below_step (by repeat (first | (with_reducible first | exact HB.out | apply below_alloc | apply pw_below_drewN | apply below_drew1 | refine below_set ?_ GE374.out | refine below_set ?_ GE375.out | refine below_set ?_ GE376.out | refine below_set ?_ GE377.out) | exact HB.out)) hb)
                          clear HO_0
                          clear HO_24
                          clear HO382
                          clear BK374
                          clear BK375
                          clear BK376
                          clear BK377
                          clear HK
                          clear HB
                          have HO_0 := n0_
                          have HO_24 := n1_
                          have HO382 := n2_
                          have HO385 := n3_
                          have BK374 := n4_
                          have BK375 := n5_
                          have BK376 := n6_
                          have BK377 := n7_
                          have HK := n8_
                          have HB := n9_
                          clear n0_ n1_ n2_ n3_ n4_ n5_ n6_ n7_ n8_ n9_
                          clear hb ho85
                          refine hK.out _ _ ((blk_cell BK377.out 0).trans rfl) (fun hHeld => ?_)
                          clear hK K
                          refine norm_ (a' := ?_) ?_ ?_
                          rotate_left
                          · show Act.put _ (some 53) _ = _
                            simp only [Act.put, List.setIfInBounds_toArray, List.set_cons_zero, List.set_cons_succ, i64_w, i32_w]
                            rfl
                          exact norm_ (by simp only [putAll, Act.put, List.setIfInBounds_toArray, List.set_cons_zero, List.set_cons_succ]) (hCont (v381, v384) _ ⟨hHeld, (by (with_reducible repeat (first | apply Kd.R_alloc | apply Kd.R_drewN | apply Kd.R_drew)); exact Kd.R_mono HO382.out (fun _ hk => ⟨hk.1.1.1.1, ⟨hk.2, ⟨hk.1.1.2, hk.1.2⟩⟩⟩)), (by (with_reducible repeat (first | apply Kd.R_alloc | apply Kd.R_drewN | apply Kd.R_drew)); exact Kd.R_mono HO385.out (fun _ hk => ⟨hk.1.1.1.1, ⟨hk.2, ⟨hk.1.1.2, hk.1.2⟩⟩⟩)), (by (with_reducible repeat (first | apply Kd.R_alloc | apply Kd.R_drewN | apply Kd.R_drew)); exact Kd.R_mono HO_0.out (fun _ hk => ⟨hk.1.1, ⟨hk.1.2, hk.2⟩⟩)), (by (with_reducible repeat (first | apply Kd.R_alloc | apply Kd.R_drewN | apply Kd.R_drew)); exact Kd.R_mono HO_24.out (fun _ hk => ⟨hk.1.1, ⟨hk.1.2, hk.2⟩⟩)), (by (with_reducible repeat (first | refine blk_drewN ?_ _ | refine blk_drew ?_ | refine blk_alloc ?_ _)); exact BK374.out), (by (with_reducible repeat (first | refine blk_drewN ?_ _ | refine blk_drew ?_ | refine blk_alloc ?_ _)); exact BK375.out), (by (with_reducible repeat (first | refine blk_drewN ?_ _ | refine blk_drew ?_ | refine blk_alloc ?_ _)); exact BK376.out), (by (with_reducible repeat (first | refine blk_drewN ?_ _ | refine blk_drew ?_ | refine blk_alloc ?_ _)); exact BK377.out), (by repeat (first | (with_reducible first | exact HK.out | apply Kept.alloc | apply Kept.drewN | apply Kept.drew | refine Kept.setCell ?_ (.inr GW374.out) _ | refine Kept.setCell ?_ (.inr GW375.out) _ | refine Kept.setCell ?_ (.inr GW376.out) _ | refine Kept.setCell ?_ (.inr GW377.out) _) | exact HK.out)), (by repeat (first | (with_reducible first | exact HB.out | apply below_alloc | apply pw_below_drewN | apply below_drew1 | refine below_set ?_ GE374.out | refine below_set ?_ GE375.out | refine below_set ?_ GE376.out | refine below_set ?_ GE377.out) | exact HB.out))⟩)
                        · skip
                          refine Kd.R_lit_step (Kd.int .i64) _ 3 ?hg (N := 53) ?hd (xs := ([x21_1] : List Int)) (inner := [.int .i64 x21_1]) (ok := fun _ => True) (okp := fun _ => True) ?hr ?hp (fun _ hk => hk) trivial (Below.refl _ _) (Nat.le_refl _) (by simp) ?_; (case hd => rfl); (case hg => rfl); (case hr => first | (go_simp; done) | (go_simp; rfl)); (case hp => exact (Reps.one (show Kd.M (Kd.int .i64) _ _ _ x21_1 [.int .i64 x21_1] from rfl) (Reps.none _ _)))
                          intro v384 w83 ho84 hb hg_ hnew_
                          clear hg_ hnew_
                          (first | rw [← Ny383.out] at ho84 | (simp only [Int.reduceToNat] at ho84; rw [← Ny383.out] at ho84))
                          have n0_ := Aside0.mk (Kd.R_elder' (by (with_reducible repeat (first | apply Kd.R_alloc | apply Kd.R_drewN | apply Kd.R_drew)); exact HO_0.out) (Kd.R_base ho84) hb)
                          have n1_ := Aside0.mk (Kd.R_elder' (by (with_reducible repeat (first | apply Kd.R_alloc | apply Kd.R_drewN | apply Kd.R_drew)); exact HO_24.out) (Kd.R_base ho84) hb)
                          have n2_ := Aside0.mk (Kd.R_lower (Kd.R_new' (Kd.R_new' (Kd.R_newM (M := fun k_ => (P0_ k_ ∨ w.heap.size ≤ k_)) ho84 (by first | exact HK.out.1 | exact (show Kept w _ (fun k_ => P0_ k_) from by repeat (first | (with_reducible first | exact HK.out | apply Kept.alloc | apply Kept.drewN | apply Kept.drew | refine Kept.setCell ?_ (.inr GW374.out) _ | refine Kept.setCell ?_ (.inr GW375.out) _ | refine Kept.setCell ?_ (.inr GW376.out) _ | refine Kept.setCell ?_ (.inr GW377.out) _) | exact HK.out)).1) (fun k_ h_ => .inr h_)) (Kd.R_lt (by (with_reducible repeat (first | apply Kd.R_alloc | apply Kd.R_drewN | apply Kd.R_drew)); exact HO_0.out))) (Kd.R_lt (by (with_reducible repeat (first | apply Kd.R_alloc | apply Kd.R_drewN | apply Kd.R_drew)); exact HO_24.out))) (below_size (by repeat (first | (with_reducible first | exact HB.out | apply below_alloc | apply pw_below_drewN | apply below_drew1 | refine below_set ?_ GE374.out | refine below_set ?_ GE375.out | refine below_set ?_ GE376.out | refine below_set ?_ GE377.out) | exact HB.out))))
                          have n3_ := Aside0.mk (blk_below (g := gb374) (o := .cells #[.int .i64 a1_0, .slice A1_1 l1_1.length c1_1] 26 (0, 0)) (by (with_reducible repeat (first | refine blk_drewN ?_ _ | refine blk_drew ?_ | refine blk_alloc ?_ _)); exact BK374.out) hb)
                          have n4_ := Aside0.mk (blk_below (g := gb375) (o := .cells #[.int .i64 a2_0] 3 (0, 0)) (by (with_reducible repeat (first | refine blk_drewN ?_ _ | refine blk_drew ?_ | refine blk_alloc ?_ _)); exact BK375.out) hb)
                          have n5_ := Aside0.mk (blk_below (g := gb376) (o := .cells #[.slice A3_0 l3_0.length c3_0] 22 (0, 0)) (by (with_reducible repeat (first | refine blk_drewN ?_ _ | refine blk_drew ?_ | refine blk_alloc ?_ _)); exact BK376.out) hb)
                          have n6_ := Aside0.mk (blk_below (g := gb377) (o := .cells #[.func (.func 61) #[] #[.pointer (some ⟨gb374, 0, none⟩), .pointer (some ⟨gb375, 0, none⟩), .pointer (some ⟨gb376, 0, none⟩), .pointer (some ⟨gb377, 0, none⟩)]] 30 (0, 0)) (by (with_reducible repeat (first | refine blk_drewN ?_ _ | refine blk_drew ?_ | refine blk_alloc ?_ _)); exact BK377.out) hb)
                          have n7_ := Aside0.mk (Kept.below (S := (fun k_ => P0_ k_)) (by repeat (first | (with_reducible first | exact HK.out | apply Kept.alloc | apply Kept.drewN | apply Kept.drew | refine Kept.setCell ?_ (.inr GW374.out) _ | refine Kept.setCell ?_ (.inr GW375.out) _ | refine Kept.setCell ?_ (.inr GW376.out) _ | refine Kept.setCell ?_ (.inr GW377.out) _) | exact HK.out)) hb)
                          have n8_ := Aside0.mk (below_step (by repeat (first | (with_reducible first | exact HB.out | apply below_alloc | apply pw_below_drewN | apply below_drew1 | refine below_set ?_ GE374.out | refine below_set ?_ GE375.out | refine below_set ?_ GE376.out | refine below_set ?_ GE377.out) | exact HB.out)) hb)
                          clear HO_0
                          clear HO_24
                          clear BK374
                          clear BK375
                          clear BK376
                          clear BK377
                          clear HK
                          clear HB
                          have HO_0 := n0_
                          have HO_24 := n1_
                          have HO385 := n2_
                          have BK374 := n3_
                          have BK375 := n4_
                          have BK376 := n5_
                          have BK377 := n6_
                          have HK := n7_
                          have HB := n8_
                          clear n0_ n1_ n2_ n3_ n4_ n5_ n6_ n7_ n8_
                          clear hb ho84
                          refine hK.out _ _ ((blk_cell BK377.out 0).trans rfl) (fun hHeld => ?_)
                          clear hK K
                          refine norm_ (a' := ?_) ?_ ?_
                          rotate_left
                          · show Act.put _ (some 53) _ = _
                            simp only [Act.put, List.setIfInBounds_toArray, List.set_cons_zero, List.set_cons_succ, i64_w, i32_w]
                            rfl
                          refine one_ (i := 2) (N := some 51) #[true, true, true, true, true, false, false, false] rfl rfl (one_of HT_.out (by kernel_rfl)) (by decide) (fun K hK => ?_)
                          refine goes_ Tryd.func62 (by kernel_rfl) rfl #[.slice Ao20 l0.length co20] (by rfl) rfl rfl (by (try simp only [List.map_toArray, List.map_cons, List.map_nil]); first | done | rfl | (simp only [List.length_drop, List.length_take]; rfl)) ?_
                          with_reducible refine (slices_Clone_int_int.calls _ _ l0 t380 _ ?side1 ?side2 A51.out).mono ?_
                          (case side1 => repeat (first | exact (Kd.R_reads' HO_0.out).2.2 | (with_reducible refine Kd.C_alloc ?_ _) | (with_reducible refine Kd.C_drewN ?_ _) | (with_reducible refine Kd.C_drew ?_)))
                          (case side2 => exact (Kd.R_reads' HO_0.out).2.1)
                          rintro e w85 ⟨v381, rfl, ho0, hb⟩
                          refine ⟨_, rfl, ?_⟩
                          have n0_ := Aside0.mk (Kd.R_elder' (by (with_reducible repeat (first | apply Kd.R_alloc | apply Kd.R_drewN | apply Kd.R_drew)); exact HO_0.out) (Kd.R_base ho0) hb)
                          have n1_ := Aside0.mk (Kd.R_elder' (by (with_reducible repeat (first | apply Kd.R_alloc | apply Kd.R_drewN | apply Kd.R_drew)); exact HO_24.out) (Kd.R_base ho0) hb)
                          have n2_ := Aside0.mk (Kd.R_elder' (by (with_reducible repeat (first | apply Kd.R_alloc | apply Kd.R_drewN | apply Kd.R_drew)); exact HO385.out) (Kd.R_base ho0) hb)
                          have n3_ := Aside0.mk (Kd.R_lower (Kd.R_new' (Kd.R_new' (Kd.R_new' (Kd.R_newM (M := fun k_ => (P0_ k_ ∨ w.heap.size ≤ k_)) ho0 (by first | exact HK.out.1 | exact (show Kept w _ (fun k_ => P0_ k_) from by repeat (first | (with_reducible first | exact HK.out | apply Kept.alloc | apply Kept.drewN | apply Kept.drew | refine Kept.setCell ?_ (.inr GW374.out) _ | refine Kept.setCell ?_ (.inr GW375.out) _ | refine Kept.setCell ?_ (.inr GW376.out) _ | refine Kept.setCell ?_ (.inr GW377.out) _) | exact HK.out)).1) (fun k_ h_ => .inr h_)) (Kd.R_lt (by (with_reducible repeat (first | apply Kd.R_alloc | apply Kd.R_drewN | apply Kd.R_drew)); exact HO_0.out))) (Kd.R_lt (by (with_reducible repeat (first | apply Kd.R_alloc | apply Kd.R_drewN | apply Kd.R_drew)); exact HO_24.out))) (Kd.R_lt (by (with_reducible repeat (first | apply Kd.R_alloc | apply Kd.R_drewN | apply Kd.R_drew)); exact HO385.out))) (below_size (by repeat (first | (with_reducible first | exact HB.out | apply below_alloc | apply pw_below_drewN | apply below_drew1 | refine below_set ?_ GE374.out | refine below_set ?_ GE375.out | refine below_set ?_ GE376.out | refine below_set ?_ GE377.out) | exact HB.out))))
                          have n4_ := Aside0.mk (blk_below (g := gb374) (o := .cells #[.int .i64 a1_0, .slice A1_1 l1_1.length c1_1] 26 (0, 0)) (by (with_reducible repeat (first | refine blk_drewN ?_ _ | refine blk_drew ?_ | refine blk_alloc ?_ _)); exact BK374.out) hb)
                          have n5_ := Aside0.mk (blk_below (g := gb375) (o := .cells #[.int .i64 a2_0] 3 (0, 0)) (by (with_reducible repeat (first | refine blk_drewN ?_ _ | refine blk_drew ?_ | refine blk_alloc ?_ _)); exact BK375.out) hb)
                          have n6_ := Aside0.mk (blk_below (g := gb376) (o := .cells #[.slice A3_0 l3_0.length c3_0] 22 (0, 0)) (by (with_reducible repeat (first | refine blk_drewN ?_ _ | refine blk_drew ?_ | refine blk_alloc ?_ _)); exact BK376.out) hb)
                          have n7_ := Aside0.mk (blk_below (g := gb377) (o := .cells #[.func (.func 61) #[] #[.pointer (some ⟨gb374, 0, none⟩), .pointer (some ⟨gb375, 0, none⟩), .pointer (some ⟨gb376, 0, none⟩), .pointer (some ⟨gb377, 0, none⟩)]] 30 (0, 0)) (by (with_reducible repeat (first | refine blk_drewN ?_ _ | refine blk_drew ?_ | refine blk_alloc ?_ _)); exact BK377.out) hb)
                          have n8_ := Aside0.mk (Kept.below (S := (fun k_ => P0_ k_)) (by repeat (first | (with_reducible first | exact HK.out | apply Kept.alloc | apply Kept.drewN | apply Kept.drew | refine Kept.setCell ?_ (.inr GW374.out) _ | refine Kept.setCell ?_ (.inr GW375.out) _ | refine Kept.setCell ?_ (.inr GW376.out) _ | refine Kept.setCell ?_ (.inr GW377.out) _) | exact HK.out)) hb)
                          have n9_ := Aside0.mk (below_step (by repeat (first | (with_reducible first | exact HB.out | apply below_alloc | apply pw_below_drewN | apply below_drew1 | refine below_set ?_ GE374.out | refine below_set ?_ GE375.out | refine below_set ?_ GE376.out | refine below_set ?_ GE377.out) | exact HB.out)) hb)
                          clear HO_0
                          clear HO_24
                          clear HO385
                          clear BK374
                          clear BK375
                          clear BK376
                          clear BK377
                          clear HK
                          clear HB
                          have HO_0 := n0_
                          have HO_24 := n1_
                          have HO385 := n2_
                          have HO382 := n3_
                          have BK374 := n4_
                          have BK375 := n5_
                          have BK376 := n6_
                          have BK377 := n7_
                          have HK := n8_
                          have HB := n9_
                          clear n0_ n1_ n2_ n3_ n4_ n5_ n6_ n7_ n8_ n9_
                          (try clear hb)
                          (try clear hb2)
                          (try clear hk)
                          (try clear hi)
                          (try clear ho0)
                          refine hK.out _ _ ((blk_cell BK377.out 0).trans rfl) (fun hHeld => ?_)
                          clear hK K
                          refine norm_ (a' := ?_) ?_ ?_
                          rotate_left
                          · show Act.put _ (some 51) _ = _
                            simp only [Act.put, List.setIfInBounds_toArray, List.set_cons_zero, List.set_cons_succ, i64_w, i32_w]
                            rfl
                          exact norm_ (by simp only [putAll, Act.put, List.setIfInBounds_toArray, List.set_cons_zero, List.set_cons_succ]) (hCont (v381, v384) _ ⟨hHeld, (by (with_reducible repeat (first | apply Kd.R_alloc | apply Kd.R_drewN | apply Kd.R_drew)); exact Kd.R_mono HO382.out (fun _ hk => ⟨hk.1.1.1.1, ⟨hk.2, ⟨hk.1.1.2, hk.1.2⟩⟩⟩)), (by (with_reducible repeat (first | apply Kd.R_alloc | apply Kd.R_drewN | apply Kd.R_drew)); exact Kd.R_mono HO385.out (fun _ hk => ⟨hk.1.1.1.1, ⟨hk.2, ⟨hk.1.1.2, hk.1.2⟩⟩⟩)), (by (with_reducible repeat (first | apply Kd.R_alloc | apply Kd.R_drewN | apply Kd.R_drew)); exact Kd.R_mono HO_0.out (fun _ hk => ⟨hk.1.1, ⟨hk.2, hk.1.2⟩⟩)), (by (with_reducible repeat (first | apply Kd.R_alloc | apply Kd.R_drewN | apply Kd.R_drew)); exact Kd.R_mono HO_24.out (fun _ hk => ⟨hk.1.1, ⟨hk.2, hk.1.2⟩⟩)), (by (with_reducible repeat (first | refine blk_drewN ?_ _ | refine blk_drew ?_ | refine blk_alloc ?_ _)); exact BK374.out), (by (with_reducible repeat (first | refine blk_drewN ?_ _ | refine blk_drew ?_ | refine blk_alloc ?_ _)); exact BK375.out), (by (with_reducible repeat (first | refine blk_drewN ?_ _ | refine blk_drew ?_ | refine blk_alloc ?_ _)); exact BK376.out), (by (with_reducible repeat (first | refine blk_drewN ?_ _ | refine blk_drew ?_ | refine blk_alloc ?_ _)); exact BK377.out), (by repeat (first | (with_reducible first | exact HK.out | apply Kept.alloc | apply Kept.drewN | apply Kept.drew | refine Kept.setCell ?_ (.inr GW374.out) _ | refine Kept.setCell ?_ (.inr GW375.out) _ | refine Kept.setCell ?_ (.inr GW376.out) _ | refine Kept.setCell ?_ (.inr GW377.out) _) | exact HK.out)), (by repeat (first | (with_reducible first | exact HB.out | apply below_alloc | apply pw_below_drewN | apply below_drew1 | refine below_set ?_ GE374.out | refine below_set ?_ GE375.out | refine below_set ?_ GE376.out | refine below_set ?_ GE377.out) | exact HB.out))⟩)
                      rintro ⟨v381, v384⟩ w86 ⟨hS_, h0_, h1_, h2_, h3_, h4_, h5_, h6_, h7_, h8_, h9_⟩
                      have n0_ : Aside0 (Kd.R (Kd.int .i64) 3 w86 w0.heap.size (fun k_ => (P0_ k_ ∨ w.heap.size ≤ k_) ∧ some k_ ≠ (v384 : Value).ownBlock ∧ some k_ ≠ (.slice Ao20 l0.length co20 : Value).ownBlock ∧ some k_ ≠ (.slice Ao20 l0.length co20 : Value).ownBlock) v381 t380) := ⟨h0_⟩
                      have n1_ : Aside0 (Kd.R (Kd.int .i64) 3 w86 w0.heap.size (fun k_ => (P0_ k_ ∨ w.heap.size ≤ k_) ∧ some k_ ≠ (v381 : Value).ownBlock ∧ some k_ ≠ (.slice Ao20 l0.length co20 : Value).ownBlock ∧ some k_ ≠ (.slice Ao20 l0.length co20 : Value).ownBlock) v384 y383) := ⟨h1_⟩
                      have n2_ : Aside0 (Kd.R (Kd.int .i64) 3 w86 w0.heap.size (fun k_ => (P0_ k_ ∨ w.heap.size ≤ k_) ∧ some k_ ≠ (v381 : Value).ownBlock ∧ some k_ ≠ (v384 : Value).ownBlock) (.slice Ao20 l0.length co20) l0) := ⟨h2_⟩
                      have n3_ : Aside0 (Kd.R (Kd.int .i64) 3 w86 w0.heap.size (fun k_ => (P0_ k_ ∨ w.heap.size ≤ k_) ∧ some k_ ≠ (v381 : Value).ownBlock ∧ some k_ ≠ (v384 : Value).ownBlock) (.slice Ao20 l0.length co20) l0) := ⟨h3_⟩
                      have n4_ : Aside0 (w86.heap[gb374]? = some (.cells #[.int .i64 a1_0, .slice A1_1 l1_1.length c1_1] 26 (0, 0))) := ⟨h4_⟩
                      have n5_ : Aside0 (w86.heap[gb375]? = some (.cells #[.int .i64 a2_0] 3 (0, 0))) := ⟨h5_⟩
                      have n6_ : Aside0 (w86.heap[gb376]? = some (.cells #[.slice A3_0 l3_0.length c3_0] 22 (0, 0))) := ⟨h6_⟩
                      have n7_ : Aside0 (w86.heap[gb377]? = some (.cells #[.func (.func 61) #[] #[.pointer (some ⟨gb374, 0, none⟩), .pointer (some ⟨gb375, 0, none⟩), .pointer (some ⟨gb376, 0, none⟩), .pointer (some ⟨gb377, 0, none⟩)]] 30 (0, 0))) := ⟨h7_⟩
                      have n8_ : Aside0 (Kept w w86 (fun k_ => P0_ k_)) := ⟨h8_⟩
                      have n9_ : Aside0 (Below w0.heap.size w0 w86) := ⟨h9_⟩
                      clear HO_0
                      clear HO_24
                      clear BK374
                      clear BK375
                      clear BK376
                      clear BK377
                      clear HK
                      clear HB
                      clear h0_ h1_ h2_ h3_ h4_ h5_ h6_ h7_ h8_ h9_
                      have HO382 := n0_
                      have HO385 := n1_
                      have HO_0 := n2_
                      have HO_24 := n3_
                      have BK374 := n4_
                      have BK375 := n5_
                      have BK376 := n6_
                      have BK377 := n7_
                      have HK := n8_
                      have HB := n9_
                      clear n0_ n1_ n2_ n3_ n4_ n5_ n6_ n7_ n8_ n9_
                      have hHeld : w86.cell? ⟨gb377, 0, none⟩ = some (.func (.func 61) #[] #[.pointer (some ⟨gb374, 0, none⟩), .pointer (some ⟨gb375, 0, none⟩), .pointer (some ⟨gb376, 0, none⟩), .pointer (some ⟨gb377, 0, none⟩)]) := hS_
                      obtain ⟨Ao88, co88, eo88⟩ := Kd.R_slice HO385.out
                      (first | subst eo88 | (injection eo88 with f1_ f2_ f3_; have f4_ := f1_.symm; have f5_ := f3_.symm; clear f1_ f2_ f3_; subst f4_; subst f5_))
                      refine norm_ (a' := ?_) ?_ ?_
                      rotate_left
                      · simp only [putAll, Act.put, List.setIfInBounds_toArray, List.set_cons_zero, List.set_cons_succ]
                        rfl
                      refine one_ (i := 5) (N := some 54) #[true, true, true, true, true, true, false, false] rfl rfl (one_of HT_.out (by kernel_rfl)) (by decide) (fun K hK => ?_)
                      refine Kd.R_append_rows_step (Kd.int .i64) (w0 := w0) w0.heap.size (by rfl) (.tmp 51) (.tmp 53) 22 3 (.int .i64 0) 8 rfl Tryd.underlying22 info3 rfl (by decide) (by omega) v381 t380 y383 _ _ _ (fun k_ => (P0_ k_ ∨ w.heap.size ≤ k_) ∧ some k_ ≠ (.slice Ao20 l0.length co20 : Value).ownBlock ∧ some k_ ≠ (.slice Ao20 l0.length co20 : Value).ownBlock ∧ some k_ ≠ (.slice Ao88 y383.length co88 : Value).ownBlock) (fun _ => False) rfl rfl ?aO ?aR (fun _ _ h => h) (fun _ h => h.elim) ?aF ?aB ?aS ?aL ?_
                      (case aR => repeat (first | exact (Kd.R_reads' HO385.out).2.2 | (with_reducible refine Kd.C_alloc ?_ _) | (with_reducible refine Kd.C_drewN ?_ _) | (with_reducible refine Kd.C_drew ?_)))
                      (case aB => exact (by repeat (first | (with_reducible first | exact HB.out | apply below_alloc | apply pw_below_drewN | apply below_drew1 | refine below_set ?_ GE374.out | refine below_set ?_ GE375.out | refine below_set ?_ GE376.out | refine below_set ?_ GE377.out) | exact HB.out)))
                      (case aF => exact (fun k_ hk => ⟨(.inr (Nat.le_trans (by first | exact HK.out.1 | exact (show Kept w _ (fun k_ => P0_ k_) from by repeat (first | (with_reducible first | exact HK.out | apply Kept.alloc | apply Kept.drewN | apply Kept.drew | refine Kept.setCell ?_ (.inr GW374.out) _ | refine Kept.setCell ?_ (.inr GW375.out) _ | refine Kept.setCell ?_ (.inr GW376.out) _ | refine Kept.setCell ?_ (.inr GW377.out) _) | exact HK.out)).1) hk)), Kd.fresh' (Kd.R_lt (by (with_reducible repeat (first | apply Kd.R_alloc | apply Kd.R_drewN | apply Kd.R_drew)); exact HO_0.out)) k_ hk, Kd.fresh' (Kd.R_lt (by (with_reducible repeat (first | apply Kd.R_alloc | apply Kd.R_drewN | apply Kd.R_drew)); exact HO_24.out)) k_ hk, Kd.fresh' (Kd.R_lt (by (with_reducible repeat (first | apply Kd.R_alloc | apply Kd.R_drewN | apply Kd.R_drew)); exact HO385.out)) k_ hk⟩))
                      (case aO => exact (by (with_reducible repeat (first | apply Kd.R_alloc | apply Kd.R_drewN | apply Kd.R_drew)); exact Kd.R_mono HO382.out (fun _ hk => ⟨hk.1, ⟨hk.2.2.1, ⟨hk.2.2.2, hk.2.1⟩⟩⟩)))
                      (case aS => exact (below_size (by repeat (first | (with_reducible first | exact HB.out | apply below_alloc | apply pw_below_drewN | apply below_drew1 | refine below_set ?_ GE374.out | refine below_set ?_ GE375.out | refine below_set ?_ GE376.out | refine below_set ?_ GE377.out) | exact HB.out))))
                      (case aL => have := LMc52.out; omega)
                      intro v387 w87 ho hb hg hat
                      rw [← Ny386.out] at ho
                      have n0_ := Aside0.mk (Kd.R_after (ok := (fun k_ => (P0_ k_ ∨ w.heap.size ≤ k_) ∧ some k_ ≠ (.slice Ao88 y383.length co88 : Value).ownBlock)) (by (with_reducible repeat (first | apply Kd.R_alloc | apply Kd.R_drewN | apply Kd.R_drew)); exact Kd.R_mono HO_0.out (fun _ hk => ⟨⟨hk.1, hk.2.2⟩, hk.2.1⟩)) hg hat)
                      have n1_ := Aside0.mk (Kd.R_after (ok := (fun k_ => (P0_ k_ ∨ w.heap.size ≤ k_) ∧ some k_ ≠ (.slice Ao88 y383.length co88 : Value).ownBlock)) (by (with_reducible repeat (first | apply Kd.R_alloc | apply Kd.R_drewN | apply Kd.R_drew)); exact Kd.R_mono HO_24.out (fun _ hk => ⟨⟨hk.1, hk.2.2⟩, hk.2.1⟩)) hg hat)
                      have n2_ := Aside0.mk (blk_grown (g := gb374) (o := .cells #[.int .i64 a1_0, .slice A1_1 l1_1.length c1_1] 26 (0, 0)) (by (with_reducible repeat (first | refine blk_drewN ?_ _ | refine blk_drew ?_ | refine blk_alloc ?_ _)); exact BK374.out) hg (Kd.R_ne HO382.out BK374.out (by decide)))
                      have n3_ := Aside0.mk (blk_grown (g := gb375) (o := .cells #[.int .i64 a2_0] 3 (0, 0)) (by (with_reducible repeat (first | refine blk_drewN ?_ _ | refine blk_drew ?_ | refine blk_alloc ?_ _)); exact BK375.out) hg (fun e_ => NE375.out gb375 (by first | exact HO382.out.1 _ e_.symm | exact (HO382.out.1 _ e_.symm).1) rfl))
                      have n4_ := Aside0.mk (blk_grown (g := gb376) (o := .cells #[.slice A3_0 l3_0.length c3_0] 22 (0, 0)) (by (with_reducible repeat (first | refine blk_drewN ?_ _ | refine blk_drew ?_ | refine blk_alloc ?_ _)); exact BK376.out) hg (Kd.R_ne HO382.out BK376.out (by decide)))
                      have n5_ := Aside0.mk (blk_grown (g := gb377) (o := .cells #[.func (.func 61) #[] #[.pointer (some ⟨gb374, 0, none⟩), .pointer (some ⟨gb375, 0, none⟩), .pointer (some ⟨gb376, 0, none⟩), .pointer (some ⟨gb377, 0, none⟩)]] 30 (0, 0)) (by (with_reducible repeat (first | refine blk_drewN ?_ _ | refine blk_drew ?_ | refine blk_alloc ?_ _)); exact BK377.out) hg (Kd.R_ne HO382.out BK377.out (by decide)))
                      have n6_ := Aside0.mk (Kd.R_after (ok := (fun k_ => (P0_ k_ ∨ w.heap.size ≤ k_) ∧ some k_ ≠ (.slice Ao20 l0.length co20 : Value).ownBlock ∧ some k_ ≠ (.slice Ao20 l0.length co20 : Value).ownBlock)) (by (with_reducible repeat (first | apply Kd.R_alloc | apply Kd.R_drewN | apply Kd.R_drew)); exact Kd.R_mono HO385.out (fun _ hk => ⟨⟨hk.1, ⟨hk.2.2.1, hk.2.2.2⟩⟩, hk.2.1⟩)) hg hat)
                      have n7_ := Aside0.mk (hb)
                      have n8_ := Aside0.mk (Kept.of_grown (S := (fun k_ => P0_ k_)) hg (by repeat (first | (with_reducible first | exact HK.out | apply Kept.alloc | apply Kept.drewN | apply Kept.drew | refine Kept.setCell ?_ (.inr GW374.out) _ | refine Kept.setCell ?_ (.inr GW375.out) _ | refine Kept.setCell ?_ (.inr GW376.out) _ | refine Kept.setCell ?_ (.inr GW377.out) _) | exact HK.out)) (fun k_ e_ => (HO382.out.1 k_ e_).1))
                      have n9_ := Aside0.mk (ho)
                      clear HO_0
                      clear HO_24
                      clear BK374
                      clear BK375
                      clear BK376
                      clear BK377
                      clear HO385
                      clear HB
                      clear HK
                      clear HO382
                      have HO_0 := n0_
                      have HO_24 := n1_
                      have BK374 := n2_
                      have BK375 := n3_
                      have BK376 := n4_
                      have BK377 := n5_
                      have HO385 := n6_
                      have HB := n7_
                      have HK := n8_
                      have HO388 := n9_
                      clear n0_ n1_ n2_ n3_ n4_ n5_ n6_ n7_ n8_ n9_
                      clear ho hb hg hat
                      obtain ⟨Ao89, co89, eo89⟩ := Kd.R_slice HO388.out
                      (first | subst eo89 | (injection eo89 with f1_ f2_ f3_; have f4_ := f1_.symm; have f5_ := f3_.symm; clear f1_ f2_ f3_; subst f4_; subst f5_))
                      refine hK.out _ _ ((blk_cell BK377.out 0).trans rfl) (fun hHeld => ?_)
                      clear hK K
                      refine norm_ (a' := ?_) ?_ ?_
                      rotate_left
                      · show Act.put _ (some 54) _ = _
                        simp only [Act.put, List.setIfInBounds_toArray, List.set_cons_zero, List.set_cons_succ, i64_w, i32_w]
                        rfl
                      refine one_ (i := 6) (N := some 55) #[true, true, true, true, true, true, true, false] rfl rfl (one_of HT_.out (by kernel_rfl)) (by decide) (fun K hK => ?_)
                      refine L.goesV1_ (f := 61) (caps := #[.pointer (some ⟨gb374, 0, none⟩), .pointer (some ⟨gb375, 0, none⟩), .pointer (some ⟨gb376, 0, none⟩), .pointer (some ⟨gb377, 0, none⟩)]) #[.slice Ao89 y386.length co89] (by rfl) rfl rfl rfl (by (try simp only [List.map_toArray, List.map_cons, List.map_nil]); first | done | rfl | (simp only [List.length_drop, List.length_take]; rfl)) HEV.out ?_
                      simp only [List.append_toArray, List.cons_append, List.nil_append]
                      with_reducible refine (ih k2 (by have := HK1.out; have := HK2.out; omega) (fun k_ => some k_ = (.slice Ao89 y386.length co89 : Value).ownBlock) (.slice Ao89 y386.length co89) y386 a1_0 A1_1 c1_1 l1_1 a2_0 A3_0 c3_0 l3_0 a4_0 t389 w0 _ ?side1 ?side2 ?side3 ?side4 ?side5 ?side6 gb374 ?sideG374 gb375 ?sideG375 gb376 ?sideG376 gb377 ?sideG377  ?sideP ?sideN A53.out).mono ?_
                      (case sideP => exact (fun e_ => NE375.out gb375 (by first | exact HO388.out.1 _ e_.symm | exact (HO388.out.1 _ e_.symm).1) rfl))
                      (case sideG374 => (with_reducible repeat (first | refine blk_drewN ?_ _ | refine blk_drew ?_ | refine blk_alloc ?_ _)); exact BK374.out)
                      (case sideG375 => (with_reducible repeat (first | refine blk_drewN ?_ _ | refine blk_drew ?_ | refine blk_alloc ?_ _)); exact BK375.out)
                      (case sideG376 => (with_reducible repeat (first | refine blk_drewN ?_ _ | refine blk_drew ?_ | refine blk_alloc ?_ _)); exact BK376.out)
                      (case sideG377 => (with_reducible repeat (first | refine blk_drewN ?_ _ | refine blk_drew ?_ | refine blk_alloc ?_ _)); exact BK377.out)
                      (case sideN => exact L.Blk.ofR HO388.out (by rw [Ny386.out]; exact L.app_ne _ (by rw [Ny383.out]; simp)))
                      (case side1 => repeat (first | (with_reducible first | exact HB.out | apply below_alloc | apply pw_below_drewN | apply below_drew1 | refine below_set ?_ GE374.out | refine below_set ?_ GE375.out | refine below_set ?_ GE376.out | refine below_set ?_ GE377.out) | exact HB.out))
                      (case side2 => exact Kd.R_tight rfl HO388.out)
                      (case side3 => exact Kd.C_kept_call HR1_1.out (by repeat (first | (with_reducible first | exact HK.out | apply Kept.alloc | apply Kept.drewN | apply Kept.drew | refine Kept.setCell ?_ (.inr GW374.out) _ | refine Kept.setCell ?_ (.inr GW375.out) _ | refine Kept.setCell ?_ (.inr GW376.out) _ | refine Kept.setCell ?_ (.inr GW377.out) _) | exact HK.out)) (fun k_ hs_ => (fun e_ => (HO388.out.1 k_ e_.symm).1) hs_))
                      (case side4 => exact HC1_1.out)
                      (case side5 => exact Kd.C_kept_call HR3_0.out (by repeat (first | (with_reducible first | exact HK.out | apply Kept.alloc | apply Kept.drewN | apply Kept.drew | refine Kept.setCell ?_ (.inr GW374.out) _ | refine Kept.setCell ?_ (.inr GW375.out) _ | refine Kept.setCell ?_ (.inr GW376.out) _ | refine Kept.setCell ?_ (.inr GW377.out) _) | exact HK.out)) (fun k_ hs_ => (fun e_ => (HO388.out.1 k_ e_.symm).1) hs_))
                      (case side6 => exact HC3_0.out)
                      rintro e w90 ⟨v390, rfl, ho0, hnq0, hb, hkp⟩
                      have hnq1 := L.nil_eql (P := Tryd.prog) Tryd.underlying22 hnq0
                      have hnq2 := L.nil_neq (P := Tryd.prog) Tryd.underlying22 hnq0
                      have hnq3 : ∀ op t x y W, (Go.eqGuard op t x y v390 (.slice none 0 0)).run Tryd.prog W = .ok () W := fun op t x y W => (by unfold Go.eqGuard; cases op <;> cases v390 <;> rfl)
                      have HNQ := Aside0.mk hnq0
                      clear hnq0
                      refine ⟨_, rfl, ?_⟩
                      have n0_ := Aside0.mk (Kd.R_mono (ok' := fun k_ => (P0_ k_ ∨ w.heap.size ≤ k_) ∧ some k_ ≠ (.slice Ao88 y383.length co88 : Value).ownBlock ∧ some k_ ≠ (v390 : Value).ownBlock) (Kd.R_keptB (HO_0.out) hkp (fun k_ hk_ hs_ => (hk_.2) hs_)) (fun k_ hk_ => ⟨hk_.1.1.1, hk_.1.1.2, fun e_ => Or.elim (ho0.1 k_ e_.symm) (fun hs_ => hk_.2.1 hs_) (fun hn_ => Nat.not_le.2 hk_.2.2 hn_)⟩))
                      have n1_ := Aside0.mk (Kd.R_mono (ok' := fun k_ => (P0_ k_ ∨ w.heap.size ≤ k_) ∧ some k_ ≠ (.slice Ao88 y383.length co88 : Value).ownBlock ∧ some k_ ≠ (v390 : Value).ownBlock) (Kd.R_keptB (HO_24.out) hkp (fun k_ hk_ hs_ => (hk_.2) hs_)) (fun k_ hk_ => ⟨hk_.1.1.1, hk_.1.1.2, fun e_ => Or.elim (ho0.1 k_ e_.symm) (fun hs_ => hk_.2.1 hs_) (fun hn_ => Nat.not_le.2 hk_.2.2 hn_)⟩))
                      have n2_ := Aside0.mk (blk_kept (by (with_reducible repeat (first | refine blk_drewN ?_ _ | refine blk_drew ?_ | refine blk_alloc ?_ _)); exact BK374.out) hkp (fun hs_ => (fun e_ => (Kd.R_ne HO388.out BK374.out (by decide)) e_) hs_))
                      have n3_ := Aside0.mk (blk_kept (by (with_reducible repeat (first | refine blk_drewN ?_ _ | refine blk_drew ?_ | refine blk_alloc ?_ _)); exact BK375.out) hkp (fun hs_ => (fun e_ => (fun e_ => NE375.out gb375 (by first | exact HO388.out.1 _ e_.symm | exact (HO388.out.1 _ e_.symm).1) rfl) e_) hs_))
                      have n4_ := Aside0.mk (blk_kept (by (with_reducible repeat (first | refine blk_drewN ?_ _ | refine blk_drew ?_ | refine blk_alloc ?_ _)); exact BK376.out) hkp (fun hs_ => (fun e_ => (Kd.R_ne HO388.out BK376.out (by decide)) e_) hs_))
                      have n5_ := Aside0.mk (blk_kept (by (with_reducible repeat (first | refine blk_drewN ?_ _ | refine blk_drew ?_ | refine blk_alloc ?_ _)); exact BK377.out) hkp (fun hs_ => (fun e_ => (Kd.R_ne HO388.out BK377.out (by decide)) e_) hs_))
                      have n6_ := Aside0.mk (Kd.R_mono (ok' := fun k_ => (P0_ k_ ∨ w.heap.size ≤ k_) ∧ some k_ ≠ (.slice Ao20 l0.length co20 : Value).ownBlock ∧ some k_ ≠ (.slice Ao20 l0.length co20 : Value).ownBlock ∧ some k_ ≠ (v390 : Value).ownBlock) (Kd.R_keptB (HO385.out) hkp (fun k_ hk_ hs_ => (hk_.2) hs_)) (fun k_ hk_ => ⟨hk_.1.1.1, hk_.1.1.2.1, hk_.1.1.2.2, fun e_ => Or.elim (ho0.1 k_ e_.symm) (fun hs_ => hk_.2.1 hs_) (fun hn_ => Nat.not_le.2 hk_.2.2 hn_)⟩))
                      have n7_ := Aside0.mk (Kd.R_mono (ok' := fun k_ => (P0_ k_ ∨ w.heap.size ≤ k_) ∧ some k_ ≠ (.slice Ao20 l0.length co20 : Value).ownBlock ∧ some k_ ≠ (.slice Ao20 l0.length co20 : Value).ownBlock ∧ some k_ ≠ (.slice Ao88 y383.length co88 : Value).ownBlock) ho0 (fun k_ hk_ => ⟨Or.elim hk_ (fun hs_ => (HO388.out.1 k_ (hs_).symm).1) (fun hn_ => (.inr (Nat.le_trans (by first | exact HK.out.1 | exact (show Kept w _ (fun k_ => P0_ k_) from by repeat (first | (with_reducible first | exact HK.out | apply Kept.alloc | apply Kept.drewN | apply Kept.drew | refine Kept.setCell ?_ (.inr GW374.out) _ | refine Kept.setCell ?_ (.inr GW375.out) _ | refine Kept.setCell ?_ (.inr GW376.out) _ | refine Kept.setCell ?_ (.inr GW377.out) _) | exact HK.out)).1) hn_))), Or.elim hk_ (fun hs_ => fun e_ => (((HO_0.out).1 k_ e_.symm).2) hs_) (fun hn_ => (Kd.fresh' (Kd.R_lt (by (with_reducible repeat (first | apply Kd.R_alloc | apply Kd.R_drewN | apply Kd.R_drew)); exact HO_0.out)) k_ hn_)), Or.elim hk_ (fun hs_ => fun e_ => (((HO_24.out).1 k_ e_.symm).2) hs_) (fun hn_ => (Kd.fresh' (Kd.R_lt (by (with_reducible repeat (first | apply Kd.R_alloc | apply Kd.R_drewN | apply Kd.R_drew)); exact HO_24.out)) k_ hn_)), Or.elim hk_ (fun hs_ => fun e_ => (((HO385.out).1 k_ e_.symm).2) hs_) (fun hn_ => (Kd.fresh' (Kd.R_lt (by (with_reducible repeat (first | apply Kd.R_alloc | apply Kd.R_drewN | apply Kd.R_drew)); exact HO385.out)) k_ hn_))⟩))
                      have n8_ := Aside0.mk (Kept.then_ (S := (fun k_ => P0_ k_)) (by repeat (first | (with_reducible first | exact HK.out | apply Kept.alloc | apply Kept.drewN | apply Kept.drew | refine Kept.setCell ?_ (.inr GW374.out) _ | refine Kept.setCell ?_ (.inr GW375.out) _ | refine Kept.setCell ?_ (.inr GW376.out) _ | refine Kept.setCell ?_ (.inr GW377.out) _) | exact HK.out)) hkp (fun k_ hs_ => (fun e_ => (HO388.out.1 k_ e_.symm).1) hs_))
                      have n9_ := Aside0.mk (hb)
                      clear HO_0
                      clear HO_24
                      clear BK374
                      clear BK375
                      clear BK376
                      clear BK377
                      clear HO385
                      clear HK
                      clear HB
                      clear HO388
                      have HO_0 := n0_
                      have HO_24 := n1_
                      have BK374 := n2_
                      have BK375 := n3_
                      have BK376 := n4_
                      have BK377 := n5_
                      have HO385 := n6_
                      have HO391 := n7_
                      have HK := n8_
                      have HB := n9_
                      clear n0_ n1_ n2_ n3_ n4_ n5_ n6_ n7_ n8_ n9_
                      (try clear hb)
                      (try clear hkp)
                      (try clear ho0)
                      refine hK.out _ _ ((blk_cell BK377.out 0).trans rfl) (fun hHeld => ?_)
                      clear hK K
                      refine norm_ (a' := ?_) ?_ ?_
                      rotate_left
                      · show Act.put _ (some 55) _ = _
                        simp only [Act.put, List.setIfInBounds_toArray, List.set_cons_zero, List.set_cons_succ, i64_w, i32_w]
                        rfl
                      refine pure_ (i := 7) (N := some 12) (v := ?_) (a' := ?_) #[true, true, true, true, true, true, true, true] rfl rfl (any_of HT_.out (by kernel_rfl)) (fun _ _ _ h => h) (Or.inl ⟨by rfl, ?_⟩) ?_ ?_
                      rotate_left
                      · intro w'
                        go_simp
                        with_reducible rfl
                      rotate_left
                      · simp only [Act.put, List.setIfInBounds_toArray, List.set_cons_zero, List.set_cons_succ, i64_w, i32_w]
                        rfl
                      refine done_ (done_of HT_.out (by kernel_rfl)) ?_
                      try go_wp2
                      go_roundg k2
                      case measure => have := HK1.out; have := HK2.out; omega
                      case rel => exact ⟨(wrap64 (x21_1 + 1)), (by first | rfl | (simp; done) | (simp [*]; done)), H', ⟨by have := HK1.out; have := HK2.out; omega⟩, ⟨by (with_reducible repeat (first | apply Kd.R_alloc | apply Kd.R_drewN | apply Kd.R_drew)); exact Kd.R_mono HO_0.out (fun _ hk => hk.1)⟩, ⟨by (with_reducible repeat (first | refine blk_drewN ?_ _ | refine blk_drew ?_ | refine blk_alloc ?_ _)); exact BK374.out⟩, ⟨by (with_reducible repeat (first | refine blk_drewN ?_ _ | refine blk_drew ?_ | refine blk_alloc ?_ _)); exact BK375.out⟩, ⟨by (with_reducible repeat (first | refine blk_drewN ?_ _ | refine blk_drew ?_ | refine blk_alloc ?_ _)); exact BK376.out⟩, ⟨by (with_reducible repeat (first | refine blk_drewN ?_ _ | refine blk_drew ?_ | refine blk_alloc ?_ _)); exact BK377.out⟩, ⟨by repeat (first | (with_reducible first | exact HK.out | apply Kept.alloc | apply Kept.drewN | apply Kept.drew | refine Kept.setCell ?_ (.inr GW374.out) _ | refine Kept.setCell ?_ (.inr GW375.out) _ | refine Kept.setCell ?_ (.inr GW376.out) _ | refine Kept.setCell ?_ (.inr GW377.out) _) | exact HK.out)⟩, ⟨by repeat (first | (with_reducible first | exact HB.out | apply below_alloc | apply pw_below_drewN | apply below_drew1 | refine below_set ?_ GE374.out | refine below_set ?_ GE375.out | refine below_set ?_ GE376.out | refine below_set ?_ GE377.out) | exact HB.out)⟩⟩
                  · rw [if_neg c52] at H
                    exact absurd H (by simp)
                · replace c50 := Bool.eq_false_iff.mpr c50
                  subst c50
                  have H1 : (impl_ChainNumbers_1.l0 k2 l0 (l0.length : Int) a2_0 (wrap64 (x21_1 + 1)) a1_0 l1_1 a2_0 l3_0 a4_0) = some r := by rw [if_neg (show ¬ (false = true) by decide)] at H; exact H
                  clear H
                  have H := H1
                  clear H1
                  have H' := Aside0.mk H
                  clear H
                  have hnb91 := NB374_375.out
                  have hnc91 := NB375_374.out
                  have hnb92 := NB374_376.out
                  have hnc92 := NB376_374.out
                  have hnb93 := NB374_377.out
                  have hnc93 := NB377_374.out
                  have hcz94_0 : wr.cell? ⟨gb374, 0, none⟩ = some (.int .i64 a1_0) := (blk_cell BK374.out 0).trans rfl
                  have hcz94_1 : wr.cell? ⟨gb374, 1, none⟩ = some (.slice A1_1 l1_1.length c1_1) := (blk_cell BK374.out 1).trans rfl
                  have hfz94_0 := blk_frozen BK374.out 0
                  have hfz94_1 := blk_frozen BK374.out 1
                  have hnb95 := NB375_376.out
                  have hnc95 := NB376_375.out
                  have hnb96 := NB375_377.out
                  have hnc96 := NB377_375.out
                  have hcz97_0 : wr.cell? ⟨gb375, 0, none⟩ = some (.int .i64 a2_0) := (blk_cell BK375.out 0).trans rfl
                  have hfz97_0 := blk_frozen BK375.out 0
                  have hnb98 := NB376_377.out
                  have hnc98 := NB377_376.out
                  have hcz99_0 : wr.cell? ⟨gb376, 0, none⟩ = some (.slice A3_0 l3_0.length c3_0) := (blk_cell BK376.out 0).trans rfl
                  have hfz99_0 := blk_frozen BK376.out 0
                  go_wp2
                  go_roundg k2
                  case measure => have := HK1.out; have := HK2.out; omega
                  case rel => exact ⟨(wrap64 (x21_1 + 1)), (by first | rfl | (simp; done) | (simp [*]; done)), H', ⟨by have := HK1.out; have := HK2.out; omega⟩, ⟨by (with_reducible repeat (first | apply Kd.R_alloc | apply Kd.R_drewN | apply Kd.R_drew)); exact HO_0.out⟩, ⟨by (with_reducible repeat (first | refine blk_drewN ?_ _ | refine blk_drew ?_ | refine blk_alloc ?_ _)); exact BK374.out⟩, ⟨by (with_reducible repeat (first | refine blk_drewN ?_ _ | refine blk_drew ?_ | refine blk_alloc ?_ _)); exact BK375.out⟩, ⟨by (with_reducible repeat (first | refine blk_drewN ?_ _ | refine blk_drew ?_ | refine blk_alloc ?_ _)); exact BK376.out⟩, ⟨by (with_reducible repeat (first | refine blk_drewN ?_ _ | refine blk_drew ?_ | refine blk_alloc ?_ _)); exact BK377.out⟩, ⟨by repeat (first | (with_reducible first | exact HK.out | apply Kept.alloc | apply Kept.drewN | apply Kept.drew | refine Kept.setCell ?_ (.inr GW374.out) _ | refine Kept.setCell ?_ (.inr GW375.out) _ | refine Kept.setCell ?_ (.inr GW376.out) _ | refine Kept.setCell ?_ (.inr GW377.out) _) | exact HK.out)⟩, ⟨by repeat (first | (with_reducible first | exact HB.out | apply below_alloc | apply pw_below_drewN | apply below_drew1 | refine below_set ?_ GE374.out | refine below_set ?_ GE375.out | refine below_set ?_ GE376.out | refine below_set ?_ GE377.out) | exact HB.out)⟩⟩
        · rw [if_neg c28] at H
          have c28b0 : decide (x21_1 < a2_0) = false := decide_eq_false c28
          clear c28
          obtain rfl := Option.some.inj H
          go_wp2
          go_ret
          exact ⟨_, by first | rfl | (simp [errW_none, errW_some] <;> rfl) | (simp [*, errW_none, errW_some] <;> rfl), by first | exact Kd.R_nil _ _ _ _ _ | exact Kd.N_nil _ _ _ _ _ | exact Kd.V_nil _ _ _ _ _ | exact Kd.Q_nil _ _ _ _ _ | exact Kd.S_nil _ _ _ _ _, (by first | exact L.NilIs.own2 HBK.out rfl | (exact L.NilIs.own2 HBK.out (by rw [HC5.out]; simp)) | (rw [HC5.out]; exact L.NilIs.nil_) | (exact L.NilIs.found HNQ.out (by assumption) (fun e_ => impl_ChainNumbers_1.ne A53.out (L.app_ne2 Ny386.out Ny383.out) (by assumption) e_))), by repeat (first | (with_reducible first | exact HB.out | apply below_alloc | apply pw_below_drewN | apply below_drew1 | refine below_set ?_ GE374.out | refine below_set ?_ GE375.out | refine below_set ?_ GE376.out | refine below_set ?_ GE377.out) | exact HB.out), by repeat (first | (with_reducible first | exact HK.out | apply Kept.alloc | apply Kept.drewN | apply Kept.drew | refine Kept.setCell ?_ (.inr GW374.out) _ | refine Kept.setCell ?_ (.inr GW375.out) _ | refine Kept.setCell ?_ (.inr GW376.out) _ | refine Kept.setCell ?_ (.inr GW377.out) _) | exact HK.out)⟩

end Go.Proofs.YtjbloapoaphgjaaDoor.P
