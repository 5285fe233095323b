/- The different numbers of a list, in order: slices.Compact over slices.Sorted over slices.Values, walked; for every row of at most 1048576 whole numbers that can be read, nil too; no further condition. -/
import Derived.Test.YtoilbeffheijeaaSh
import Derived.Test.YtoilbeffheijeaaPuDiff
import Derived.Test.YtoilbeffheijeaaWo0
import Derived.RangeFuncBox
import Derived.RangeFuncLeaves
import Derived.Shelf.Abstract
import Derived.WalkKit
import Derived.OwnWalkIn
import Derived.TacticsInMore
import Derived.LoopNIn
import Derived.LoopIn
import Derived.Maps.AppendAt
import Derived.Lib.SlKeysI
namespace Go.Proofs.Ytoilbeffheijeaa.P
open Go.RowKit Go.Shelf Go.Proofs.YtoilbeffheijeaaW.PrintWords
set_option linter.unusedVariables false
set_option linter.unusedSimpArgs false
attribute [local go_sem] Oper.semAt_some
theorem di_add (a : Addr) (j : Nat) : (a.add j).block = a.block := by unfold Addr.add; split <;> rfl
/-- the slice value (some a | none) of that length holds the list, in a block below n₀; or there is nothing in it. -/
def DiInts (n₀ : Nat) (W : World) (A : Option Addr) (zs : List Int) : Prop := zs = [] ∨ ∃ ad : Addr, A = some ad ∧ ad.block < n₀ ∧ ∀ j, j < zs.length → W.cell? (ad.add j) = some (.int .i64 (rd zs (j : Int)))
theorem DiInts.below {n₀ : Nat} {V W : World} (h : Below n₀ V W) {A : Option Addr} {zs : List Int} : DiInts n₀ V A zs → DiInts n₀ W A zs
  | .inl e => .inl e
  | .inr ⟨ad, e, hb, hc⟩ => .inr ⟨ad, e, hb, fun j hj => (h.cell (by rw [di_add]; exact hb)).trans (hc j hj)⟩
def diUpto (zs : List Int) (k : Nat) : List Int := zs.take k
theorem diUpto_succ (zs : List Int) {k : Nat} (h : k < zs.length) : diUpto zs (k + 1) = diUpto zs k ++ [rd zs (k : Int)] := by
  unfold diUpto rd; rw [List.take_add_one, List.getElem?_eq_getElem h, Int.toNat_natCast, List.getD_eq_getElem?_getD, List.getElem?_eq_getElem h]; rfl
theorem diUpto_length (zs : List Int) {k : Nat} (h : k ≤ zs.length) : (diUpto zs k).length = k := by simp [diUpto]; omega
set_option maxRecDepth 100000 in
set_option maxHeartbeats 2000000 in
theorem values1_in (F : Fence) (n : Nat) (h7 : F.fn 37) (hro : F.round = none) (hn : 1 ≤ n) (l Bs n₀ cap : Nat) (ad : Addr) (zs : List Int) (hreach : zs.length ≤ 1048576) (hb : ad.block < n₀) (J Jx : List Int → World → Prop)
    (hY : ∀ pre x W, J pre W → pre.length < zs.length → YieldAt F (n - 1) Try.prog l #[.int .i64 x] W fun e W' =>
      (e = .returned (.bool true) ∧ J (pre ++ [x]) W' ∧ Below n₀ W W') ∨ (e = .returned (.bool false) ∧ Jx (pre ++ [x]) W'))
    (W : World) (hBs : W.cell? ⟨Bs, 0, none⟩ = some (.slice (some ad) zs.length cap)) (hc : ∀ j, j < zs.length → W.cell? (ad.add j) = some (.int .i64 (rd zs (j : Int)))) (h0 : J [] W) :
    CallsIn F n Try.prog 37 #[.func (.yield l) #[] #[], .pointer (some ⟨Bs, 0, none⟩)] W fun e W' => (∃ v, e = .returned v) ∧
      ((∃ ys, ys = zs ∧ J ys W') ∨ (∃ pre, pre <+: zs ∧ Jx pre W')) := by
  refine callsIn_of_wp Try.func37 rfl h7 ?_ hro
  simp only [Try.ntmps37, List.size_toArray, List.length_cons, List.length_nil, Nat.reduceAdd, Nat.reduceSub, Array.replicate_succ, Array.replicate_zero, List.push_toArray, List.append_toArray, List.nil_append, List.cons_append]
  gi_wp2
  gi_loopw [7] (fun i wr => ∃ k : Nat, k ≤ zs.length ∧ i = .int .i64 k ∧ J (diUpto zs k) wr ∧ Below n₀ W wr)
    (fun i _ => zs.length - (intOf i).toNat)
  case atStart => exact ⟨0, Nat.zero_le _, rfl, h0, Below.refl _ _⟩
  case round =>
    obtain ⟨k, hk, rfl, hJs, hnx⟩ := hrel
    have hcx : k < zs.length → wr.cell? (ad.add k) = some (.int .i64 (rd zs (k : Int))) := fun h => (hnx.cell (by rw [di_add]; exact hb)).trans (hc k h)
    by_cases hlt : k < zs.length
    · obtain ⟨fn, tmps, assign, body, hy, hR⟩ := hY _ (rd zs (k : Int)) wr hJs (by rw [diUpto_length zs hk]; exact hlt)
      have hcx' := hcx hlt
      gi_wp2
      refine hR.mono ?_
      rintro e W3 (⟨rfl, hJ3, hk3⟩ | ⟨rfl, hJx3⟩)
      · gi_wp2
        go_roundw
        case rel => exact ⟨k + 1, by omega, by simp, by rw [diUpto_succ zs hlt]; exact hJ3, hnx.trans hk3⟩
        case measure => simp [intOf]; omega
      · gi_wp2
        refine bodyPost_ret (results_none rfl _ _ _) rfl ?_
        exact ⟨⟨_, rfl⟩, .inr ⟨_, by rw [← diUpto_succ zs hlt]; exact List.take_prefix _ _, hJx3⟩⟩
    · obtain rfl : k = zs.length := by omega
      gi_wp2
      go_end0
      exact ⟨⟨_, rfl⟩, .inl ⟨_, by simp [diUpto], hJs⟩⟩
set_option maxRecDepth 100000 in
set_option maxHeartbeats 1000000 in
/-- .. where there is nothing in it: no round. -/
theorem values1_nil_in (F : Fence) (n : Nat) (h7 : F.fn 37) (hro : F.round = none) (l Bs : Nat) (A : Option Addr) (cap : Nat) (J : List Int → World → Prop) (W : World) (hBs : W.cell? ⟨Bs, 0, none⟩ = some (.slice A 0 cap)) (h0 : J [] W) :
    CallsIn F n Try.prog 37 #[.func (.yield l) #[] #[], .pointer (some ⟨Bs, 0, none⟩)] W fun e W' => (∃ v, e = .returned v) ∧ J [] W' := by
  refine callsIn_of_wp Try.func37 rfl h7 ?_ hro
  simp only [Try.ntmps37, List.size_toArray, List.length_cons, List.length_nil, Nat.reduceAdd, Nat.reduceSub, Array.replicate_succ, Array.replicate_zero, List.push_toArray, List.append_toArray, List.nil_append, List.cons_append]
  gi_wp2
  gi_loopw [7] (fun i wr => i = .int .i64 0 ∧ J [] wr) (fun _ _ => 0)
  case atStart => exact ⟨rfl, h0⟩
  case round =>
    obtain ⟨rfl, hJs⟩ := hrel
    gi_wp2
    go_end0
    exact ⟨⟨_, rfl⟩, hJs⟩
set_option maxHeartbeats 1000000 in
theorem values_in (F : Fence) (n : Nat) (h5 : F.fn 34) (hro : F.round = none) (a : Option Addr) (len cap : Nat) (w : World) :
    CallsIn F n Try.prog 34 #[.slice a len cap] w fun e w' => e = .returned (.func (.func 37) #[] #[.pointer (some ⟨w.heap.size, 0, none⟩)]) ∧ w' = w.alloc (.cells #[.slice a len cap] 32) := by
  refine callsIn_of_wp Try.func34 rfl h5 ?_ hro
  simp only [Try.ntmps34, List.size_toArray, List.length_cons, List.length_nil, Nat.reduceAdd, Nat.reduceSub, Array.replicate_succ, Array.replicate_zero, List.push_toArray, List.append_toArray, List.nil_append, List.cons_append]
  gi_wp2
  go_ret
  exact ⟨rfl, rfl⟩
theorem values_stops (F : Fence) (n : Nat) (h7 : F.fn 37) (hro : F.round = none) (hn : 1 ≤ n) (Bs n₀ : Nat) (A : Option Addr) (cap : Nat) (zs : List Int) (hreach : zs.length ≤ 1048576) (w : World) (hBs : Bs < w.heap.size) (hn₀ : n₀ ≤ w.heap.size)
    (hc : w.cell? ⟨Bs, 0, none⟩ = some (.slice A zs.length cap)) (hI : DiInts n₀ w A zs) :
    SeqStopsK F n Try.prog 37 #[.pointer (some ⟨Bs, 0, none⟩)] (fun x : Int => #[Value.int .i64 x]) (Below n₀) (fun ys => ys = zs) (fun pre => pre <+: zs) zs.length w := fun l J Jx W hW _ _ hY h0 => by
  have hc' := (hW.cell (p := ⟨Bs, 0, none⟩) hBs).trans hc
  rcases hI.below (hW.mono hn₀) with rfl | ⟨ad, rfl, hb, hcs⟩
  · exact (values1_nil_in F n h7 hro l Bs A cap J W hc' h0).mono fun e W' ⟨he, hj⟩ => ⟨he, .inl ⟨_, rfl, hj⟩⟩
  · exact values1_in F n h7 hro hn l Bs n₀ cap ad zs hreach hb J Jx hY W hc' hcs h0
theorem di_infoI : (Try.prog.info? 3).map (fun i => (i.zero, i.size, i.bytes)) = some (some (.int .i64 0), 1, 8) := by kernel_rfl
set_option maxRecDepth 100000 in
set_option maxHeartbeats 2000000 in
theorem appendSeq_in (F : Fence) (n : Nat) (h3 : F.fn 38) (h5 : F.fn 37) (hro : F.round = none) (hn : 3 ≤ n) (Bs : Nat) (A : Option Addr) (cap : Nat) (zs : List Int) (hreach : zs.length ≤ 1048576) (w : World) (hBs : Bs < w.heap.size)
    (hcS : w.cell? ⟨Bs, 0, none⟩ = some (.slice A zs.length cap)) (hI : DiInts w.heap.size w A zs) :
    CallsIn F n Try.prog 38 #[.slice none 0 0, .func (.func 37) #[] #[.pointer (some ⟨Bs, 0, none⟩)]] w fun e W' => ∃ v, e = .returned v ∧ W'.ownsRow w.heap.size 3 1 v zs.length (zs.map (Value.int .i64)) ∧ (v = .slice none 0 0 ↔ zs = []) ∧ Below w.heap.size w W' := by
  have h1 : 1 ≤ n := by omega
  obtain ⟨i0, hi, hz0, hz1, hz2⟩ := info_parts di_infoI
  refine callsIn_of_wp_marks Try.func38 rfl h3 ?_ hro
  simp only [Try.ntmps38, List.size_toArray, List.length_cons, List.length_nil, Nat.reduceAdd, Nat.reduceSub, Array.replicate_succ, Array.replicate_zero, List.push_toArray, List.append_toArray, List.nil_append, List.cons_append]
  gi_wp2
  have bO := Boxed.new w 32 (.slice none 0 0)
  have hB0 : Below w.heap.size w (w.alloc (.cells #[.slice none 0 0] 32)) := (Below.refl _ w).alloc (Nat.le_refl _) _
  refine wpIn_rangeFunc_ownG hro h1 (gf := 37) (lb := #[.pointer (some ⟨Bs, 0, none⟩)]) rfl h5 (enters_of Try.func37 (by kernel_rfl) rfl)
    (values_stops F (n - 1) h5 hro (by omega) Bs w.heap.size A cap zs hreach _ (by simp; omega) (by simp) ((hB0.cell (p := ⟨Bs, 0, none⟩) hBs).trans hcS) (hI.below hB0)) belowK_t (belowK_b (by simp)) (Below.refl _ _) (fun _ => rfl)
    (fun pre W => (∃ v, Boxed W w.heap.size 32 v ∧ W.ownsRow w.heap.size 3 1 v pre.length (pre.map (Value.int .i64)) ∧ (v = .slice none 0 0 ↔ pre = [])) ∧ Below w.heap.size w W)
    (fun _ _ _ => False)
    (OwnFrom.and (Own.from (holdsRow_own w.heap.size w.heap.size 32 3 1 (fun pre => pre.length) (fun pre => pre.map (Value.int .i64)) (fun pre v => v = .slice none 0 0 ↔ pre = [])) _) (ownFrom_below (Nat.le_refl _) (by simp)))
    (fun _ _ _ _ _ hs _ _ => hs)
    ⟨⟨_, bO, World.ownsRow_nil _ _ _ _, by simp⟩, hB0⟩
    (fun x => { tmps := #[.slice none 0 0, .func (.func 37) #[] #[.pointer (some ⟨Bs, 0, none⟩)], .pointer (some ⟨w.heap.size, 0, none⟩), undef, .slice none 0 0, .int .i64 x, .func (.func 37) #[] #[.pointer (some ⟨Bs, 0, none⟩)], .int .i64 x, undef, undef, undef, undef, undef], defers := [] }) ?assign ?body ?done ?stop
  case assign =>
    intro l x W K hK
    gi_wp2
    exact hK
  case body =>
    rintro l pre x W ⟨⟨v, hv, hrow, hnil⟩, hB⟩ hlt
    have hc := hv.cell
    gi_wp2_with (gi_at_builtin; refine wpListIn_append_own _ rfl _ _ 32 rfl w.heap.size 3 i0 (.int .i64 0) 1 8 Try.underlying32 hi hz0 hz1 hz2 rfl (by decide) _ _ _ rfl (hrow.alloc _) ⟨W.heap.size, 0, none⟩ 1 1 [.int .i64 x] rfl rfl (cell_one_new _ _ _) (by simp [Value.oneCell']) (by unfold maxLen; omega) (by omega) (by have := hB.size; simp; omega) ?_; intro v' w1 hown' hgrow _; obtain ⟨g', cap', rfl⟩ := ownsRow_succ hown'; obtain ⟨hv1, hv2, hr2, hk2, hb2⟩ := hv.appended (by decide) hrow hB.size (Nat.le_refl _) hown' hgrow; have hc1 := hv1.cell; have hf1 := hv1.frozen)
    exact ⟨hk2.from _, hb2, ⟨_, hv2, by simpa using hr2, by simp⟩, hB.trans hb2⟩
  case done =>
    rintro D ys W hD rfl ⟨⟨v, hv, hrow, hnil⟩, hB⟩ hK
    have hc := hv.cell
    gi_wp2
    refine ⟨by simp, .inl ⟨_, _, rfl, run_takeDeferred hK, ?_⟩⟩
    exact ⟨_, results_tmp rfl _ _ _, v, rfl, ownsRow_putObj hrow _ hK rfl, hnil, hB.trans (belowK_b (w := w) (Nat.le_refl _) W D _ _ (by simp at hD; omega) hK rfl rfl)⟩
  case stop =>
    rintro D c pre W _ _ h _
    exact h.elim
set_option maxRecDepth 100000 in
set_option maxHeartbeats 1000000 in
theorem collect_in (F : Fence) (n : Nat) (h2 : F.fn 35) (h3 : F.fn 38) (h5 : F.fn 37) (hro : F.round = none) (hn : 4 ≤ n) (Bs : Nat) (A : Option Addr) (cap : Nat) (zs : List Int) (hreach : zs.length ≤ 1048576) (w : World) (hBs : Bs < w.heap.size)
    (hcS : w.cell? ⟨Bs, 0, none⟩ = some (.slice A zs.length cap)) (hI : DiInts w.heap.size w A zs) :
    CallsIn F n Try.prog 35 #[.func (.func 37) #[] #[.pointer (some ⟨Bs, 0, none⟩)]] w fun e W' => ∃ v, e = .returned v ∧ W'.ownsRow w.heap.size 3 1 v zs.length (zs.map (Value.int .i64)) ∧ (v = .slice none 0 0 ↔ zs = []) ∧ Below w.heap.size w W' := by
  have C := Aside0.mk (appendSeq_in F (n - 1) h3 h5 hro (by omega) Bs A cap zs hreach w hBs hcS hI)
  have h1 : 1 ≤ n := by omega
  clear hcS hI
  refine callsIn_of_wp Try.func35 rfl h2 ?_ hro
  simp only [Try.ntmps35, List.size_toArray, List.length_cons, List.length_nil, Nat.reduceAdd, Nat.reduceSub, Array.replicate_succ, Array.replicate_zero, List.push_toArray, List.append_toArray, List.nil_append, List.cons_append]
  gi_wp2_with (gi_at_call 38; refine C.out.mono ?_; rintro e w' ⟨v, rfl, hv⟩; have HV := Aside0.mk hv; clear hv)
  go_ret
  exact ⟨v, rfl, HV.out⟩
set_option maxRecDepth 100000 in
set_option maxHeartbeats 2000000 in
theorem sorted_in (n : Nat) (hn : 5 ≤ n) (Bs : Nat) (A : Option Addr) (cap : Nat) (zs : List Int) (hreach : zs.length ≤ 1048576) (w : World) (hBs : Bs < w.heap.size)
    (hcS : w.cell? ⟨Bs, 0, none⟩ = some (.slice A zs.length cap)) (hI : DiInts w.heap.size w A zs) :
    CallsIn Fence.wide n Try.prog 33 #[.func (.func 37) #[] #[.pointer (some ⟨Bs, 0, none⟩)]] w fun e W' => ∃ v, e = .returned v ∧ W'.ownsRow w.heap.size 3 1 v zs.length ((zs.mergeSort fun x y => decide (x ≤ y)).map encZ) ∧ (v = .slice none 0 0 ↔ zs = []) ∧ Below w.heap.size w W' := by
  have C := Aside0.mk (collect_in Fence.wide (n - 1) trivial trivial trivial rfl (by omega) Bs A cap zs hreach w hBs hcS hI)
  have h1 : 1 ≤ n := by omega
  have hf : Fence.wide.fn 36 := trivial
  have hf2 : Fence.wide.fn 35 := trivial
  clear hcS hI
  refine callsIn_of_wp Try.func33 rfl trivial ?_ rfl
  simp only [Try.ntmps33, List.size_toArray, List.length_cons, List.length_nil, Nat.reduceAdd, Nat.reduceSub, Array.replicate_succ, Array.replicate_zero, List.push_toArray, List.append_toArray, List.nil_append, List.cons_append]
  gi_wp2_with (gi_at_call 35; refine C.out.mono ?_; rintro e W ⟨v, rfl, hrow, hnil, hb⟩)
  rcases hrow.2 with ⟨rfl, hz⟩ | ⟨gb, cp, cur, rfl, hbase, hgb, r1, r2, r3, r4⟩
  · have hss : zs = [] := List.eq_nil_of_length_eq_zero hz
    subst hss
    have cN : CallsIn Fence.wide (n - 1) Try.prog 36 #[.slice none 0 0] W fun e w' => e = .returned (.tuple #[]) ∧ w' = W := callsIn_wide.2 (AnyM.slices_Sort_int_none sh_sort none 0 W)
    have HR := Aside0.mk hrow
    have HB := Aside0.mk hb
    clear hrow hb hnil
    gi_wp2_with (gi_at_call 36; refine cN.mono ?_; rintro e w' ⟨rfl, rfl⟩)
    go_ret
    exact ⟨.slice none 0 0, rfl, by simpa using HR.out, by simp, HB.out⟩
  · have hH : Go.Sort.Holds encZ W gb 0 zs.toArray := holds_of_block_i hgb (by rw [Nat.mul_one] at r4; exact r4)
    have hgl : gb < W.heap.size := (Array.getElem?_eq_some_iff.1 hgb).1
    have hsz : zs.length < 4611686018427387904 := by omega
    have cS : CallsIn Fence.wide (n - 1) Try.prog 36 #[.slice (some ⟨gb, 0, none⟩) zs.length cp] W fun e w' => e = .returned (.tuple #[]) ∧ ∃ k os, w' = Go.Sort.grow (Go.Sort.putRow encZ (Go.Sort.ahead W k) gb 0 (zs.mergeSort fun x y => decide (x ≤ y)).toArray) os := callsIn_wide.2 (AnyM.slices_Sort_int sh_sort gb 0 cp zs W hH hgl hsz)
    have HR := Aside0.mk hrow
    have HB := Aside0.mk hb
    have HN := Aside0.mk hnil
    have HG := Aside0.mk hgb
    have CS := Aside0.mk cS
    have HH := Aside0.mk (show cur.size = cp * 1 from r3)
    clear hrow hb hnil hgb cS hH hgl r3 r4
    gi_wp2_with (gi_at_call 36; refine CS.out.mono ?_; rintro e w' ⟨rfl, nn, os, rfl⟩)
    go_ret
    exact ⟨_, rfl, ownsRow_sorted_i (by simp) hbase HG.out r1 r2 HH.out, HN.out, HB.out.grown (grownBy_sorted_i _) HB.out.size (fun j hj => by cases hj; exact hbase)⟩
theorem di_putRow_grow (w : World) (q g : Nat) (d : Array Int) : Go.Sort.putRow encZ (Go.Sort.ahead w q) g 0 d = Go.Sort.grow (Go.Sort.putRow encZ (Go.Sort.ahead w q) g 0 d) #[] := by
  unfold Go.Sort.grow; simp; rfl
theorem ownsRow_compact_i {w : World} {base g cap q : Nat} {e : TypeId} {cur : Array Value} {ss ts us : List Int} (hl : (ts ++ us).length = ss.length) (hbase : base ≤ g) (hb : w.heap[g]? = some (.cells cur e (0, 0)))
    (h1 : ss.length ≤ cap) (h2 : cap ≤ maxLen) (h3 : cur.size = cap * 1) :
    (Go.Sort.putRow encZ (Go.Sort.ahead w q) g 0 (ts ++ us).toArray).ownsRow base e 1 (.slice (some ⟨g, 0, none⟩) ts.length cap) ts.length (ts.map encZ) := by
  have hle : ts.length ≤ ss.length := by rw [← hl, List.length_append]; omega
  refine ⟨by simp, .inr ⟨g, cap, Go.Sort.putCells encZ 0 (ts ++ us).toArray cur, rfl, hbase, ?_, by omega, h2, by simp [Go.Sort.putCells, h3], ?_⟩⟩
  · rw [di_putRow_grow]; exact heap_sorted_i _ hb
  · have := take_putCells_i cur (ts ++ us) (by omega)
    rw [Nat.mul_one]
    have e1 := congrArg (List.take ts.length) this
    rw [List.take_take, Nat.min_eq_left (by rw [List.length_append]; omega), List.map_append, List.take_left' (by simp)] at e1
    exact e1
set_option maxRecDepth 100000 in
set_option maxHeartbeats 2000000 in
/-- **different(list)**: a row of the call's own that holds the different numbers, in order. -/
theorem different_calls (A : Option Addr) (cap : Nat) (zs : List Int) (hreach : zs.length ≤ 1048576) (w : World) (hr : Kd.C (Kd.int .i64) w A zs.length zs) :
    Calls Try.prog 30 #[.slice A zs.length cap] w fun e w' => ∃ v : Value, e = .returned v ∧ Kd.R (Kd.int .i64) 3 w' w.heap.size (fun _ => True) v (Diff.diffL zs) ∧ Below w.heap.size w w' := by
  have hI : DiInts w.heap.size w A zs := by
    by_cases h0 : zs = []
    · exact .inl h0
    · have hp : 0 < zs.length := List.length_pos_iff.2 h0
      obtain ⟨ad, rfl, _⟩ := Kd.at_int hr 0 (by omega) (by omega)
      refine .inr ⟨ad, rfl, ?_, fun j hj => ?_⟩
      · obtain ⟨ad2, e2, hc⟩ := Kd.at_int hr 0 (by omega) (by omega)
        cases e2
        have := World.block_lt_of_cell? w _ hc
        rwa [di_add] at this
      · obtain ⟨ad2, e2, hc⟩ := Kd.at_int hr (j : Int) (by omega) (by omega)
        cases e2
        rw [Int.toNat_natCast] at hc
        exact hc
  refine (callsIn_wide (n := 7)).1 ?_
  have cV : ∀ W, CallsIn Fence.wide 6 Try.prog 34 #[.slice A zs.length cap] W fun e w' => e = .returned (.func (.func 37) #[] #[.pointer (some ⟨W.heap.size, 0, none⟩)]) ∧ w' = W.alloc (.cells #[.slice A zs.length cap] 32) := fun W => values_in Fence.wide 6 trivial rfl A zs.length cap W
  have hB0 : Below w.heap.size w (w.alloc (.cells #[.slice A zs.length cap] 32)) := (Below.refl _ w).alloc (Nat.le_refl _) _
  have bx := (Boxed.new w 32 (.slice A zs.length cap)).cell
  have hI1 : DiInts (w.alloc (.cells #[.slice A zs.length cap] 32)).heap.size (w.alloc (.cells #[.slice A zs.length cap] 32)) A zs := by
    rcases hI.below hB0 with h | ⟨ad, e, h1, h2⟩
    · exact .inl h
    · exact .inr ⟨ad, e, by simp; omega, h2⟩
  have cS := sorted_in 6 (by omega) w.heap.size A cap zs hreach _ (by simp) bx hI1
  have CV := Aside0.mk cV
  have CS := Aside0.mk cS
  have HB0 := Aside0.mk hB0
  have hf1 : Fence.wide.fn 34 := trivial
  have hf2 : Fence.wide.fn 33 := trivial
  have hf3 : Fence.wide.fn 32 := trivial
  clear cV cS hI hI1 bx hr hB0
  refine callsIn_of_wp Try.func30 rfl trivial ?_ rfl
  simp only [Try.ntmps30, List.size_toArray, List.length_cons, List.length_nil, Nat.reduceAdd, Nat.reduceSub, Array.replicate_succ, Array.replicate_zero, List.push_toArray, List.append_toArray, List.nil_append, List.cons_append]
  gi_wp2_with (first
    | (gi_at_call 34; refine (CV.out _).mono ?_; rintro e w' ⟨rfl, rfl⟩)
    | (gi_at_call 33; refine CS.out.mono ?_; rintro e W ⟨v, rfl, hrow, hnil, hb⟩; have HR := Aside0.mk hrow; have HB := Aside0.mk hb; have HN := Aside0.mk hnil; clear hrow hb hnil))
  have hlt : (w.alloc (.cells #[.slice A zs.length cap] 32)).heap.size = w.heap.size + 1 := by simp
  rcases HR.out.2 with ⟨rfl, hz⟩ | ⟨gb, cp, cur, rfl, hbase, hgb, r1, r2, r3, r4⟩
  · have hss : zs = [] := List.eq_nil_of_length_eq_zero hz
    subst hss
    have cN : CallsIn Fence.wide 6 Try.prog 32 #[.slice none 0 0] W fun e w' => e = .returned (.slice none 0 0) ∧ w' = W := callsIn_wide.2 (AnyG.slices_Compact_int_empty sh_compact none 0 W)
    clear HR HN
    gi_wp2_with (gi_at_call 32; refine cN.mono ?_; rintro e w' ⟨rfl, rfl⟩)
    go_ret
    refine ⟨.slice none 0 0, rfl, ?_, HB0.out.trans (HB.out.mono (by simp))⟩
    have e0 : Diff.diffL [] = [] := by unfold Diff.diffL; simp [Lib.compact, Lib.compactUpTo]
    rw [e0]; exact Kd.R_nil _ _ _ _ _
  · have hml : (zs.mergeSort fun x y => decide (x ≤ y)).length = zs.length := List.length_mergeSort ..
    have hH : Go.Sort.Holds encZ W gb 0 (zs.mergeSort fun x y => decide (x ≤ y)).toArray := holds_of_block_i hgb (by rw [hml]; rw [Nat.mul_one] at r4; exact r4)
    have cC : CallsIn Fence.wide 6 Try.prog 32 #[.slice (some ⟨gb, 0, none⟩) zs.length cp] W fun e w' => e = .returned (.slice (some ⟨gb, 0, none⟩) (Diff.diffL zs).length cp) ∧ ∃ q, w' = Go.Sort.putRow encZ (Go.Sort.ahead W q) gb 0 (Diff.diffL zs ++ List.replicate (zs.length - (Diff.diffL zs).length) 0).toArray := by
      have := AnyG.slices_Compact_int sh_compact gb 0 cp (zs.mergeSort fun x y => decide (x ≤ y)) W hH (by rw [hml]; omega) (by rw [hml]; exact r1)
      rw [hml] at this
      exact callsIn_wide.2 this
    have HG := Aside0.mk hgb
    have CC := Aside0.mk cC
    have HH := Aside0.mk (show cur.size = cp * 1 from r3)
    have hdl := Diff.diffL_length_le zs
    clear hgb cC hH r3 r4 HR HN hml
    gi_wp2_with (gi_at_call 32; refine CC.out.mono ?_; rintro e w' ⟨rfl, q, rfl⟩)
    go_ret
    refine ⟨_, rfl, Kd.R_of_own (enc := Value.int .i64) (ownsRow_compact_i (ss := zs) (by rw [List.length_append, List.length_replicate]; omega) (by omega) HG.out r1 r2 HH.out) (fun _ _ => trivial), ?_⟩
    refine (HB0.out.trans (HB.out.mono (by simp))).grown (row := some gb) ?_ (by have := HB.out.size; simp at this; omega) (fun j hj => by cases hj; omega)
    rw [di_putRow_grow]; exact grownBy_sorted_i _
end Go.Proofs.Ytoilbeffheijeaa.P
