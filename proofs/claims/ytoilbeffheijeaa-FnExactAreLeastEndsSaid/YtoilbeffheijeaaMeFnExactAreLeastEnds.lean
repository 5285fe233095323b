/- The plain laws behind FnExactAreLeastEnds, in one text (merged by wip/merge.py). -/
import Derived.Test.YtoilbeffheijeaaLib
import Derived.Test.YtoilbeffheijeaaRowLib
import Derived.Test.YtoilbeffheijeaaPx14
import Derived.Test.YtoilbeffheijeaaPx13
import Derived.Test.YtoilbeffheijeaaPx8
import Derived.Test.YtoilbeffheijeaaPx2
import Derived.Test.YtoilbeffheijeaaPuDiff
import Derived.Test.YtoilbeffheijeaaPx11
import Derived.Test.YtoilbeffheijeaaPx3
import Derived.Test.YtoilbeffheijeaaPx4
import Derived.Test.YtoilbeffheijeaaPx12
import Derived.Test.YtoilbeffheijeaaPx5
import Derived.Test.YtoilbeffheijeaaPx6
import Derived.Test.YtoilbeffheijeaaPx9
import Derived.Test.YtoilbeffheijeaaPx7
import Derived.Test.YtoilbeffheijeaaPx15
/-! ### PuIv0 -/
/- Plain laws of rows of intervals: reading, comparing; no conditions beyond the rows' lengths. -/
namespace Go.Proofs.Ytoilbeffheijeaa.P
open Go.RowKit Go.Proofs.YtoilbeffheijeaaW.PrintWords Go.Proofs.YtoilbeffheijeaaW.PrintLast Go.Proofs.YtoilbeffheijeaaW.PrintMore L
set_option linter.unusedVariables false
set_option linter.unusedSimpArgs false
abbrev Iv := S37
abbrev rdIv (l : List Iv) (i : Int) : Iv := rd_T37 l i
theorem rdIv_get {l : List Iv} {i : Nat} (h : i < l.length) : rd_T37 l (i : Int) = l[i] := by
  simp [rd_T37, List.getD_eq_getElem?_getD, List.getElem?_eq_getElem h]
theorem eqInterval_eq (x y : Iv) : laws_eqInterval.f x.f0 x.f1 y.f0 y.f1 = some (decide (x.f0 = y.f0 ∧ x.f1 = y.f1)) := by
  unfold laws_eqInterval.f
  by_cases h : x.f0 = y.f0 <;> by_cases h2 : x.f1 = y.f1 <;> simp [h, h2]
theorem eqIntervalS_self (l : List Iv) (hl : l.length ≤ 9223372036854775806) : Ev (fun k => laws_eqIntervalS.f k l l) true := by
  have key : ∀ i, i ≤ l.length → Ev (fun k => laws_eqIntervalS.l0 k l l (i : Int)) true := by
    refine L.down ?_ fun i hi ih => ?_
    · refine L.Ev.succ ?_
      simp only [laws_eqIntervalS.l0]
      exact L.Ev.ifn (by omega) (Ev.now _)
    · refine L.Ev.succ ?_
      simp only [laws_eqIntervalS.l0]
      refine L.Ev.ifp (by omega) (L.Ev.ifp (by omega) (L.Ev.ifp (by omega) (L.Ev.bindc (eqInterval_eq _ _) (L.Ev.ifp (by simp) ?_))))
      exact Ev.congr (fun k => by rw [L.w64n (by omega)]) ih
  refine Ev.congr (fun k => ?_) (key 0 (by omega))
  unfold laws_eqIntervalS.f
  rw [if_pos rfl]; rfl
end Go.Proofs.Ytoilbeffheijeaa.P

/-! ### PuIvP -/
/- Plain laws of the copy of an interval. -/
namespace Go.Proofs.Ytoilbeffheijeaa.P
open Go.RowKit L
theorem toInterval_eq (a b : Int) : laws_toInterval.f a b = some (a, b) := rfl
end Go.Proofs.Ytoilbeffheijeaa.P

/-! ### PuIv -/
/- Plain laws of the copies and comparisons of rows of intervals; no conditions beyond the rows' lengths. -/
namespace Go.Proofs.Ytoilbeffheijeaa.P
open Go.RowKit Go.Proofs.YtoilbeffheijeaaW.PrintWords Go.Proofs.YtoilbeffheijeaaW.PrintLast Go.Proofs.YtoilbeffheijeaaW.PrintMore L
set_option linter.unusedVariables false
set_option linter.unusedSimpArgs false
abbrev LIv := S39
abbrev rdLIv (l : List LIv) (i : Int) : LIv := rd_T39 l i
theorem rdLIv_get {l : List LIv} {i : Nat} (h : i < l.length) : rd_T39 l (i : Int) = l[i] := by
  simp [rd_T39, List.getD_eq_getElem?_getD, List.getElem?_eq_getElem h]
def toIv1 (x : LIv) : Iv := ⟨x.f0, x.f1⟩
def toIv (l : List LIv) : List Iv := l.map toIv1
theorem toIv_length (l : List LIv) : (toIv l).length = l.length := by simp [toIv]
theorem toIv_wf {l : List LIv} (h : ∀ x ∈ l, R.wf x.f0 ∧ R.wf x.f1) : ∀ x ∈ toIv l, R.wf x.f0 ∧ R.wf x.f1 := by
  intro x hx
  obtain ⟨y, hy, rfl⟩ := List.mem_map.1 hx
  exact h y hy
theorem toIntervalS_ev (l : List LIv) (hl : l.length ≤ 1048576) : Ev (fun k => laws_toIntervalS.f k l) (toIv l) := by
  have key : ∀ i, i ≤ l.length → Ev (fun k => laws_toIntervalS.l0 k l ((toIv l).take i ++ List.replicate (l.length - i) z37) (i : Int)) (toIv l) := by
    refine L.down ?_ fun i hi ih => ?_
    · refine L.Ev.succ ?_
      simp only [laws_toIntervalS.l0]
      refine L.Ev.ifn (by omega) ?_
      rw [Nat.sub_self, List.take_of_length_le (by rw [toIv_length]; omega)]
      simp only [List.replicate_zero, List.append_nil]
      exact Ev.now _
    · refine L.Ev.succ ?_
      simp only [laws_toIntervalS.l0]
      refine L.Ev.ifp (by omega) (L.Ev.ifp (by omega) (L.Ev.bindc (toInterval_eq _ _) (L.Ev.ifp ?_ ?_)))
      · simp only [List.length_append, List.length_take, List.length_replicate, toIv_length]; omega
      · have e : ((toIv l).take i ++ List.replicate (l.length - i) z37).set i (⟨(rd_T39 l (i : Int)).f0, (rd_T39 l (i : Int)).f1⟩ : Iv) = (toIv l).take (i + 1) ++ List.replicate (l.length - (i + 1)) z37 := by
          rw [rdLIv_get hi]
          have hL : (toIv l).length = l.length := toIv_length l
          refine List.ext_getElem? fun j => ?_
          rw [List.getElem?_set]
          by_cases hj : i = j
          · subst hj
            rw [if_pos rfl, if_pos (by simp only [List.length_append, List.length_take, List.length_replicate]; omega), List.getElem?_append_left (by simp only [List.length_take]; omega), List.getElem?_take, if_pos (by omega)]
            simp [toIv, toIv1, List.getElem?_eq_getElem hi]
          · rw [if_neg hj]
            by_cases h1 : j < i
            · rw [List.getElem?_append_left (by simp only [List.length_take]; omega), List.getElem?_append_left (by simp only [List.length_take]; omega), List.getElem?_take, List.getElem?_take, if_pos h1, if_pos (by omega)]
            · rw [List.getElem?_append_right (by simp only [List.length_take]; omega), List.getElem?_append_right (by simp only [List.length_take]; omega)]
              simp only [List.length_take, List.getElem?_replicate, hL]
              by_cases h2 : j < l.length
              · rw [if_pos (by omega), if_pos (by omega)]
              · rw [if_neg (by omega), if_neg (by omega)]
        refine Ev.congr (fun k => ?_) ih
        rw [L.w64n (by omega), Int.toNat_natCast, e]
  refine Ev.congr (fun k => ?_) (key 0 (by omega))
  unfold laws_toIntervalS.f
  rw [if_pos (by omega), if_pos (by omega)]
  simp
theorem szIntervalS_eq (l : List LIv) (a : Int) (ha : 0 ≤ a ∧ a ≤ 1048576) (hl : l.length ≤ 9223372036854775807) : laws_szIntervalS.f l a = some (if (l.length : Int) ≤ a then a - l.length else -1) := by
  unfold laws_szIntervalS.f
  rw [L.w64 (by omega) (by omega)]
  by_cases h : (l.length : Int) ≤ a
  · rw [if_neg (by omega), if_pos h]
  · rw [if_pos (by omega), if_neg h]
end Go.Proofs.Ytoilbeffheijeaa.P

/-! ### PuDilworth -/
/- Plain law: an order whose sets of incomparable elements have at most w elements falls into w chains (Dilworth); for every such order below n. -/
namespace Go.Proofs.Ytoilbeffheijeaa.Dil
set_option linter.unusedVariables false
set_option linter.unusedSimpArgs false
section
variable {n : Nat} {r : Nat → Nat → Bool}
theorem nodup_range_le : ∀ (w : Nat) (l : List Nat), l.Nodup → (∀ x ∈ l, x < w) → l.length ≤ w := by
  intro w
  induction w with
  | zero =>
    intro l _ h
    cases l with
    | nil => simp
    | cons x l => have := h x (List.mem_cons_self ..); omega
  | succ w ih =>
    intro l hn h
    have h1 := ih (l.filter fun x => x != w) (hn.filter _) (fun x hx => by
      obtain ⟨h1, h2⟩ := List.mem_filter.1 hx
      have := h x h1
      have : x ≠ w := by simpa using h2
      omega)
    have h2 : l.length ≤ (l.filter fun x => x != w).length + 1 := by
      clear h h1 ih
      induction l with
      | nil => simp
      | cons y l ih =>
        obtain ⟨ha, hb⟩ := List.nodup_cons.1 hn
        rw [List.filter_cons]
        by_cases e : y = w
        · subst e
          have : (l.filter fun x => x != y) = l := List.filter_eq_self.2 fun x hx => by
            have : x ≠ y := fun e => ha (e ▸ hx)
            simpa using this
          simp [this]
        · have := ih hb
          simp [e]; omega
    omega
theorem mem_of_full {w : Nat} {l : List Nat} (hn : l.Nodup) (h : ∀ x ∈ l, x < w) (hl : l.length = w) {i : Nat} (hi : i < w) : i ∈ l := by
  refine Classical.byContradiction fun hc => ?_
  have := nodup_range_le w (i :: l) (List.nodup_cons.2 ⟨hc, hn⟩) (fun x hx => by
    rcases List.mem_cons.1 hx with rfl | hx
    · exact hi
    · exact h x hx)
  simp at this; omega
/-- how many numbers below n have p. -/
def cnt (n : Nat) (p : Nat → Bool) : Nat := ((List.range n).filter p).length
theorem filter_len_le {p q : Nat → Bool} (l : List Nat) (h : ∀ x ∈ l, p x = true → q x = true) : (l.filter p).length ≤ (l.filter q).length := by
  induction l with
  | nil => simp
  | cons y l ih =>
    have i := ih fun x hx => h x (List.mem_cons_of_mem _ hx)
    have hy := h y (List.mem_cons_self ..)
    rw [List.filter_cons, List.filter_cons]
    cases hp : p y with
    | true => rw [hy hp]; simp; omega
    | false => cases q y <;> simp <;> omega
theorem filter_len_lt {p q : Nat → Bool} (l : List Nat) (h : ∀ x ∈ l, p x = true → q x = true) (a : Nat) (ha : a ∈ l) (hq : q a = true) (hp : p a = false) : (l.filter p).length < (l.filter q).length := by
  induction l with
  | nil => cases ha
  | cons y l ih =>
    have hl := fun x hx => h x (List.mem_cons_of_mem y hx)
    have hy := h y (List.mem_cons_self ..)
    rw [List.filter_cons, List.filter_cons]
    by_cases e : y = a
    · subst e
      have := filter_len_le l hl
      rw [hp, hq]; simp; omega
    · have ha' : a ∈ l := (List.mem_cons.1 ha).resolve_left fun e' => e e'.symm
      have i := ih hl ha'
      cases hpy : p y with
      | true => rw [hy hpy]; simp; omega
      | false => cases q y <;> simp <;> omega
theorem cnt_lt {p q : Nat → Bool} (h : ∀ x, x < n → p x = true → q x = true) {a : Nat} (ha : a < n) (hq : q a = true) (hp : p a = false) : cnt n p < cnt n q :=
  filter_len_lt _ (fun x hx => h x (List.mem_range.1 hx)) a (List.mem_range.2 ha) hq hp
theorem exists_max (hirr : ∀ i, r i i = false) (htr : ∀ i j k, r i j = true → r j k = true → r i k = true) (p : Nat → Prop) (hp : ∀ x, p x → x < n) :
    ∀ x, p x → ∃ m, p m ∧ ∀ y, p y → r m y = false := by
  have key : ∀ d x, p x → cnt n (fun y => r x y) ≤ d → ∃ m, p m ∧ ∀ y, p y → r m y = false := by
    intro d
    induction d with
    | zero =>
      intro x hx hd
      refine ⟨x, hx, fun y hy => ?_⟩
      cases h : r x y with
      | false => rfl
      | true =>
        have : y ∈ (List.range n).filter fun y => r x y := List.mem_filter.2 ⟨List.mem_range.2 (hp y hy), h⟩
        have := List.length_pos_of_mem this
        unfold cnt at hd; omega
    | succ d ih =>
      intro x hx hd
      by_cases hc : ∃ y, p y ∧ r x y = true
      · obtain ⟨y, hy, hxy⟩ := hc
        refine ih y hy ?_
        have := cnt_lt (n := n) (p := fun z => r y z) (q := fun z => r x z) (fun z _ hz => htr x y z hxy hz) (hp y hy) hxy (hirr y)
        omega
      · refine ⟨x, hx, fun y hy => ?_⟩
        cases h : r x y with
        | false => rfl
        | true => exact absurd ⟨y, hy, h⟩ hc
  exact fun x hx => key _ x hx (Nat.le_refl _)
/-- a list of elements no two of which are comparable. -/
structure Anti (r : Nat → Nat → Bool) (S : Nat → Bool) (A : List Nat) : Prop where
  nodup : A.Nodup
  mem : ∀ x ∈ A, S x = true
  free : ∀ x ∈ A, ∀ y ∈ A, r x y = false
theorem Anti.mono {S T : Nat → Bool} {A : List Nat} (h : Anti r S A) (hs : ∀ x, S x = true → T x = true) : Anti r T A := ⟨h.nodup, fun x hx => hs x (h.mem x hx), h.free⟩
def Chains (r : Nat → Nat → Bool) (S : Nat → Bool) (w : Nat) (c : Nat → Nat) : Prop :=
  (∀ i, S i = true → c i < w) ∧ ∀ i j, S i = true → S j = true → i ≠ j → c i = c j → r i j = true ∨ r j i = true
theorem map_nodup {A : List Nat} {f : Nat → Nat} (hn : A.Nodup) (h : ∀ x ∈ A, ∀ y ∈ A, f x = f y → x = y) : (A.map f).Nodup := by
  induction A with
  | nil => simp
  | cons a A ih =>
    obtain ⟨h1, h2⟩ := List.nodup_cons.1 hn
    rw [List.map_cons, List.nodup_cons]
    refine ⟨fun hm => ?_, ih h2 fun x hx y hy => h x (List.mem_cons_of_mem _ hx) y (List.mem_cons_of_mem _ hy)⟩
    obtain ⟨b, hb, e⟩ := List.mem_map.1 hm
    have := h b (List.mem_cons_of_mem _ hb) a (List.mem_cons_self ..) e
    exact h1 (this ▸ hb)
/-- an antichain with as many elements as there are chains meets each chain. -/
theorem hits {S : Nat → Bool} {w : Nat} {c : Nat → Nat} (hc : Chains r S w c) {A : List Nat} (hA : Anti r S A) (hl : A.length = w) {i : Nat} (hi : i < w) : ∃ x ∈ A, c x = i := by
  have := mem_of_full (w := w) (l := A.map c) (map_nodup hA.nodup fun x hx y hy e => by
    refine Classical.byContradiction fun hne => ?_
    rcases hc.2 x y (hA.mem x hx) (hA.mem y hy) hne e with h | h
    · rw [hA.free x hx y hy] at h; cases h
    · rw [hA.free y hy x hx] at h; cases h) (fun x hx => by
    obtain ⟨y, hy, rfl⟩ := List.mem_map.1 hx
    exact hc.1 y (hA.mem y hy)) (by simpa using hl) hi
  obtain ⟨x, hx, e⟩ := List.mem_map.1 this
  exact ⟨x, hx, e⟩
theorem dilworth (hirr : ∀ i, r i i = false) (htr : ∀ i j k, r i j = true → r j k = true → r i k = true) :
    ∀ (d : Nat) (S : Nat → Bool) (w : Nat), (∀ x, S x = true → x < n) → cnt n S ≤ d → (∀ A, Anti r S A → A.length ≤ w) → ∃ c, Chains r S w c := by
  intro d
  induction d with
  | zero =>
    intro S w hS hd _
    refine ⟨fun _ => 0, fun i hi => ?_, fun i j hi => ?_⟩ <;>
    · have : i ∈ (List.range n).filter S := List.mem_filter.2 ⟨List.mem_range.2 (hS i hi), hi⟩
      have := List.length_pos_of_mem this
      unfold cnt at hd; omega
  | succ d ih =>
    intro S w hS hd hw
    by_cases hne : ∃ x, S x = true
    case neg => exact ⟨fun _ => 0, fun i hi => absurd ⟨i, hi⟩ hne, fun i _ hi => absurd ⟨i, hi⟩ hne⟩
    obtain ⟨x0, hx0⟩ := hne
    obtain ⟨a, ha, hmax⟩ := exists_max (n := n) hirr htr (fun x => S x = true) hS x0 hx0
    have hw1 : 1 ≤ w := hw [a] ⟨by simp, by simpa using ha, by simp [hirr]⟩
    obtain ⟨S', hS'⟩ : ∃ S' : Nat → Bool, ∀ x, S' x = true ↔ S x = true ∧ x ≠ a := ⟨fun x => S x && decide (x ≠ a), fun x => by simp⟩
    have hsub : ∀ x, S' x = true → S x = true := fun x hx => ((hS' x).1 hx).1
    have hna : S' a = false := by cases h : S' a with | false => rfl | true => exact absurd rfl ((hS' a).1 h).2
    have hcnt : cnt n S' ≤ d := by
      have := cnt_lt (n := n) (p := S') (q := S) (fun x _ => hsub x) (hS a ha) ha hna
      omega
    by_cases hw' : ∀ A, Anti r S' A → A.length ≤ w - 1
    · obtain ⟨c, hc1, hc2⟩ := ih S' (w - 1) (fun x hx => hS x (hsub x hx)) hcnt hw'
      refine ⟨fun x => if x = a then w - 1 else c x, fun i hi => ?_, fun i j hi hj hij e => ?_⟩
      · by_cases h : i = a
        · simp [h]; omega
        · have := hc1 i ((hS' i).2 ⟨hi, h⟩)
          simp [h]; omega
      · by_cases h : i = a
        · have h2 : j ≠ a := fun e => hij (h.trans e.symm)
          have := hc1 j ((hS' j).2 ⟨hj, h2⟩)
          simp [h, h2] at e; omega
        · by_cases h2 : j = a
          · have := hc1 i ((hS' i).2 ⟨hi, h⟩)
            simp [h, h2] at e; omega
          · simp [h, h2] at e
            exact hc2 i j ((hS' i).2 ⟨hi, h⟩) ((hS' j).2 ⟨hj, h2⟩) hij e
    · have hex : ∃ A, Anti r S' A ∧ A.length = w := by
        refine Classical.byContradiction fun hc => hw' fun A hA => ?_
        have h1 := hw A (hA.mono hsub)
        have h2 : A.length ≠ w := fun e => hc ⟨A, hA, e⟩
        omega
      obtain ⟨A0, hA0, hl0⟩ := hex
      obtain ⟨c, hc⟩ := ih S' w (fun x hx => hS x (hsub x hx)) hcnt fun A hA => hw A (hA.mono hsub)
      have htop : ∀ i, ∃ m, i < w → (S' m = true ∧ c m = i ∧ ∃ A, Anti r S' A ∧ A.length = w ∧ m ∈ A) ∧ ∀ y, (S' y = true ∧ c y = i ∧ ∃ A, Anti r S' A ∧ A.length = w ∧ y ∈ A) → r m y = false := by
        intro i
        by_cases hi : i < w
        · obtain ⟨x, hx, e⟩ := hits hc hA0 hl0 hi
          obtain ⟨m, h1, h2⟩ := exists_max (n := n) hirr htr (fun y => S' y = true ∧ c y = i ∧ ∃ A, Anti r S' A ∧ A.length = w ∧ y ∈ A) (fun y hy => hS y (hsub y hy.1)) x ⟨hA0.mem x hx, e, A0, hA0, hl0, hx⟩
          exact ⟨m, fun _ => ⟨h1, h2⟩⟩
        · exact ⟨0, fun h => absurd h hi⟩
      let t := fun i => Classical.choose (htop i)
      have ht : ∀ i, i < w → (S' (t i) = true ∧ c (t i) = i ∧ ∃ A, Anti r S' A ∧ A.length = w ∧ t i ∈ A) ∧ ∀ y, (S' y = true ∧ c y = i ∧ ∃ A, Anti r S' A ∧ A.length = w ∧ y ∈ A) → r (t i) y = false := fun i => Classical.choose_spec (htop i)
      have below : ∀ i, i < w → ∀ B, Anti r S' B → B.length = w → ∃ y ∈ B, c y = i ∧ S' y = true ∧ (y = t i ∨ r y (t i) = true) := by
        intro i hi B hB hl
        obtain ⟨y, hy, e⟩ := hits hc hB hl hi
        refine ⟨y, hy, e, hB.mem y hy, ?_⟩
        by_cases heq : y = t i
        · exact .inl heq
        · have h1 := ht i hi
          rcases hc.2 y (t i) (hB.mem y hy) h1.1.1 heq (by rw [e, h1.1.2.1]) with h | h
          · exact .inr h
          · rw [h1.2 y ⟨hB.mem y hy, e, B, hB, hl, hy⟩] at h; cases h
      have hfree : ∀ i j, i < w → j < w → r (t i) (t j) = false := by
        intro i j hi hj
        cases h : r (t i) (t j) with
        | false => rfl
        | true =>
          obtain ⟨B, hB, hl, hm⟩ := (ht j hj).1.2.2
          obtain ⟨y, hy, _, _, hle⟩ := below i hi B hB hl
          have : r y (t j) = true := by
            rcases hle with rfl | h2
            · exact h
            · exact htr _ _ _ h2 h
          rw [hB.free y hy (t j) hm] at this; cases this
      have hcmp : ∃ i, i < w ∧ r (t i) a = true := by
        refine Classical.byContradiction fun hno => ?_
        have hno' : ∀ i, i < w → r (t i) a = false := fun i hi => by
          cases h : r (t i) a with | false => rfl | true => exact absurd ⟨i, hi, h⟩ hno
        have hta : ∀ i, i < w → t i ≠ a := fun i hi => ((hS' (t i)).1 (ht i hi).1.1).2
        have := hw (a :: (List.range w).map t) ⟨List.nodup_cons.2 ⟨fun hm => by
            obtain ⟨i, hi, e⟩ := List.mem_map.1 hm
            exact hta i (List.mem_range.1 hi) e, map_nodup List.nodup_range fun i hi j hj e => by
            have h1 := (ht i (List.mem_range.1 hi)).1.2.1
            have h2 := (ht j (List.mem_range.1 hj)).1.2.1
            rw [← h1, ← h2, e]⟩, fun x hx => by
            rcases List.mem_cons.1 hx with rfl | hx
            · exact ha
            · obtain ⟨i, hi, rfl⟩ := List.mem_map.1 hx
              exact hsub _ (ht i (List.mem_range.1 hi)).1.1, fun x hx y hy => by
            rcases List.mem_cons.1 hx with hx | hx
            · subst hx
              rcases List.mem_cons.1 hy with hy | hy
              · subst hy; exact hirr _
              · obtain ⟨j, hj, rfl⟩ := List.mem_map.1 hy
                exact hmax _ (hsub _ (ht j (List.mem_range.1 hj)).1.1)
            · obtain ⟨i, hi, rfl⟩ := List.mem_map.1 hx
              rcases List.mem_cons.1 hy with hy | hy
              · subst hy; exact hno' i (List.mem_range.1 hi)
              · obtain ⟨j, hj, rfl⟩ := List.mem_map.1 hy
                exact hfree i j (List.mem_range.1 hi) (List.mem_range.1 hj)⟩
        simp at this; omega
      obtain ⟨i, hi, hia⟩ := hcmp
      obtain ⟨T, hT⟩ : ∃ T : Nat → Bool, ∀ x, T x = true ↔ S' x = true ∧ ¬ (c x = i ∧ (x = t i ∨ r x (t i) = true)) :=
        ⟨fun x => S' x && decide (¬ (c x = i ∧ (x = t i ∨ r x (t i) = true))), fun x => by simp only [Bool.and_eq_true, decide_eq_true_eq]⟩
      have hTS : ∀ x, T x = true → S' x = true := fun x hx => ((hT x).1 hx).1
      have hTc : cnt n T ≤ d := by
        have h1 : cnt n T ≤ cnt n S' := filter_len_le _ fun x _ hx => hTS x hx
        omega
      obtain ⟨c2, hd1, hd2⟩ := ih T (w - 1) (fun x hx => hS x (hsub x (hTS x hx))) hTc fun A hA => by
        have h1 := hw A (hA.mono fun x hx => hsub x (hTS x hx))
        have h2 : A.length ≠ w := fun e => by
          obtain ⟨y, hy, e2, _, hle⟩ := below i hi A (hA.mono hTS) e
          exact ((hT y).1 (hA.mem y hy)).2 ⟨e2, hle⟩
        omega
      have hK : ∀ x, S x = true → T x = false → x = a ∨ (S' x = true ∧ c x = i ∧ (x = t i ∨ r x (t i) = true)) := by
        intro x hx hxT
        by_cases hxa : x = a
        · exact .inl hxa
        · have h1 := (hS' x).2 ⟨hx, hxa⟩
          refine .inr ⟨h1, Classical.byContradiction fun hno => ?_⟩
          rw [(hT x).2 ⟨h1, hno⟩] at hxT; cases hxT
      have hup : ∀ x, (x = t i ∨ r x (t i) = true) → r x a = true := fun x h => by
        rcases h with rfl | h
        · exact hia
        · exact htr _ _ _ h hia
      refine ⟨fun x => if T x = true then c2 x else w - 1, fun x hx => ?_, fun x y hx hy hxy e => ?_⟩
      · by_cases h : T x = true
        · have := hd1 x h
          simp [h]; omega
        · simp [h]; omega
      · by_cases h1 : T x = true
        · by_cases h2 : T y = true
          · simp [h1, h2] at e
            exact hd2 x y h1 h2 hxy e
          · have := hd1 x h1
            simp [h1, h2] at e; omega
        · by_cases h2 : T y = true
          · have := hd1 y h2
            simp [h1, h2] at e; omega
          · rcases hK x hx (by simpa using h1) with rfl | ⟨p1, p2, p3⟩
            · rcases hK y hy (by simpa using h2) with rfl | ⟨q1, q2, q3⟩
              · exact absurd rfl hxy
              · exact .inr (hup y q3)
            · rcases hK y hy (by simpa using h2) with rfl | ⟨q1, q2, q3⟩
              · exact .inl (hup x p3)
              · exact hc.2 x y p1 q1 hxy (p2.trans q2.symm)
end
end Go.Proofs.Ytoilbeffheijeaa.Dil

/-! ### PuLevels -/
/- Plain laws: the levels of sets that lie within each other: as many different levels as sets, the greatest one less; for every list of such sets. -/
namespace Go.Proofs.Ytoilbeffheijeaa.Lev
open Diff
set_option linter.unusedVariables false
set_option linter.unusedSimpArgs false
def sub (t s : Nat) : Bool := (t ^^^ (t &&& s)) == 0
theorem sub_iff (t s : Nat) : sub t s = true ↔ ∀ i, t.testBit i = true → s.testBit i = true := by
  unfold sub
  rw [beq_iff_eq]
  constructor
  · intro h i hi
    have := congrArg (fun x => x.testBit i) h
    simp only [Nat.testBit_xor, Nat.testBit_and, Nat.zero_testBit, hi, Bool.true_and, Bool.true_xor] at this
    simpa using this
  · intro h
    refine Nat.eq_of_testBit_eq fun i => ?_
    rw [Nat.testBit_xor, Nat.testBit_and, Nat.zero_testBit]
    cases ht : t.testBit i with
    | false => simp
    | true => simp [h i ht]
theorem sub_trans {a b c : Nat} (h : sub a b = true) (k : sub b c = true) : sub a c = true := by
  rw [sub_iff] at *; exact fun i hi => k i (h i hi)
theorem sub_antisymm {a b : Nat} (h : sub a b = true) (k : sub b a = true) : a = b := by
  rw [sub_iff] at *
  refine Nat.eq_of_testBit_eq fun i => ?_
  rw [Bool.eq_iff_iff]; exact ⟨h i, k i⟩
/-- the level of a set among sets: how many of them are within it and are others. -/
def level (D : List Nat) (s : Nat) : Nat := (D.filter fun t => decide (t ≠ s) && sub t s).length
theorem level_lt {D : List Nat} {s : Nat} (hs : s ∈ D) : level D s < D.length := by
  have := Dil.filter_len_lt (p := fun t => decide (t ≠ s) && sub t s) (q := fun _ => true) D (fun _ _ _ => rfl) s hs rfl (by simp)
  have e : D.filter (fun _ => true) = D := List.filter_eq_self.2 fun _ _ => rfl
  rw [e] at this; exact this
theorem level_mono {D : List Nat} {s t : Nat} (hs : s ∈ D) (h : sub s t = true) (hne : s ≠ t) : level D s < level D t := by
  refine Dil.filter_len_lt D (fun u _ hu => ?_) s hs (by simp [h, hne]) (by simp)
  simp only [Bool.and_eq_true, decide_eq_true_eq] at hu ⊢
  refine ⟨fun e => hne ?_, sub_trans hu.2 h⟩
  subst e
  exact sub_antisymm h hu.2
theorem levels_full {D : List Nat} (hn : D.Nodup) (hc : ∀ a ∈ D, ∀ b ∈ D, sub a b = true ∨ sub b a = true) : ∀ i, i < D.length → ∃ s ∈ D, level D s = i := by
  intro i hi
  have := Dil.mem_of_full (w := D.length) (l := D.map (level D)) (Dil.map_nodup hn fun x hx y hy e => by
    refine Classical.byContradiction fun hne => ?_
    rcases hc x hx y hy with h | h
    · have := level_mono hx h hne; omega
    · have := level_mono hy h (fun e => hne e.symm); omega) (fun x hx => by
    obtain ⟨y, hy, rfl⟩ := List.mem_map.1 hx
    exact level_lt hy) (by simp) hi
  obtain ⟨s, hs, e⟩ := List.mem_map.1 this
  exact ⟨s, hs, e⟩
/-- the greatest of some numbers, or -1. -/
def most (l : List Int) : Int := l.foldl max (-1)
theorem foldl_max : ∀ (l : List Int) (a : Int), a ≤ l.foldl max a ∧ (∀ x ∈ l, x ≤ l.foldl max a) ∧ (l.foldl max a = a ∨ l.foldl max a ∈ l)
  | [], a => by simp
  | x :: l, a => by
    obtain ⟨h1, h2, h3⟩ := foldl_max l (max a x)
    rw [List.foldl_cons]
    refine ⟨by omega, fun y hy => ?_, ?_⟩
    · rcases List.mem_cons.1 hy with rfl | hy
      · omega
      · exact h2 y hy
    · rcases h3 with h3 | h3
      · by_cases h : a ≤ x
        · right; rw [h3, Int.max_eq_right h]; exact List.mem_cons_self ..
        · left; rw [h3, Int.max_eq_left (by omega)]
      · right; exact List.mem_cons_of_mem _ h3
/-- numbers that fill 0 .. k - 1: there are k different ones, and the greatest is k - 1. -/
theorem full_magnitude (l : List Int) (k : Nat) (h : ∀ x, x ∈ l ↔ 0 ≤ x ∧ x < (k : Int)) : ((diffL l).length : Int) = most l + 1 ∧ most l + 1 = k := by
  obtain ⟨h1, h2⟩ := diffL_props l
  have e : diffL l = (List.range k).map fun (i : Nat) => (i : Int) := by
    refine asc_ext _ _ h1 ?_ fun x => ?_
    · rw [List.pairwise_map]
      exact List.pairwise_lt_range.imp fun h => by omega
    · rw [h2, h, List.mem_map]
      constructor
      · rintro ⟨a, b⟩
        exact ⟨x.toNat, List.mem_range.2 (by omega), by omega⟩
      · rintro ⟨a, ha, rfl⟩
        have := List.mem_range.1 ha
        omega
  have hk : most l + 1 = k := by
    obtain ⟨m1, m2, m3⟩ := foldl_max l (-1)
    unfold most
    generalize l.foldl max (-1) = z at *
    by_cases h0 : k = 0
    · rcases m3 with m3 | m3
      · omega
      · have := (h z).1 m3; omega
    · have := m2 ((k - 1 : Nat) : Int) ((h _).2 (by omega))
      rcases m3 with m3 | m3
      · omega
      · have := (h z).1 m3; omega
  refine ⟨?_, hk⟩
  rw [e, hk]; simp
theorem magnitude {low : List Nat} {D : List Nat} (hn : D.Nodup) (hm : ∀ x, x ∈ D ↔ x ∈ low) (hc : ∀ a ∈ low, ∀ b ∈ low, sub a b = true ∨ sub b a = true) :
    ((diffL (low.map fun s => ((level D s : Nat) : Int))).length : Int) = most (low.map fun s => ((level D s : Nat) : Int)) + 1 ∧ most (low.map fun s => ((level D s : Nat) : Int)) + 1 = D.length := by
  refine full_magnitude _ D.length fun x => ?_
  rw [List.mem_map]
  constructor
  · rintro ⟨s, hs, rfl⟩
    have := level_lt ((hm s).2 hs)
    omega
  · rintro ⟨h0, h1⟩
    obtain ⟨i, rfl⟩ := Int.eq_ofNat_of_zero_le h0
    obtain ⟨s, hs, e⟩ := levels_full hn (fun a ha b hb => hc a ((hm a).1 ha) b ((hm b).1 hb)) i (by omega)
    exact ⟨s, (hm s).1 hs, by rw [e]⟩
end Go.Proofs.Ytoilbeffheijeaa.Lev

/-! ### PuRel0 -/
/- Plain laws: which lists are relations. -/
namespace Go.Proofs.Ytoilbeffheijeaa.P
open Go.RowKit Go.Proofs.YtoilbeffheijeaaW.PrintWords Go.Proofs.YtoilbeffheijeaaW.PrintLast Go.Proofs.YtoilbeffheijeaaW.PrintMore L
set_option linter.unusedVariables false
set_option linter.unusedSimpArgs false
/-- the numbers of a relation. -/
def isRel (n : Int) (l : List Int) : Bool := decide (0 ≤ n ∧ n ≤ 10 ∧ (l.length : Int) = n ∧ ∀ x ∈ l, 0 ≤ x ∧ x < 2 ^ n.toNat)
theorem isRel_iff (n : Int) (l : List Int) : isRel n l = true ↔ 0 ≤ n ∧ n ≤ 10 ∧ (l.length : Int) = n ∧ ∀ x ∈ l, 0 ≤ x ∧ x < 2 ^ n.toNat := by simp [isRel]
theorem isRel_big {n : Nat} {l : List Int} (h : isRel n l = true) : ∀ x ∈ l, 0 ≤ x ∧ x < 1024 := by
  obtain ⟨h0, h1, h2, h3⟩ := (isRel_iff _ _).1 h
  intro x hx
  obtain ⟨a, b⟩ := h3 x hx
  have : (2 : Int) ^ (n : Int).toNat ≤ 2 ^ 10 := by
    have := Nat.pow_le_pow_right (n := 2) (by decide) (show (n : Int).toNat ≤ 10 by omega)
    exact_mod_cast this
  omega
theorem isRel_ok {n : Int} {l : List Int} (h : isRel n l = true) : L.okRel n l := by
  obtain ⟨h0, h1, h2, h3⟩ := (isRel_iff _ _).1 h
  obtain ⟨m, rfl⟩ := Int.eq_ofNat_of_zero_le h0
  refine ⟨h0, by omega, h2, fun x hx => ?_⟩
  have := isRel_big h x hx
  omega
end Go.Proofs.Ytoilbeffheijeaa.P

/-! ### PuRel20 -/
/- Plain laws: single elements of relations: above, below, in bounds; for the program and the reference alike. -/
namespace Go.Proofs.Ytoilbeffheijeaa.P
open Go.RowKit Go.Proofs.YtoilbeffheijeaaW.PrintWords Go.Proofs.YtoilbeffheijeaaW.PrintLast Go.Proofs.YtoilbeffheijeaaW.PrintMore L
set_option linter.unusedVariables false
set_option linter.unusedSimpArgs false
theorem isRel_nat {n : Int} {l : List Int} (h : isRel n l = true) : ∃ m : Nat, n = m ∧ m ≤ 10 ∧ l.length = m := by
  obtain ⟨h0, h1, h2, h3⟩ := (isRel_iff _ _).1 h
  obtain ⟨m, rfl⟩ := Int.eq_ofNat_of_zero_le h0
  exact ⟨m, rfl, by omega, by omega⟩
theorem orHas_eq {n : Int} {l : List Int} (h : L.okRel n l) (i j : Nat) (hj : j ≤ 64) : spec_orHas.f (rd l (i : Int)) (j : Int) = some (L.bitAt l i j) := by
  unfold spec_orHas.f
  rw [if_pos (by omega), h.bitm i j hj]
def R0 (n : Int) : Prop := -9223372036854775807 ≤ n ∧ n ≤ 9223372036854775807
theorem rel_len {m : Nat} {l : List Int} (h : isRel (m : Int) l = true) : l.length = m ∧ m ≤ 10 := by
  obtain ⟨m', hm', hm, hlm⟩ := isRel_nat h
  omega
end Go.Proofs.Ytoilbeffheijeaa.P

/-! ### PuBelow -/
/- Plain laws: the set below an element. -/
namespace Go.Proofs.Ytoilbeffheijeaa.P
open Go.RowKit Go.Proofs.YtoilbeffheijeaaW.PrintWords Go.Proofs.YtoilbeffheijeaaW.PrintLast Go.Proofs.YtoilbeffheijeaaW.PrintMore L
set_option linter.unusedVariables false
set_option linter.unusedSimpArgs false
/-- the set of all elements below one, as a natural number. -/
def belowN (l : List Int) (m i : Nat) : Nat := L.relRow (fun j => L.bitAt l j i) m
theorem belowN_lt (l : List Int) (m i : Nat) : belowN l m i < 2 ^ m := L.relRow_lt _ _
theorem belowN_bit (l : List Int) (m i j : Nat) : (belowN l m i).testBit j = (decide (j < m) && L.bitAt l j i) := L.relRow_testBit _ _ _
theorem orBelow_ev {m : Nat} {l : List Int} (h : isRel (m : Int) l = true) (i : Nat) (hi : i ≤ 64) : Ev (fun k => spec_orBelow.f k (m : Int) l (i : Int)) ((belowN l m i : Nat) : Int) := by
  obtain ⟨m', hm', hm, hlm⟩ := isRel_nat h
  obtain rfl : m = m' := by omega
  have ok := isRel_ok h
  have key : ∀ j, j ≤ m → Ev (fun k => spec_orBelow.l0 k (i : Int) ((L.relRow (fun j => L.bitAt l j i) j : Nat) : Int) l (l.length : Int) (j : Int)) ((belowN l m i : Nat) : Int) := by
    refine L.down ?_ fun j hj ih => ?_
    · refine L.Ev.succ ?_
      simp only [spec_orBelow.l0]
      exact L.Ev.ifn (by omega) (Ev.now _)
    · refine L.Ev.succ ?_
      simp only [spec_orBelow.l0]
      have hlt : L.relRow (fun j => L.bitAt l j i) j < 2 ^ 62 := Nat.lt_of_lt_of_le (L.relRow_lt _ j) (Nat.pow_le_pow_right (by decide) (by omega))
      have hp : (2 : Nat) ^ j < 2 ^ 62 := Nat.pow_lt_pow_right (by decide) (by omega)
      refine L.Ev.ifp (by omega) (L.Ev.ifp (by omega) (L.Ev.ifp (by omega) (L.Ev.bindc (orHas_eq ok j i hi) ?_)))
      rw [L.shl_one (by omega), L.or_nat hlt hp, L.w64n (by omega)]
      have e : L.relRow (fun j => L.bitAt l j i) (j + 1) = if L.bitAt l j i then L.relRow (fun j => L.bitAt l j i) j ||| 2 ^ j else L.relRow (fun j => L.bitAt l j i) j := rfl
      rw [e] at ih
      cases hb : L.bitAt l j i with
      | true => rw [hb] at ih; exact L.Ev.ifp rfl ih
      | false => rw [hb] at ih; exact L.Ev.ifn (by simp) ih
  exact key 0 (by omega)
theorem mirror_eq {m : Nat} {l : List Int} (h : isRel (m : Int) l = true) : impl_Order_mirror.f (m : Int) l = some ((m : Int), L.relL m fun i j => L.bitAt l j i) := by
  unfold impl_Order_mirror.f
  rw [if_pos (isRel_ok h)]; rfl
theorem rd_mirror (l : List Int) {m i : Nat} (hi : i < m) : rd (L.relL m fun i j => L.bitAt l j i) (i : Int) = ((belowN l m i : Nat) : Int) := by
  unfold L.relL
  rw [L.rd_cast, L.relN_get _ _ hi]; rfl
end Go.Proofs.Ytoilbeffheijeaa.P

/-! ### PuRows -/
/- Plain lemmas: rows of bits that are built element by element; relations that are built row by row or mark by mark. -/
namespace Go.Proofs.Ytoilbeffheijeaa.L
open Go.RowKit Go.Proofs.YtoilbeffheijeaaW.PrintWords Go.Proofs.YtoilbeffheijeaaW.PrintLast Go.Proofs.YtoilbeffheijeaaW.PrintMore
set_option linter.unusedVariables false
set_option linter.unusedSimpArgs false
theorem two_lt {j : Nat} (hj : j ≤ 60) : (2 : Nat) ^ j < 2 ^ 62 := Nat.pow_lt_pow_right (by decide) (by omega)
theorem relRow_lt62 (f : Nat → Bool) {j : Nat} (hj : j ≤ 60) : relRow f j < 2 ^ 62 := Nat.lt_trans (relRow_lt f j) (two_lt hj)
theorem row_yes {f : Nat → Bool} {j : Nat} (h : f j = true) (hj : j ≤ 60) : Go.bits .or .i64 ((relRow f j : Nat) : Int) (shl .i64 1 (j : Int)) = ((relRow f (j + 1) : Nat) : Int) := by
  rw [shl_one (by omega), or_nat (relRow_lt62 f hj) (two_lt hj)]
  show _ = ((if f j = true then _ else _ : Nat) : Int)
  rw [if_pos h]
theorem row_no {f : Nat → Bool} {j : Nat} (h : f j = false) : ((relRow f j : Nat) : Int) = ((relRow f (j + 1) : Nat) : Int) := by
  show _ = ((if f j = true then _ else _ : Nat) : Int)
  rw [if_neg (by rw [h]; simp)]
/-- the first i rows of a relation. -/
def relPre (n : Nat) (is : Nat → Nat → Bool) (i : Nat) : List Int := cast ((List.range i).map fun i => relRow (is i) n)
theorem relPre_zero (n : Nat) (is : Nat → Nat → Bool) : relPre n is 0 = [] := rfl
theorem relPre_length (n : Nat) (is : Nat → Nat → Bool) (i : Nat) : (relPre n is i).length = i := by simp [relPre, cast_length]
theorem relPre_full (n : Nat) (is : Nat → Nat → Bool) : relPre n is n = relL n is := rfl
theorem relPre_succ (n : Nat) (is : Nat → Nat → Bool) (i : Nat) : relPre n is i ++ [((relRow (is i) n : Nat) : Int)] = relPre n is (i + 1) := by
  simp [relPre, cast, List.range_succ]
theorem rd_relL (n : Nat) (is : Nat → Nat → Bool) {i : Nat} (h : i < n) : rd (relL n is) (i : Int) = ((relRow (is i) n : Nat) : Int) := by
  unfold relL; rw [rd_cast, relN_get n is h]
theorem relRow_congr {f g : Nat → Bool} {n : Nat} (h : ∀ j, j < n → f j = g j) : relRow f n = relRow g n := by
  refine Nat.eq_of_testBit_eq fun j => ?_
  rw [relRow_testBit, relRow_testBit]
  by_cases hj : j < n
  · rw [h j hj]
  · simp [hj]
theorem relRow_zero {n : Nat} : relRow (fun _ => false) n = 0 := by
  refine Nat.eq_of_testBit_eq fun j => ?_
  rw [relRow_testBit]; simp
theorem relL_none (n : Nat) : relL n (fun _ _ => false) = List.replicate n 0 := by
  refine List.ext_getElem (by simp [relL_length]) fun i h1 h2 => ?_
  have h3 : i < n := by rw [relL_length] at h1; exact h1
  have e := rd_relL n (fun _ _ => false) h3
  rw [rd_get h1, relRow_zero] at e
  rw [e]; simp
theorem relL_set {n : Nat} {is : Nat → Nat → Bool} {i : Nat} (hi : i < n) (f : Nat → Bool) : (relL n is).set i ((relRow f n : Nat) : Int) = relL n (fun a b => if a = i then f b else is a b) := by
  refine List.ext_getElem (by simp [relL_length]) fun j h1 h2 => ?_
  have h3 : j < n := by rw [relL_length] at h2; exact h2
  rw [List.getElem_set, ← rd_get h2, rd_relL n _ h3]
  by_cases e : i = j
  · subst e
    simp
  · rw [if_neg e, ← rd_get (by rw [relL_length]; exact h3), rd_relL n _ h3]
    exact congrArg (fun (x : Nat) => (x : Int)) (relRow_congr fun b _ => by show is j b = if j = i then f b else is j b; rw [if_neg (by omega)])
/-- a mark more. -/
theorem relL_mark {n : Nat} (hn : n ≤ 60) {is : Nat → Nat → Bool} {i j : Nat} (hi : i < n) (hj : j < n) : (relL n is).set i (Go.bits .or .i64 (rd (relL n is) (i : Int)) (shl .i64 1 (j : Int))) = relL n (fun a b => is a b || (decide (a = i) && decide (b = j))) := by
  rw [rd_relL n is hi, shl_one (by omega), or_nat (relRow_lt62 _ hn) (two_lt (by omega))]
  have e : relRow (is i) n ||| 2 ^ j = relRow (fun b => is i b || decide (b = j)) n := by
    refine Nat.eq_of_testBit_eq fun k => ?_
    rw [Nat.testBit_or, relRow_testBit, relRow_testBit, Nat.testBit_two_pow]
    by_cases hk : k < n
    · by_cases hkj : j = k
      · subst hkj; simp [hk]
      · simp [hk, hkj, show ¬ k = j from fun h => hkj h.symm]
    · simp [hk, show ¬ j = k by omega]
  rw [e, relL_set hi]
  refine relL_congr fun a b ha hb => ?_
  by_cases h : a = i
  · subst h; simp
  · simp [h]
/-- a row more in a row. -/
theorem relL_or {n : Nat} (hn : n ≤ 60) {is : Nat → Nat → Bool} {i k : Nat} (hi : i < n) (hk : k < n) : (relL n is).set i (Go.bits .or .i64 (rd (relL n is) (i : Int)) (rd (relL n is) (k : Int))) = relL n (fun a b => is a b || (decide (a = i) && is k b)) := by
  rw [rd_relL n is hi, rd_relL n is hk, or_nat (relRow_lt62 _ hn) (relRow_lt62 _ hn)]
  have e : relRow (is i) n ||| relRow (is k) n = relRow (fun b => is i b || is k b) n := by
    refine Nat.eq_of_testBit_eq fun j => ?_
    rw [Nat.testBit_or, relRow_testBit, relRow_testBit, relRow_testBit]
    cases decide (j < n) <;> simp
  rw [e, relL_set hi]
  refine relL_congr fun a b ha hb => ?_
  by_cases h : a = i
  · subst h; simp
  · simp [h]
/-- a relation that came in is the relation of its bits. -/
theorem okRel_eq {n : Nat} {l : List Int} (hl : l.length = n) (hn : n ≤ 60) (hb : ∀ x ∈ l, 0 ≤ x ∧ x < 2 ^ n) : l = relL n (bitAt l) := by
  refine List.ext_getElem (by rw [relL_length]; exact hl) fun i h1 h2 => ?_
  have h3 : i < n := by omega
  rw [← rd_get h2, rd_relL n _ h3]
  obtain ⟨a, b⟩ := hb l[i] (List.getElem_mem h1)
  obtain ⟨x, hx⟩ := Int.eq_ofNat_of_zero_le a
  rw [hx]
  have hlt : x < 2 ^ n := by rw [hx] at b; exact_mod_cast b
  congr 1
  refine Nat.eq_of_testBit_eq fun j => ?_
  rw [relRow_testBit]
  have e : bitAt l i j = x.testBit j := by
    unfold bitAt
    rw [List.getD_eq_getElem?_getD, List.getElem?_eq_getElem h1, Option.getD_some, hx, Int.toNat_natCast]
  rw [e]
  by_cases hj : j < n
  · simp [hj]
  · simp only [hj, decide_false, Bool.false_and]
    exact Nat.testBit_lt_two_pow (Nat.lt_of_lt_of_le hlt (Nat.pow_le_pow_right (by decide) (by omega)))
theorem rd_okRel {n : Nat} {l : List Int} (hl : l.length = n) (hn : n ≤ 60) (hb : ∀ x ∈ l, 0 ≤ x ∧ x < 2 ^ n) {i : Nat} (hi : i < n) : rd l (i : Int) = ((relRow (bitAt l i) n : Nat) : Int) := by
  have h := okRel_eq hl hn hb
  have e : rd l (i : Int) = rd (relL n (bitAt l)) (i : Int) := by rw [← h]
  rw [e, rd_relL n _ hi]
end Go.Proofs.Ytoilbeffheijeaa.L

/-! ### PuSets -/
/- Plain laws: sets of elements as numbers. -/
namespace Go.Proofs.Ytoilbeffheijeaa.P
open Go.RowKit Go.Proofs.YtoilbeffheijeaaW.PrintWords Go.Proofs.YtoilbeffheijeaaW.PrintLast Go.Proofs.YtoilbeffheijeaaW.PrintMore L
set_option linter.unusedVariables false
set_option linter.unusedSimpArgs false
def allN (m : Nat) : Nat := 2 ^ m - 1
theorem allN_bit (m i : Nat) : (allN m).testBit i = decide (i < m) := by unfold allN; exact Nat.testBit_two_pow_sub_one ..
theorem allN_lt (m : Nat) : allN m < 2 ^ m := by unfold allN; have := Nat.two_pow_pos m; omega
theorem shl_all {m : Nat} (hm : m ≤ 60) : wrap64 ((shl .i64 1 (m : Int)) - 1) = ((allN m : Nat) : Int) := by
  rw [L.shl_one (by omega)]
  have h := L.two_lt hm
  have h0 := Nat.two_pow_pos m
  unfold allN
  rw [L.w64 (by omega) (by omega)]; omega
theorem relRow_lt10 (f : Nat → Bool) {m : Nat} (hm : m ≤ 10) : L.relRow f m < 1024 :=
  Nat.lt_of_lt_of_le (L.relRow_lt f m) (Nat.pow_le_pow_right (n := 2) (by decide) hm)
theorem two_lt10 {i : Nat} (hm : i < 10) : (2 : Nat) ^ i < 1024 := Nat.pow_lt_pow_right (by decide) hm
theorem allN_lt10 {m : Nat} (hm : m ≤ 10) : allN m < 1024 := Nat.lt_of_lt_of_le (allN_lt m) (Nat.pow_le_pow_right (n := 2) (by decide) hm)
/-- the set of the elements of a list. -/
def setN (l : List Int) : Nat := L.relRow (fun j => decide ((j : Int) ∈ l)) 10
theorem setN_lt (l : List Int) : setN l < 1024 := relRow_lt10 _ (by omega)
theorem setN_bit (l : List Int) (j : Nat) : (setN l).testBit j = (decide (j < 10) && decide ((j : Int) ∈ l)) := L.relRow_testBit _ _ _
theorem setN_nil : setN [] = 0 := by decide +kernel
theorem setN_step (l : List Int) (i x : Nat) (hi : i < l.length) (hx : l[i] = (x : Int)) (h10 : x < 10) : setN (l.take i) ||| 2 ^ x = setN (l.take (i + 1)) := by
  refine Nat.eq_of_testBit_eq fun j => ?_
  rw [Nat.testBit_or, setN_bit, setN_bit, Nat.testBit_two_pow]
  have e : l.take (i + 1) = l.take i ++ [l[i]] := by rw [List.take_add_one, List.getElem?_eq_getElem hi]; rfl
  have e2 : ((j : Int) ∈ l.take (i + 1)) = ((j : Int) ∈ l.take i ∨ x = j) := by
    rw [e, List.mem_append, List.mem_singleton, hx]
    exact propext ⟨fun h => h.imp id fun h => by omega, fun h => h.imp id fun h => by omega⟩
  simp only [e2]
  by_cases hj : j < 10
  · by_cases h1 : (j : Int) ∈ l.take i <;> by_cases h2 : x = j <;> simp [hj, h1, h2]
  · by_cases h2 : x = j
    · omega
    · simp [hj, h2]
theorem int_beq (a b : Nat) : ((a : Int) == (b : Int)) = (a == b) := by
  rw [Bool.eq_iff_iff]; simp only [beq_iff_eq]; omega
end Go.Proofs.Ytoilbeffheijeaa.P

/-! ### PuLevel -/
/- Plain laws: the levels of all elements, in the program and in the reference. -/
namespace Go.Proofs.Ytoilbeffheijeaa.P
open Go.RowKit Go.Proofs.YtoilbeffheijeaaW.PrintWords Go.Proofs.YtoilbeffheijeaaW.PrintLast Go.Proofs.YtoilbeffheijeaaW.PrintMore L
set_option linter.unusedVariables false
set_option linter.unusedSimpArgs false
theorem belowN_lt1k (l : List Int) {m : Nat} (hm : m ≤ 10) (i : Nat) : belowN l m i < 1024 := relRow_lt10 _ hm
/-- the different numbers of a list of naturals, in order. -/
def dN (xs : List Nat) : List Nat := (Diff.diffL (L.cast xs)).map Int.toNat
theorem dN_cast (xs : List Nat) : L.cast (dN xs) = Diff.diffL (L.cast xs) := by
  unfold dN L.cast
  rw [List.map_map]
  have : ∀ x ∈ Diff.diffL (xs.map fun (x : Nat) => (x : Int)), ((fun (x : Nat) => (x : Int)) ∘ Int.toNat) x = id x := by
    intro x hx
    obtain ⟨y, _, rfl⟩ := List.mem_map.1 (((Diff.diffL_props _).2 x).1 hx)
    simp
  rw [List.map_congr_left this, List.map_id]
theorem mem_cast {xs : List Nat} {x : Nat} : (x : Int) ∈ L.cast xs ↔ x ∈ xs := by
  unfold L.cast
  rw [List.mem_map]
  constructor
  · rintro ⟨y, hy, e⟩
    have : y = x := by omega
    rwa [← this]
  · intro h; exact ⟨x, h, rfl⟩
theorem mem_dN {xs : List Nat} {x : Nat} : x ∈ dN xs ↔ x ∈ xs := by
  rw [← mem_cast, dN_cast, (Diff.diffL_props _).2, mem_cast]
theorem dN_asc (xs : List Nat) : (dN xs).Pairwise (· < ·) := by
  have := (Diff.diffL_props (L.cast xs)).1
  rw [← dN_cast] at this
  unfold L.cast at this
  rw [List.pairwise_map] at this
  exact this.imp fun h => by omega
theorem dN_nodup (xs : List Nat) : (dN xs).Nodup := (dN_asc xs).imp fun h => by omega
theorem dN_length (xs : List Nat) : (dN xs).length ≤ xs.length := by
  have := Diff.diffL_length_le (L.cast xs)
  rw [← dN_cast, L.cast_length, L.cast_length] at this
  exact this
def lowL (l : List Int) (m i : Nat) : List Nat := (List.range i).map (belowN l m)
theorem lowL_length (l : List Int) (m i : Nat) : (lowL l m i).length = i := by simp [lowL]
theorem lowL_succ (l : List Int) (m i : Nat) : lowL l m (i + 1) = lowL l m i ++ [belowN l m i] := by simp [lowL, List.range_succ]
def setsN (l : List Int) (m : Nat) : List Nat := dN (lowL l m m)
theorem setsN_length (l : List Int) (m : Nat) : (setsN l m).length ≤ m := by
  have := dN_length (lowL l m m)
  rw [lowL_length] at this; exact this
theorem setsN_lt (l : List Int) {m : Nat} (hm : m ≤ 10) : ∀ x ∈ setsN l m, x < 1024 := by
  intro x hx
  obtain ⟨i, _, rfl⟩ := List.mem_map.1 (mem_dN.1 hx)
  exact belowN_lt1k l hm i
def levN (l : List Int) (m i : Nat) : Nat := Lev.level (setsN l m) (belowN l m i)
theorem levN_le (l : List Int) (m i : Nat) : levN l m i ≤ m := Nat.le_trans (List.length_filter_le _ _) (setsN_length l m)
def levL (l : List Int) (m i : Nat) : List Int := L.cast ((List.range i).map (levN l m))
theorem levL_length (l : List Int) (m i : Nat) : (levL l m i).length = i := by simp [levL, L.cast_length]
theorem levL_succ (l : List Int) (m i : Nat) : levL l m i ++ [((levN l m i : Nat) : Int)] = levL l m (i + 1) := by simp [levL, L.cast, List.range_succ]
theorem rd_levL (l : List Int) {m i n : Nat} (h : i < n) : rd (levL l m n) (i : Int) = ((levN l m i : Nat) : Int) := by
  unfold levL; rw [L.rd_cast]; simp [List.getD_eq_getElem?_getD, h]
def levP (s t : Nat) : Bool := decide (t ≠ s) && Lev.sub t s
theorem levP_count (s : Nat) (D : List Nat) (j : Nat) (hj : j < D.length) : ((D.take (j + 1)).filter (levP s)).length = ((D.take j).filter (levP s)).length + if levP s D[j] then 1 else 0 := by
  have e : D.take (j + 1) = D.take j ++ [D[j]] := by rw [List.take_add_one, List.getElem?_eq_getElem hj]; rfl
  rw [e, List.filter_append, List.length_append, List.filter_cons, List.filter_nil]
  cases levP s D[j] <;> rfl
theorem levN_eq (l : List Int) (m i : Nat) : levN l m i = ((setsN l m).filter (levP (belowN l m i))).length := rfl
theorem levels_ev {m : Nat} {l : List Int} (h : isRel (m : Int) l = true) : Ev (fun k => impl_Order_levels.f k (m : Int) l) (levL l m m) := by
  obtain ⟨h1, h2⟩ := rel_len h
  have hsl := setsN_length l m
  have k1 : ∀ i, i < m → ∀ R, Ev (fun k => impl_Order_levels.l0 k (levL l m (i + 1)) (L.cast (setsN l m)) (L.cast (lowL l m m)) ((L.cast (lowL l m m)).length : Int) ((i + 1 : Nat) : Int)) R →
      ∀ j, j ≤ (setsN l m).length → Ev (fun k => impl_Order_levels.l1 k (levL l m i) (L.cast (setsN l m)) ((belowN l m i : Nat) : Int) ((((setsN l m).take j).filter (levP (belowN l m i))).length : Int) (L.cast (lowL l m m)) ((L.cast (lowL l m m)).length : Int) (i : Int) (L.cast (setsN l m)) ((L.cast (setsN l m)).length : Int) (j : Int)) R := by
    intro i hi R hk
    refine L.down ?_ fun j hj ih => ?_
    · refine L.Ev.succ ?_
      simp only [impl_Order_levels.l1]
      refine L.Ev.ifn (by rw [L.cast_length]; omega) (L.Ev.ifp (by rw [levL_length]; omega) ?_)
      rw [List.take_of_length_le (Nat.le_refl _), ← levN_eq, levL_succ, L.w64n (by omega)]
      exact hk
    · have e : rd (L.cast (setsN l m)) (j : Int) = (((setsN l m)[j] : Nat) : Int) := by
        rw [L.rd_cast, List.getD_eq_getElem?_getD, List.getElem?_eq_getElem hj]; rfl
      have b1 := setsN_lt l h2 _ (List.getElem_mem hj)
      have b2 := belowN_lt1k l h2 i
      have hc := levP_count (belowN l m i) (setsN l m) j hj
      have hcl : (((setsN l m).take j).filter (levP (belowN l m i))).length ≤ j := Nat.le_trans (List.length_filter_le _ _) (by simp; omega)
      refine L.Ev.succ ?_
      simp only [impl_Order_levels.l1]
      rw [e]
      refine L.Ev.ifp (by rw [L.cast_length]; omega) (L.Ev.ifp (by omega) (L.Ev.ifp (by rw [L.cast_length]; omega) ?_))
      rw [L.w64n (n := j) (by omega)]
      by_cases g : (setsN l m)[j] = belowN l m i
      · have gp : levP (belowN l m i) (setsN l m)[j] = false := by unfold levP; simp [g]
        rw [gp, if_neg (by simp), Nat.add_zero] at hc
        rw [hc] at ih
        exact L.Ev.ifp (by omega) ih
      · refine L.Ev.ifn (by omega) ?_
        rw [L.andNot_nat (by omega) (by omega)]
        by_cases g2 : L.diff (setsN l m)[j] (belowN l m i) = 0
        · have gp : levP (belowN l m i) (setsN l m)[j] = true := by unfold levP Lev.sub; unfold L.diff at g2; rw [g2]; simp [g]
          rw [gp, if_pos rfl] at hc
          rw [hc] at ih
          rw [L.w64n (n := (((setsN l m).take j).filter (levP (belowN l m i))).length) (by omega)]
          exact L.Ev.ifp (by omega) ih
        · have gp : levP (belowN l m i) (setsN l m)[j] = false := by
            unfold levP Lev.sub; unfold L.diff at g2
            rw [Bool.and_eq_false_iff]; right; simpa using g2
          rw [gp, if_neg (by simp), Nat.add_zero] at hc
          rw [hc] at ih
          exact L.Ev.ifn (by omega) ih
  have k0 : ∀ i, i ≤ m → Ev (fun k => impl_Order_levels.l0 k (levL l m i) (L.cast (setsN l m)) (L.cast (lowL l m m)) ((L.cast (lowL l m m)).length : Int) (i : Int)) (levL l m m) := by
    refine L.down ?_ fun i hi ih => ?_
    · refine L.Ev.succ ?_
      simp only [impl_Order_levels.l0]
      exact L.Ev.ifn (by rw [L.cast_length, lowL_length]; omega) (Ev.now _)
    · have e : rd (L.cast (lowL l m m)) (i : Int) = ((belowN l m i : Nat) : Int) := by
        rw [L.rd_cast]; simp [lowL, List.getD_eq_getElem?_getD, hi]
      refine L.Ev.succ ?_
      simp only [impl_Order_levels.l0]
      rw [e]
      refine L.Ev.ifp (by rw [L.cast_length, lowL_length]; omega) (L.Ev.ifp (by omega) (L.Ev.ifp (by rw [L.cast_length, lowL_length]; omega) ?_))
      have := k1 i hi _ ih 0 (by omega)
      exact this
  unfold impl_Order_levels.f
  refine L.Ev.bindc (mirror_eq h) ?_
  have e1 : (L.relL m fun i j => L.bitAt l j i) = L.cast (lowL l m m) := rfl
  have e2 : impl_different.f (L.cast (lowL l m m)) = some (L.cast (setsN l m)) := by
    unfold impl_different.f
    rw [if_pos (by rw [L.cast_length, lowL_length]; omega), ← dN_cast]; rfl
  dsimp only
  rw [e1]
  exact L.Ev.bindc e2 (k0 0 (by omega))
/-! ### the reference -/
theorem l1Put_ev (A : List Int) (x : Int) (hA : A.Pairwise (· < ·)) (hl : A.length ≤ 1048576) : ∃ B, Ev (fun k => spec_l1Put.f k A x) B ∧ B.Pairwise (· < ·) ∧ ∀ y, y ∈ B ↔ y ∈ A ∨ y = x := by
  have hp : A.findIdx (fun y => decide (x ≤ y)) ≤ A.length := List.findIdx_le_length
  have hlt : ∀ j, j < A.findIdx (fun y => decide (x ≤ y)) → ∀ hj : j < A.length, A[j] < x := by
    intro j hj hj2
    have := List.not_of_lt_findIdx hj
    simp at this; exact this
  have hge : ∀ hj : A.findIdx (fun y => decide (x ≤ y)) < A.length, x ≤ A[A.findIdx (fun y => decide (x ≤ y))] := by
    intro hj
    have := List.findIdx_getElem (w := hj)
    exact of_decide_eq_true this
  generalize A.findIdx (fun y => decide (x ≤ y)) = p at hp hlt hge
  have step : ∀ B, Ev (fun k => spec_l1Put.l0 k A x (p : Int)) B → Ev (fun k => spec_l1Put.f k A x) B := by
    intro B hB
    have key : ∀ j, j ≤ p → Ev (fun k => spec_l1Put.l0 k A x (j : Int)) B := by
      refine L.down hB fun j hj ih => ?_
      refine L.Ev.succ ?_
      simp only [spec_l1Put.l0]
      have := hlt j hj (by omega)
      refine L.Ev.ifp (by omega) (L.Ev.ifp (by omega) (L.Ev.ifp (by rw [L.rd_get (show j < A.length by omega)]; exact this) ?_))
      rw [L.w64n (by omega)]; exact ih
    exact key 0 (by omega)
  have ins : (A.take p ++ [x] ++ A.drop p).Pairwise (· < ·) ↔ (∀ hj : p < A.length, x < A[p]) := by
    constructor
    · intro h hj
      rw [List.append_assoc, List.pairwise_append] at h
      have h2 := h.2.1
      rw [List.singleton_append, List.pairwise_cons] at h2
      exact h2.1 _ (by rw [List.drop_eq_getElem_cons hj]; exact List.mem_cons_self ..)
    · intro h
      rw [List.append_assoc, List.pairwise_append, List.singleton_append, List.pairwise_cons]
      have hd : ∀ y ∈ A.drop p, x < y := by
        intro y hy
        by_cases hj : p < A.length
        · rw [List.drop_eq_getElem_cons hj] at hy
          have hA2 := hA.sublist (List.drop_sublist p A)
          rw [List.drop_eq_getElem_cons hj, List.pairwise_cons] at hA2
          rcases List.mem_cons.1 hy with rfl | hy
          · exact h hj
          · have := hA2.1 y hy; have := h hj; omega
        · rw [List.drop_eq_nil_of_le (by omega)] at hy; cases hy
      have ht : ∀ y ∈ A.take p, y < x := by
        intro y hy
        obtain ⟨j, hj, rfl⟩ := List.mem_iff_getElem.1 hy
        rw [List.getElem_take]
        rw [List.length_take] at hj
        exact hlt j (by omega) (by omega)
      refine ⟨hA.sublist (List.take_sublist p A), ⟨hd, hA.sublist (List.drop_sublist p A)⟩, fun a ha b hb => ?_⟩
      have := ht a ha
      rcases List.mem_cons.1 hb with rfl | hb
      · exact this
      · have := hd b hb; omega
  have mem : ∀ y, y ∈ (A.take p ++ [x] ++ A.drop p) ↔ y ∈ A ∨ y = x := by
    intro y
    have e : y ∈ A ↔ y ∈ A.take p ∨ y ∈ A.drop p := by rw [← List.mem_append, List.take_append_drop]
    rw [List.mem_append, List.mem_append, List.mem_singleton, e]
    constructor
    · rintro ((a | a) | a)
      · exact .inl (.inl a)
      · exact .inr a
      · exact .inl (.inr a)
    · rintro ((a | a) | a)
      · exact .inl (.inl a)
      · exact .inr a
      · exact .inl (.inr a)
  have htl : (A.take p).length = p := by rw [List.length_take]; omega
  have hdl : (A.drop p).length = A.length - p := List.length_drop
  by_cases hj : p < A.length
  · have h1 := hge hj
    by_cases he : A[p] = x
    · refine ⟨A, step A ?_, hA, fun y => ⟨fun h => .inl h, fun h => h.elim id fun e => by rw [e, ← he]; exact List.getElem_mem hj⟩⟩
      refine L.Ev.succ ?_
      simp only [spec_l1Put.l0]
      rw [L.rd_get hj]
      exact L.Ev.ifp (by omega) (L.Ev.ifp (by omega) (L.Ev.ifn (by omega) (L.Ev.ifp he (Ev.now _))))
    · refine ⟨A.take p ++ [x] ++ A.drop p, step _ ?_, ins.2 fun _ => by omega, mem⟩
      refine L.Ev.succ ?_
      simp only [spec_l1Put.l0]
      rw [L.rd_get hj]
      refine L.Ev.ifp (by omega) (L.Ev.ifp (by omega) (L.Ev.ifn (by omega) (L.Ev.ifn he (L.Ev.bindc rfl (L.Ev.ifp (by omega) (L.Ev.bindc rfl (L.Ev.ifp ?_ (L.Ev.bindc rfl (L.Ev.ifp ?_ (L.Ev.bindc rfl (L.Ev.bindc rfl (L.Ev.ifp ?_ ?_)))))))))))) <;>
      · simp only [Int.toNat_natCast, List.length_append, List.length_nil, htl, hdl, List.length_cons]
        first | omega | exact Ev.now _
  · obtain rfl : p = A.length := by omega
    refine ⟨A.take A.length ++ [x] ++ A.drop A.length, step _ ?_, ins.2 fun h => absurd h hj, mem⟩
    refine L.Ev.succ ?_
    simp only [spec_l1Put.l0]
    refine L.Ev.ifn (by omega) (L.Ev.bindc rfl (L.Ev.ifp (by omega) (L.Ev.ifp (by omega) (L.Ev.bindc rfl (L.Ev.ifp ?_ (L.Ev.bindc rfl (L.Ev.ifp ?_ (L.Ev.bindc rfl (L.Ev.bindc rfl (L.Ev.ifp ?_ ?_)))))))))) <;>
    · simp only [Int.toNat_natCast, List.length_append, List.length_nil, htl, hdl, List.length_cons]
      first | omega | exact Ev.now _
theorem put_diff (xs : List Int) (x : Int) (hl : xs.length ≤ 1048576) : Ev (fun k => spec_l1Put.f k (Diff.diffL xs) x) (Diff.diffL (xs ++ [x])) := by
  obtain ⟨h1, h2⟩ := Diff.diffL_props xs
  obtain ⟨h3, h4⟩ := Diff.diffL_props (xs ++ [x])
  obtain ⟨B, hB, b1, b2⟩ := l1Put_ev (Diff.diffL xs) x h1 (Nat.le_trans (Diff.diffL_length_le xs) hl)
  have : B = Diff.diffL (xs ++ [x]) := Diff.asc_ext _ _ b1 h3 fun y => by rw [b2, h2, h4, List.mem_append, List.mem_singleton]
  rw [← this]; exact hB
theorem ivLevels_ev {m : Nat} {l : List Int} (h : isRel (m : Int) l = true) : Ev (fun k => spec_ivLevels.f k (m : Int) l) (levL l m m) := by
  obtain ⟨h1, h2⟩ := rel_len h
  have hsl := setsN_length l m
  have k2 : ∀ i, i < m → ∀ R, Ev (fun k => spec_ivLevels.l1 k (L.cast (setsN l m)) (levL l m (i + 1)) (l.length : Int) ((i + 1 : Nat) : Int) (m : Int) l) R →
      ∀ j, j ≤ (setsN l m).length → Ev (fun k => spec_ivLevels.l2 k (L.cast (setsN l m)) (levL l m i) (i : Int) ((((setsN l m).take j).filter (levP (belowN l m i))).length : Int) (l.length : Int) (i : Int) (L.cast (setsN l m)) ((L.cast (setsN l m)).length : Int) (j : Int) (m : Int) l) R := by
    intro i hi R hk
    refine L.down ?_ fun j hj ih => ?_
    · refine L.Ev.succ ?_
      simp only [spec_ivLevels.l2]
      refine L.Ev.ifn (by rw [L.cast_length]; omega) (L.Ev.ifp (by rw [levL_length]; omega) ?_)
      rw [List.take_of_length_le (Nat.le_refl _), ← levN_eq, levL_succ, L.w64n (by omega)]
      exact hk
    · have e : rd (L.cast (setsN l m)) (j : Int) = (((setsN l m)[j] : Nat) : Int) := by
        rw [L.rd_cast, List.getD_eq_getElem?_getD, List.getElem?_eq_getElem hj]; rfl
      have b1 := setsN_lt l h2 _ (List.getElem_mem hj)
      have b2 := belowN_lt1k l h2 i
      have hc := levP_count (belowN l m i) (setsN l m) j hj
      have hcl : (((setsN l m).take j).filter (levP (belowN l m i))).length ≤ j := Nat.le_trans (List.length_filter_le _ _) (by simp; omega)
      refine L.Ev.succ ?_
      simp only [spec_ivLevels.l2]
      rw [e]
      refine L.Ev.ifp (by rw [L.cast_length]; omega) (L.Ev.ifp (by omega) (L.Ev.ifp (by rw [L.cast_length]; omega) (Ev.bind (orBelow_ev h i (by omega)) ?_)))
      rw [L.w64n (n := j) (by omega)]
      by_cases g : (setsN l m)[j] = belowN l m i
      · have gp : levP (belowN l m i) (setsN l m)[j] = false := by unfold levP; simp [g]
        rw [gp, if_neg (by simp), Nat.add_zero] at hc
        rw [hc] at ih
        exact L.Ev.ifp (by omega) ih
      · refine L.Ev.ifn (by omega) (Ev.bind (orBelow_ev h i (by omega)) ?_)
        rw [L.andNot_nat (by omega) (by omega)]
        by_cases g2 : L.diff (setsN l m)[j] (belowN l m i) = 0
        · have gp : levP (belowN l m i) (setsN l m)[j] = true := by unfold levP Lev.sub; unfold L.diff at g2; rw [g2]; simp [g]
          rw [gp, if_pos rfl] at hc
          rw [hc] at ih
          rw [L.w64n (n := (((setsN l m).take j).filter (levP (belowN l m i))).length) (by omega)]
          exact L.Ev.ifp (by omega) ih
        · have gp : levP (belowN l m i) (setsN l m)[j] = false := by
            unfold levP Lev.sub; unfold L.diff at g2
            rw [Bool.and_eq_false_iff]; right; simpa using g2
          rw [gp, if_neg (by simp), Nat.add_zero] at hc
          rw [hc] at ih
          exact L.Ev.ifn (by omega) ih
  have k1 : ∀ i, i ≤ m → Ev (fun k => spec_ivLevels.l1 k (L.cast (setsN l m)) (levL l m i) (l.length : Int) (i : Int) (m : Int) l) (levL l m m) := by
    refine L.down ?_ fun i hi ih => ?_
    · refine L.Ev.succ ?_
      simp only [spec_ivLevels.l1]
      exact L.Ev.ifn (by omega) (Ev.now _)
    · refine L.Ev.succ ?_
      simp only [spec_ivLevels.l1]
      exact L.Ev.ifp (by omega) (k2 i hi _ ih 0 (by omega))
  have k0 : ∀ i, i ≤ m → Ev (fun k => spec_ivLevels.l0 k (Diff.diffL (L.cast (lowL l m i))) (l.length : Int) (i : Int) (m : Int) l) (levL l m m) := by
    refine L.down ?_ fun i hi ih => ?_
    · refine L.Ev.succ ?_
      simp only [spec_ivLevels.l0]
      rw [← dN_cast]
      exact L.Ev.ifn (by omega) (k1 0 (by omega))
    · refine L.Ev.succ ?_
      simp only [spec_ivLevels.l0]
      refine L.Ev.ifp (by omega) (Ev.bind (orBelow_ev h i (by omega)) (Ev.bind (put_diff _ _ (by rw [L.cast_length, lowL_length]; omega)) ?_))
      have e : L.cast (lowL l m i) ++ [((belowN l m i : Nat) : Int)] = L.cast (lowL l m (i + 1)) := by rw [lowL_succ, L.cast_append]; rfl
      rw [e, L.w64n (by omega)]
      exact ih
  have e0 : Diff.diffL (L.cast (lowL l m 0)) = [] := by
    have := Diff.diffL_length_le (L.cast (lowL l m 0))
    exact List.eq_nil_of_length_eq_zero (by simp [lowL, L.cast] at this ⊢; omega)
  have := k0 0 (by omega)
  rw [e0] at this
  exact this
end Go.Proofs.Ytoilbeffheijeaa.P

/-! ### PuEnds0 -/
/- Plain laws: the ends of all elements, in the program and in the reference. -/
namespace Go.Proofs.Ytoilbeffheijeaa.P
open Go.RowKit Go.Proofs.YtoilbeffheijeaaW.PrintWords Go.Proofs.YtoilbeffheijeaaW.PrintLast Go.Proofs.YtoilbeffheijeaaW.PrintMore L
set_option linter.unusedVariables false
set_option linter.unusedSimpArgs false
theorem l1Most_eq (a b : Int) : spec_l1Most.f a b = some (max a b) := by
  unfold spec_l1Most.f
  by_cases h : a > b
  · rw [if_pos h, Int.max_eq_left (by omega)]
  · rw [if_neg h, Int.max_eq_right (by omega)]
theorem mx_eq (a b : Int) : mx a b = max a b := by
  unfold mx
  by_cases h : a < b
  · rw [if_pos h, Int.max_eq_right (by omega)]
  · rw [if_neg h, Int.max_eq_left (by omega)]
/-- the right end, when j elements have been looked at. -/
def rgt (l : List Int) (m i : Nat) : Nat → Int
  | 0 => ((levN l m i : Nat) : Int)
  | j + 1 => if L.bitAt l i j then rgt l m i j else max (rgt l m i j) ((levN l m j : Nat) : Int)
def endAt (l : List Int) (m i : Nat) : Iv := ⟨((levN l m i : Nat) : Int), rgt l m i m⟩
def endsL (l : List Int) (m i : Nat) : List Iv := (List.range i).map (endAt l m)
theorem endsL_length (l : List Int) (m i : Nat) : (endsL l m i).length = i := by simp [endsL]
theorem endsL_succ (l : List Int) (m i : Nat) : endsL l m i ++ [endAt l m i] = endsL l m (i + 1) := by simp [endsL, List.range_succ]
theorem rd_endsL (l : List Int) {m i n : Nat} (h : i < n) : rd_T37 (endsL l m n) (i : Int) = endAt l m i := by
  rw [rdIv_get (by rw [endsL_length]; exact h)]
  simp [endsL]
theorem ends_ev {m : Nat} {l : List Int} (h : isRel (m : Int) l = true) : Ev (fun k => impl_Order_ends.f k (m : Int) l) (endsL l m m) := by
  obtain ⟨h1, h2⟩ := rel_len h
  have ok := isRel_ok h
  have k1 : ∀ i, i < m → ∀ R, Ev (fun k => impl_Order_ends.l0 k (endsL l m (i + 1)) (levL l m m) (levL l m m) ((levL l m m).length : Int) ((i + 1 : Nat) : Int) (m : Int) l) R →
      ∀ j, j ≤ m → Ev (fun k => impl_Order_ends.l1 k (endsL l m i) (levL l m m) (i : Int) ((levN l m i : Nat) : Int) (rgt l m i j) (levL l m m) ((levL l m m).length : Int) (i : Int) (levL l m m) ((levL l m m).length : Int) (j : Int) (m : Int) l) R := by
    intro i hi R hk
    refine L.down ?_ fun j hj ih => ?_
    · refine L.Ev.succ ?_
      simp only [impl_Order_ends.l1]
      refine L.Ev.ifn (by rw [levL_length]; omega) (L.Ev.ifp (by rw [endsL_length]; omega) ?_)
      have e : endsL l m i ++ [(⟨((levN l m i : Nat) : Int), rgt l m i m⟩ : Iv)] = endsL l m (i + 1) := endsL_succ l m i
      rw [e, L.w64n (by omega)]
      exact hk
    · refine L.Ev.succ ?_
      simp only [impl_Order_ends.l1]
      refine L.Ev.ifp (by rw [levL_length]; omega) (L.Ev.ifp (by omega) (L.Ev.ifp (by rw [levL_length]; omega) (L.Ev.bindc (impl_Order_better.tells ok i j (by omega) (by omega)) ?_)))
      rw [rd_levL l hj, L.w64n (n := j) (by omega), mx_eq]
      unfold rgt at ih
      cases hb : L.bitAt l i j with
      | true => rw [hb, if_pos rfl] at ih; exact L.Ev.ifp rfl ih
      | false => rw [hb, if_neg (by simp)] at ih; exact L.Ev.ifn (by simp) ih
  have k0 : ∀ i, i ≤ m → Ev (fun k => impl_Order_ends.l0 k (endsL l m i) (levL l m m) (levL l m m) ((levL l m m).length : Int) (i : Int) (m : Int) l) (endsL l m m) := by
    refine L.down ?_ fun i hi ih => ?_
    · refine L.Ev.succ ?_
      simp only [impl_Order_ends.l0]
      exact L.Ev.ifn (by rw [levL_length]; omega) (Ev.now _)
    · refine L.Ev.succ ?_
      simp only [impl_Order_ends.l0]
      rw [rd_levL l hi]
      exact L.Ev.ifp (by rw [levL_length]; omega) (L.Ev.ifp (by omega) (L.Ev.ifp (by rw [levL_length]; omega) (k1 i hi _ ih 0 (by omega))))
  unfold impl_Order_ends.f
  exact Ev.bind (levels_ev h) (k0 0 (by omega))
theorem ivEnds_ev {m : Nat} {l : List Int} (h : isRel (m : Int) l = true) : Ev (fun k => spec_ivEnds.f k (m : Int) l) (endsL l m m) := by
  obtain ⟨h1, h2⟩ := rel_len h
  have ok := isRel_ok h
  have k1 : ∀ i, i < m → ∀ R, Ev (fun k => spec_ivEnds.l0 k (levL l m m) (endsL l m (i + 1)) (levL l m m) ((levL l m m).length : Int) ((i + 1 : Nat) : Int) (m : Int) l) R →
      ∀ j, j ≤ m → Ev (fun k => spec_ivEnds.l1 k (levL l m m) (endsL l m i) (i : Int) (levL l m m) ((levL l m m).length : Int) (i : Int) (levL l m m) ((levL l m m).length : Int) (j : Int) (m : Int) l ((levN l m i : Nat) : Int) (rgt l m i j)) R := by
    intro i hi R hk
    refine L.down ?_ fun j hj ih => ?_
    · refine L.Ev.succ ?_
      simp only [spec_ivEnds.l1]
      refine L.Ev.ifn (by rw [levL_length]; omega) (L.Ev.ifp (by rw [endsL_length]; omega) ?_)
      have e : endsL l m i ++ [(⟨((levN l m i : Nat) : Int), rgt l m i m⟩ : Iv)] = endsL l m (i + 1) := endsL_succ l m i
      rw [e, L.w64n (by omega)]
      exact hk
    · refine L.Ev.succ ?_
      simp only [spec_ivEnds.l1]
      refine L.Ev.ifp (by rw [levL_length]; omega) (L.Ev.ifp (by omega) (L.Ev.ifp (by rw [levL_length]; omega) (L.Ev.ifp (by omega) (L.Ev.ifp (by omega) (L.Ev.bindc (orHas_eq ok i j (by omega)) ?_)))))
      rw [rd_levL l hj, L.w64n (n := j) (by omega)]
      unfold rgt at ih
      cases hb : L.bitAt l i j with
      | true => rw [hb, if_pos rfl] at ih; exact L.Ev.ifp rfl ih
      | false => rw [hb, if_neg (by simp)] at ih; exact L.Ev.ifn (by simp) (L.Ev.bindc (l1Most_eq _ _) ih)
  have k0 : ∀ i, i ≤ m → Ev (fun k => spec_ivEnds.l0 k (levL l m m) (endsL l m i) (levL l m m) ((levL l m m).length : Int) (i : Int) (m : Int) l) (endsL l m m) := by
    refine L.down ?_ fun i hi ih => ?_
    · refine L.Ev.succ ?_
      simp only [spec_ivEnds.l0]
      exact L.Ev.ifn (by rw [levL_length]; omega) (Ev.now _)
    · refine L.Ev.succ ?_
      simp only [spec_ivEnds.l0]
      rw [rd_levL l hi]
      exact L.Ev.ifp (by rw [levL_length]; omega) (L.Ev.ifp (by omega) (L.Ev.ifp (by rw [levL_length]; omega) (k1 i hi _ ih 0 (by omega))))
  unfold spec_ivEnds.f
  exact Ev.bind (ivLevels_ev h) (k0 0 (by omega))
end Go.Proofs.Ytoilbeffheijeaa.P

/-! ### PuWithin -/
/- Plain laws: numbers between two numbers, in the program and in the reference. -/
namespace Go.Proofs.Ytoilbeffheijeaa.P
open Go.RowKit Go.Proofs.YtoilbeffheijeaaW.PrintWords Go.Proofs.YtoilbeffheijeaaW.PrintLast Go.Proofs.YtoilbeffheijeaaW.PrintMore L
set_option linter.unusedVariables false
set_option linter.unusedSimpArgs false
theorem within_eq (a b c : Int) : impl_within.f a b c = some (decide (b ≤ a ∧ a ≤ c)) := by
  unfold impl_within.f
  by_cases h : a ≥ b
  · rw [if_pos h]; congr 1; simp; omega
  · rw [if_neg h]; congr 1; simp; omega
theorem l1In_eq (a b c : Int) : spec_l1In.f a b c = some (decide (b ≤ a ∧ a ≤ c)) := within_eq a b c
end Go.Proofs.Ytoilbeffheijeaa.P

/-! ### PuIvIs -/
/- Plain laws: which rows are intervals, for the program and the reference alike. -/
namespace Go.Proofs.Ytoilbeffheijeaa.P
open Go.RowKit Go.Proofs.YtoilbeffheijeaaW.PrintWords Go.Proofs.YtoilbeffheijeaaW.PrintLast Go.Proofs.YtoilbeffheijeaaW.PrintMore L
set_option linter.unusedVariables false
set_option linter.unusedSimpArgs false
def okIv1 (x : Iv) : Bool := decide (-1000 ≤ x.f0 ∧ x.f0 ≤ x.f1 ∧ x.f1 ≤ 1000)
def okIv (l : List Iv) : Bool := l.all okIv1 && decide (l.length ≤ 10)
theorem okIv_iff (l : List Iv) : okIv l = true ↔ (∀ x ∈ l, -1000 ≤ x.f0 ∧ x.f0 ≤ x.f1 ∧ x.f1 ≤ 1000) ∧ l.length ≤ 10 := by
  simp [okIv, okIv1]
theorem okIv_step (l : List Iv) (i : Nat) (hi : i < l.length) : (l.drop i).all okIv1 = (okIv1 l[i] && (l.drop (i + 1)).all okIv1) := by
  rw [List.drop_eq_getElem_cons hi, List.all_cons]
theorem AreIntervals_ev (l : List Iv) (hl : l.length ≤ 1048576) : Ev (fun k => impl_AreIntervals.f k l) (okIv l) := by
  have key : ∀ i, i ≤ l.length → Ev (fun k => impl_AreIntervals.l0 k l l (l.length : Int) (i : Int)) ((l.drop i).all okIv1 && decide (l.length ≤ 10)) := by
    refine L.down ?_ fun i hi ih => ?_
    · refine L.Ev.succ ?_
      simp only [impl_AreIntervals.l0]
      refine L.Ev.ifn (by omega) ?_
      rw [List.drop_eq_nil_of_le (Nat.le_refl _)]
      have e : decide ((l.length : Int) ≤ 10) = decide (l.length ≤ 10) := by simp only [decide_eq_decide]; omega
      rw [e]; exact Ev.now _
    · refine L.Ev.succ ?_
      simp only [impl_AreIntervals.l0]
      rw [okIv_step l i hi, rdIv_get hi]
      refine L.Ev.ifp (by omega) (L.Ev.ifp (by omega) (L.Ev.ifp (by omega) (L.Ev.bindc (within_eq _ _ _) ?_)))
      by_cases h : -1000 ≤ (l[i]).f0 ∧ (l[i]).f0 ≤ 1000
      · refine L.Ev.ifp (by simpa using h) (L.Ev.bindc (within_eq _ _ _) ?_)
        by_cases h2 : (l[i]).f0 ≤ (l[i]).f1 ∧ (l[i]).f1 ≤ 1000
        · refine L.Ev.ifp (by simpa using h2) ?_
          have e : okIv1 l[i] = true := by unfold okIv1; simp; omega
          rw [e, Bool.true_and]
          exact Ev.congr (fun k => by rw [L.w64n (by omega)]) ih
        · refine L.Ev.ifn (by simpa using h2) ?_
          have e : okIv1 l[i] = false := by unfold okIv1; simp; omega
          rw [e]; exact Ev.now _
      · refine L.Ev.ifn (by simpa using h) ?_
        have e : okIv1 l[i] = false := by unfold okIv1; simp; omega
        rw [e]; exact Ev.now _
  exact key 0 (by omega)
theorem ivGood_ev (l : List Iv) (hl : l.length ≤ 1048576) : Ev (fun k => spec_ivGood.f k l) (okIv l) := by
  have key : ∀ i, i ≤ l.length → Ev (fun k => spec_ivGood.l0 k l l (l.length : Int) (i : Int)) ((l.drop i).all okIv1 && decide (l.length ≤ 10)) := by
    refine L.down ?_ fun i hi ih => ?_
    · refine L.Ev.succ ?_
      simp only [spec_ivGood.l0]
      refine L.Ev.ifn (by omega) ?_
      rw [List.drop_eq_nil_of_le (Nat.le_refl _)]
      have e : decide ((l.length : Int) ≤ 10) = decide (l.length ≤ 10) := by simp only [decide_eq_decide]; omega
      rw [e]; exact Ev.now _
    · refine L.Ev.succ ?_
      simp only [spec_ivGood.l0]
      rw [okIv_step l i hi, rdIv_get hi]
      refine L.Ev.ifp (by omega) (L.Ev.ifp (by omega) (L.Ev.ifp (by omega) (L.Ev.bindc (l1In_eq _ _ _) ?_)))
      by_cases h : -1000 ≤ (l[i]).f0 ∧ (l[i]).f0 ≤ (l[i]).f1
      · refine L.Ev.ifp (by simpa using h) ?_
        by_cases h2 : (l[i]).f1 ≤ 1000
        · refine L.Ev.ifn (by omega) ?_
          have e : okIv1 l[i] = true := by unfold okIv1; simp; omega
          rw [e, Bool.true_and]
          exact Ev.congr (fun k => by rw [L.w64n (by omega)]) ih
        · refine L.Ev.ifp (by omega) ?_
          have e : okIv1 l[i] = false := by unfold okIv1; simp; omega
          rw [e]; exact Ev.now _
      · refine L.Ev.ifn (by simpa using h) ?_
        have e : okIv1 l[i] = false := by unfold okIv1; simp; omega
        rw [e]; exact Ev.now _
  exact key 0 (by omega)
end Go.Proofs.Ytoilbeffheijeaa.P

/-! ### PuIvOrder -/
/- Plain laws: the order that intervals represent, in the reference and in the program. -/
namespace Go.Proofs.Ytoilbeffheijeaa.P
open Go.RowKit Go.Proofs.YtoilbeffheijeaaW.PrintWords Go.Proofs.YtoilbeffheijeaaW.PrintLast Go.Proofs.YtoilbeffheijeaaW.PrintMore L
set_option linter.unusedVariables false
set_option linter.unusedSimpArgs false
def ivIs (l : List Iv) (i j : Nat) : Bool := decide ((rd_T37 l (i : Int)).f1 < (rd_T37 l (j : Int)).f0)
theorem orderOf_eq (l : List Iv) (hl : l.length ≤ 60) : impl_orderOf.f l = some ((l.length : Int), L.relL l.length (ivIs l)) := by
  unfold impl_orderOf.f; rw [if_pos hl]; rfl
theorem ivOrder_ev (l : List Iv) (hl : l.length ≤ 60) : Ev (fun k => spec_ivOrder.f k l) ((l.length : Int), L.relL l.length (ivIs l)) := by
  have k1 : ∀ i, i < l.length → Ev (fun k => spec_ivOrder.l0 k l l (l.length : Int) ((i + 1 : Nat) : Int) (l.length : Int) (L.relPre l.length (ivIs l) (i + 1))) ((l.length : Int), L.relL l.length (ivIs l)) →
      ∀ j, j ≤ l.length → Ev (fun k => spec_ivOrder.l1 k l ((L.relRow (ivIs l i) j : Nat) : Int) l (l.length : Int) (i : Int) l (l.length : Int) (j : Int) (l.length : Int) (L.relPre l.length (ivIs l) i) (rd_T37 l (i : Int)).f0 (rd_T37 l (i : Int)).f1) ((l.length : Int), L.relL l.length (ivIs l)) := by
    intro i hi hk
    refine L.down ?_ fun j hj ih => ?_
    · refine L.Ev.succ ?_
      simp only [spec_ivOrder.l1]
      refine L.Ev.ifn (by omega) (L.Ev.ifp (by rw [L.relPre_length]; omega) ?_)
      rw [L.relPre_succ, L.w64n (by omega)]
      exact hk
    · refine L.Ev.succ ?_
      simp only [spec_ivOrder.l1]
      refine L.Ev.ifp (by omega) (L.Ev.ifp (by omega) (L.Ev.ifp (by omega) ?_))
      rw [L.w64n (n := j) (by omega)]
      by_cases h : (rd_T37 l (i : Int)).f1 < (rd_T37 l (j : Int)).f0
      · refine L.Ev.ifp h ?_
        rw [L.row_yes (f := ivIs l i) (by unfold ivIs; exact decide_eq_true h) (by omega)]
        exact ih
      · refine L.Ev.ifn h ?_
        rw [L.row_no (f := ivIs l i) (j := j) (by unfold ivIs; exact decide_eq_false h)]
        exact ih
  have k0 : ∀ i, i ≤ l.length → Ev (fun k => spec_ivOrder.l0 k l l (l.length : Int) (i : Int) (l.length : Int) (L.relPre l.length (ivIs l) i)) ((l.length : Int), L.relL l.length (ivIs l)) := by
    refine L.down ?_ fun i hi ih => ?_
    · refine L.Ev.succ ?_
      simp only [spec_ivOrder.l0]
      exact L.Ev.ifn (by omega) (Ev.now _)
    · refine L.Ev.succ ?_
      simp only [spec_ivOrder.l0]
      exact L.Ev.ifp (by omega) (L.Ev.ifp (by omega) (L.Ev.ifp (by omega) (k1 i hi ih 0 (by omega))))
  exact k0 0 (by omega)
end Go.Proofs.Ytoilbeffheijeaa.P

/-! ### BoAreLeastEnds -/
/- What AreLeastEnds comes to, in the program and in the reference. -/
namespace Go.Proofs.Ytoilbeffheijeaa.P
open Go.RowKit Go.Proofs.YtoilbeffheijeaaW.PrintWords Go.Proofs.YtoilbeffheijeaaW.PrintLast Go.Proofs.YtoilbeffheijeaaW.PrintMore L
set_option linter.unusedVariables false
set_option linter.unusedSimpArgs false
theorem isRel_relL0 {m : Nat} (hm : m ≤ 10) (is : Nat → Nat → Bool) : isRel (m : Int) (L.relL m is) = true := by
  refine (isRel_iff _ _).2 ⟨by omega, by omega, by rw [L.relL_length], fun x hx => ?_⟩
  rw [Int.toNat_natCast]
  obtain ⟨i, hi, e⟩ := List.mem_iff_getElem.1 hx
  rw [L.relL_length] at hi
  have e2 := L.rd_relL m is hi
  rw [L.rd_get (by rw [L.relL_length]; exact hi), e] at e2
  have := L.relRow_lt (is i) m
  rw [e2]
  refine ⟨by omega, ?_⟩
  have e3 : (2 : Int) ^ m = ((2 ^ m : Nat) : Int) := by norm_cast
  rw [e3]; omega
instance : DecidableEq Iv := fun a b => decidable_of_iff (a.f0 = b.f0 ∧ a.f1 = b.f1) (by cases a; cases b; simp)
theorem iv_step (x y : Iv) : ((!(x.f0 == y.f0) || (!(x.f1 == y.f1))) = true) ↔ x ≠ y := by
  cases x; cases y
  simp only [Bool.or_eq_true, Bool.not_eq_true', beq_eq_false_iff_ne, ne_eq, S37.mk.injEq]
  omega
theorem iv_eq_drop (a b : List Iv) (i : Nat) (ha : i < a.length) (hb : i < b.length) : (a.drop i = b.drop i) ↔ a[i] = b[i] ∧ a.drop (i + 1) = b.drop (i + 1) := by
  rw [List.drop_eq_getElem_cons ha, List.drop_eq_getElem_cons hb, List.cons.injEq]
theorem equalIv_ev (a b : List Iv) (he : a.length = b.length) (hl : a.length ≤ 1048576) : Ev (fun k => impl_Interval.f k a b) (decide (a = b)) := by
  have key : ∀ i, i ≤ a.length → Ev (fun k => impl_Interval.l0 k a b (a.length : Int) (i : Int)) (decide (a.drop i = b.drop i)) := by
    refine L.down ?_ fun i hi ih => ?_
    · refine L.Ev.succ ?_
      simp only [impl_Interval.l0]
      refine L.Ev.ifn (by omega) ?_
      rw [List.drop_eq_nil_of_le (Nat.le_refl _), List.drop_eq_nil_of_le (by omega)]
      exact Ev.now _
    · refine L.Ev.succ ?_
      simp only [impl_Interval.l0]
      have hb : i < b.length := by omega
      refine L.Ev.ifp (by omega) (L.Ev.ifp (by omega) (L.Ev.ifp (by omega) (L.Ev.ifp (by omega) ?_)))
      rw [rdIv_get hi, rdIv_get hb]
      by_cases h : a[i] = b[i]
      · refine L.Ev.ifn (by rw [iv_step]; exact fun hn => hn h) ?_
        have e : decide (a.drop i = b.drop i) = decide (a.drop (i + 1) = b.drop (i + 1)) := by
          rw [decide_eq_decide, iv_eq_drop a b i hi hb]; exact ⟨fun x => x.2, fun x => ⟨h, x⟩⟩
        rw [e]
        exact Ev.congr (fun k => by rw [L.w64n (by omega)]) ih
      · refine L.Ev.ifp (by rw [iv_step]; exact h) ?_
        have e : decide (a.drop i = b.drop i) = false := by
          rw [decide_eq_false_iff_not, iv_eq_drop a b i hi hb]; exact fun x => h x.1
        rw [e]; exact Ev.now _
  refine Ev.congr (fun k => ?_) (key 0 (by omega))
  unfold impl_Interval.f
  rw [if_pos (by omega)]; rfl
theorem AreLeastEnds_both (v : List Iv) (hv : v.length ≤ 1048576) (wv : ∀ x ∈ v, R.wf x.f0 ∧ R.wf x.f1) :
    ∃ r b : Bool, Ev (fun k => spec_AreLeastEnds.f k v) (r, b) ∧ Ev (fun k => impl_AreLeastEnds.f k v) (r, b) := by
  cases hk : okIv v with
  | false =>
    refine ⟨false, false, ?_, ?_⟩
    · unfold spec_AreLeastEnds.f
      exact Ev.bind (ivGood_ev v hv) (L.Ev.ifn (by simp [hk]) (Ev.now _))
    · unfold impl_AreLeastEnds.f
      exact Ev.bind (AreIntervals_ev v hv) (L.Ev.ifn (by simp [hk]) (Ev.now _))
  | true =>
    obtain ⟨_, hv10⟩ := (okIv_iff v).1 hk
    have hr := isRel_relL0 hv10 (ivIs v)
    have hE : (endsL (L.relL v.length (ivIs v)) v.length v.length).length = v.length := endsL_length _ _ _
    generalize hz : endsL (L.relL v.length (ivIs v)) v.length v.length = z at hE
    refine ⟨decide (z = v), true, ?_, ?_⟩
    · unfold spec_AreLeastEnds.f
      have he := ivEnds_ev hr
      rw [hz] at he
      refine Ev.bind (ivGood_ev v hv) (L.Ev.ifp (by simp [hk]) (Ev.bind (ivOrder_ev v (by omega)) (Ev.bind he ?_)))
      have key : ∀ i, i ≤ z.length → Ev (fun k => spec_AreLeastEnds.l0 k v z (z.length : Int) (i : Int)) (decide (z.drop i = v.drop i), true) := by
        refine L.down ?_ fun i hi ih => ?_
        · refine L.Ev.succ ?_
          simp only [spec_AreLeastEnds.l0]
          refine L.Ev.ifn (by omega) ?_
          rw [List.drop_eq_nil_of_le (Nat.le_refl _), List.drop_eq_nil_of_le (by omega)]
          exact Ev.now _
        · refine L.Ev.succ ?_
          simp only [spec_AreLeastEnds.l0]
          have hb : i < v.length := by omega
          refine L.Ev.ifp (by omega) (L.Ev.ifp (by omega) (L.Ev.ifp (by omega) (L.Ev.ifp (by omega) ?_)))
          rw [rdIv_get hi, rdIv_get hb]
          by_cases h : z[i] = v[i]
          · refine L.Ev.ifn (by rw [iv_step]; exact fun hn => hn h) ?_
            have e : decide (z.drop i = v.drop i) = decide (z.drop (i + 1) = v.drop (i + 1)) := by
              rw [decide_eq_decide, iv_eq_drop z v i hi hb]; exact ⟨fun x => x.2, fun x => ⟨h, x⟩⟩
            rw [e]
            exact Ev.congr (fun k => by rw [L.w64n (by omega)]) ih
          · refine L.Ev.ifp (by rw [iv_step]; exact h) ?_
            have e : decide (z.drop i = v.drop i) = false := by
              rw [decide_eq_false_iff_not, iv_eq_drop z v i hi hb]; exact fun x => h x.1
            rw [e]; exact Ev.now _
      exact key 0 (by omega)
    · unfold impl_AreLeastEnds.f
      have he := ends_ev hr
      rw [hz] at he
      exact Ev.bind (AreIntervals_ev v hv) (L.Ev.ifp (by simp [hk]) (L.Ev.bindc (orderOf_eq v (by omega)) (Ev.bind he (Ev.bind (equalIv_ev z v hE (by omega)) (Ev.now _)))))
end Go.Proofs.Ytoilbeffheijeaa.P

/-! ### PuFnExactAreLeastEnds -/
/- The plain law behind FnExactAreLeastEnds, out of what the program's and the reference's function come to. -/
namespace Go.Proofs.Ytoilbeffheijeaa.P
open Go.RowKit Go.Proofs.YtoilbeffheijeaaW.PrintWords Go.Proofs.YtoilbeffheijeaaW.PrintLast Go.Proofs.YtoilbeffheijeaaW.PrintMore L
set_option linter.unusedVariables false
set_option linter.unusedSimpArgs false
set_option maxHeartbeats 1000000 in
theorem FnExactAreLeastEnds_pure (l0 : List S39) (m0 : l0.length ≤ 9223372036854775807) (w0 : ∀ x ∈ l0, R.wf x.f0 ∧ R.wf x.f1) : ∃ k, laws_FnExactAreLeastEnds.f k l0 = some true := by
  refine Ev.rounds (r := true) ?_
  unfold laws_FnExactAreLeastEnds.f
  refine L.Ev.bindc (szIntervalS_eq l0 1048576 (by omega) m0) ?_
  by_cases hb0 : (l0.length : Int) ≤ 1048576
  case neg => rw [if_neg hb0]; exact L.Ev.ifp (by omega) (Ev.now true)
  rw [if_pos hb0]
  refine L.Ev.ifn (by omega) ?_
  (try (refine L.Ev.succ ?_; first | simp only [laws_FnExactAreLeastEnds.j0] | simp only [laws_FnExactAreLeastEnds.j1] | simp only [laws_FnExactAreLeastEnds.j2] | simp only [laws_FnExactAreLeastEnds.j3]))
  have hn0 : l0.length ≤ 1048576 := by omega
  obtain ⟨r0, r1, hs, hi⟩ := AreLeastEnds_both (toIv l0) (by rw [toIv_length]; exact hn0) (toIv_wf w0)
  repeat' (first
    | exact Ev.now true
    | exact Ev.now _
    | with_reducible exact rfl
    | (with_reducible refine Ev.bind hs ?_)
    | (with_reducible refine Ev.bind hi ?_)
    | (with_reducible refine Ev.bind (toIntervalS_ev _ ?hs1) ?_; (case hs1 => first | omega | (dsimp only; omega)))
    | (with_reducible refine Ev.bind (eqIntervalS_self _ ?hs1) ?_; (case hs1 => first | omega | (dsimp only; omega) | (simp only [toIv_length]; omega)))
    | (refine L.Ev.ifp ?hc ?_; (case hc => first | rfl | omega | (simp; done)))
    | (refine L.Ev.ifn ?hc ?_; (case hc => first | omega | (simp; done)))
    | dsimp only
    | (refine L.Ev.succ ?_; simp only [laws_FnExactAreLeastEnds.j0])
    | (refine L.Ev.succ ?_; simp only [laws_FnExactAreLeastEnds.j1])
    | (refine L.Ev.succ ?_; simp only [laws_FnExactAreLeastEnds.j2])
    | (refine L.Ev.succ ?_; simp only [laws_FnExactAreLeastEnds.j3])
    | (refine L.Ev.succ ?_; simp only [laws_FnExactAreLeastEnds.j4])
    | (refine L.Ev.succ ?_; simp only [laws_FnExactAreLeastEnds.j5])
    | (refine L.Ev.succ ?_; simp only [laws_FnExactAreLeastEnds.j6])
    | (refine L.Ev.succ ?_; simp only [laws_FnExactAreLeastEnds.j7])
    | (refine L.Ev.succ ?_; simp only [laws_FnExactAreLeastEnds.j8])
    | (refine L.Ev.succ ?_; simp only [laws_FnExactAreLeastEnds.j9])
    | (refine L.Ev.succ ?_; simp only [laws_FnExactAreLeastEnds.j10])
    | (refine L.Ev.succ ?_; simp only [laws_FnExactAreLeastEnds.j11]))
end Go.Proofs.Ytoilbeffheijeaa.P
