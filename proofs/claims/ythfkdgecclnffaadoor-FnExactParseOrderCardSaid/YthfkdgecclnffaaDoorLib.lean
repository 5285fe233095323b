/- Plain lemmas of this session on whole numbers, bits, lists and rounds, without conditions beyond those each lemma names. -/
import Derived.Test.YthfkdgecclnffaaDoorWo0
import Derived.Laws.BitsLemmas
import Derived.Laws.Bits64b
import Derived.Lib.SliceRun
import Derived.WalkSpells
namespace Go.Proofs.YthfkdgecclnffaaDoor.L
open Go.RowKit Go.Proofs.YthfkdgecclnffaaDoorW.PrintWords Go.Proofs.YthfkdgecclnffaaDoorW.PrintLast Go.Proofs.YthfkdgecclnffaaDoorW.PrintMore
set_option linter.unusedVariables false
set_option linter.unusedSimpArgs false

theorem w64 {x : Int} (h0 : -9223372036854775808 ≤ x) (h1 : x ≤ 9223372036854775807) : wrap64 x = x := by
  unfold wrap64; omega
theorem w64n {n : Nat} (h : n ≤ 9223372036854775806) : wrap64 ((n : Int) + 1) = ((n + 1 : Nat) : Int) := by
  rw [w64 (by omega) (by omega)]; rfl
theorem i64w {x : Int} (h0 : -9223372036854775808 ≤ x) (h1 : x ≤ 9223372036854775807) : IntKind.i64.wrap x = x := by
  rw [IntKind.wrap_i64]; omega

/-! ### rounds -/
theorem ev_none_step {α : Type} {g : Nat → Option α} {r : α} (f : Nat → Option α) (h : ∀ k, g (k + 1) = f k) (k : Ev f r) : Ev g r := Ev.step h k
theorem Ev.const {α : Type} {o : Option α} {r : α} (h : o = some r) : Ev (fun _ => o) r := ⟨0, fun _ _ => h⟩
theorem Ev.bindc {α β : Type} {o : Option α} {f : Nat → α → Option β} {a : α} {r : β} (h : o = some a) (k : Ev (fun n => f n a) r) : Ev (fun n => o.bind (f n)) r := by
  subst h; exact k
theorem Ev.ifp {α : Type} {c : Prop} [Decidable c] {f g : Nat → Option α} {r : α} (h : c) (k : Ev f r) : Ev (fun n => if c then f n else g n) r :=
  Ev.congr (fun n => if_pos h) k
theorem Ev.ifn {α : Type} {c : Prop} [Decidable c] {f g : Nat → Option α} {r : α} (h : ¬ c) (k : Ev g r) : Ev (fun n => if c then f n else g n) r :=
  Ev.congr (fun n => if_neg h) k
theorem Ev.uniq {α : Type} {g : Nat → Option α} {r s : α} (h : Ev g r) (k : Ev g s) : r = s := by
  obtain ⟨a, ha⟩ := h; obtain ⟨b, hb⟩ := k
  have e1 := ha (max a b) (Nat.le_max_left ..); have e2 := hb (max a b) (Nat.le_max_right ..)
  rw [e1] at e2; exact Option.some.inj e2

theorem Ev.succ {α : Type} {g : Nat → Option α} {r : α} (h : Ev (fun k => g (k + 1)) r) : Ev g r := Ev.step (fun _ => rfl) h
/-- from the end to the begin. -/
theorem down {P : Nat → Prop} {n : Nat} (hn : P n) (h : ∀ i, i < n → P (i + 1) → P i) : ∀ i, i ≤ n → P i := by
  have key : ∀ d i, i + d = n → P i := by
    intro d
    induction d with
    | zero => intro i hi; rw [show i = n by omega]; exact hn
    | succ d ih => intro i hi; exact h i (by omega) (ih (i + 1) (by omega))
  exact fun i hi => key (n - i) i (by omega)

/-! ### reading -/
theorem rd_nat (l : List Int) (i : Nat) : rd l (i : Int) = l.getD i 0 := by simp [rd]
theorem rd_get {l : List Int} {i : Nat} (h : i < l.length) : rd l (i : Int) = l[i] := by
  rw [rd_nat, List.getD_eq_getElem?_getD, List.getElem?_eq_getElem h]; rfl
theorem rd_set {l : List Int} {i : Nat} (v : Int) (h : i < l.length) : rd (l.set i v) (i : Int) = v := by
  rw [rd_nat, List.getD_eq_getElem?_getD, List.getElem?_set_self h]; rfl
/-- whole numbers that are not negative, as naturals. -/
def cast (R : List Nat) : List Int := R.map fun (x : Nat) => (x : Int)
theorem cast_length (R : List Nat) : (cast R).length = R.length := by simp [cast]
theorem rd_cast (R : List Nat) (i : Nat) : rd (cast R) (i : Int) = ((R.getD i 0 : Nat) : Int) := by
  rw [rd_nat]
  by_cases h : i < R.length
  · simp [cast, List.getD_eq_getElem?_getD, List.getElem?_eq_getElem h]
  · simp [cast, List.getD_eq_getElem?_getD, List.getElem?_eq_none (show R.length ≤ i by omega)]
theorem cast_set (R : List Nat) (i x : Nat) : (cast R).set i (x : Int) = cast (R.set i x) := by simp [cast, List.map_set]
theorem cast_append (R S : List Nat) : cast (R ++ S) = cast R ++ cast S := by simp [cast]
theorem cast_inj {R S : List Nat} (h : cast R = cast S) : R = S := by
  refine List.ext_getElem? fun i => ?_
  have e : (cast R)[i]? = (cast S)[i]? := by rw [h]
  simp only [cast, List.getElem?_map] at e
  cases h1 : R[i]? with
  | none => rw [h1] at e; cases h2 : S[i]? with
    | none => rfl
    | some y => rw [h2] at e; simp at e
  | some x => rw [h1] at e; cases h2 : S[i]? with
    | none => rw [h2] at e; simp at e
    | some y =>
      rw [h2] at e; simp only [Option.map_some, Option.some.injEq] at e; rw [Int.ofNat_inj.1 e]
theorem exists_cast (l : List Int) (h : ∀ x ∈ l, 0 ≤ x) : ∃ R : List Nat, l = cast R := by
  induction l with
  | nil => exact ⟨[], rfl⟩
  | cons x l ih =>
    obtain ⟨R, rfl⟩ := ih fun y hy => h y (List.mem_cons_of_mem _ hy)
    obtain ⟨n, rfl⟩ := Int.eq_ofNat_of_zero_le (h x (List.mem_cons_self ..))
    exact ⟨n :: R, rfl⟩

/-! ### bits of naturals below 2^62 -/
theorem wr64 (n : Int) (h0 : 0 ≤ n) (h1 : n < 2 ^ 62) : IntKind.i64.wrap n = n := i64w (by omega) (by omega)
theorem and_nat {a b : Nat} (ha : a < 2 ^ 62) (hb : b < 2 ^ 62) : Go.bits .and .i64 (a : Int) (b : Int) = ((a &&& b : Nat) : Int) :=
  (bits_nat .i64 62 (by decide) wr64 a b ha hb).1
theorem or_nat {a b : Nat} (ha : a < 2 ^ 62) (hb : b < 2 ^ 62) : Go.bits .or .i64 (a : Int) (b : Int) = ((a ||| b : Nat) : Int) :=
  (bits_nat .i64 62 (by decide) wr64 a b ha hb).2
/-- what is in a and not in b. -/
def diff (a b : Nat) : Nat := a ^^^ (a &&& b)
theorem diff_testBit (a b i : Nat) : (diff a b).testBit i = (a.testBit i && !b.testBit i) := by
  unfold diff; rw [Nat.testBit_xor, Nat.testBit_and]; cases a.testBit i <;> cases b.testBit i <;> rfl
theorem diff_lt {a b n : Nat} (ha : a < 2 ^ n) : diff a b < 2 ^ n := Nat.xor_lt_two_pow ha (Nat.lt_of_le_of_lt Nat.and_le_left ha)
theorem andNot_nat {a b : Nat} (ha : a < 2 ^ 62) (hb : b < 2 ^ 62) : Go.bits .andNot .i64 (a : Int) (b : Int) = ((diff a b : Nat) : Int) := by
  have e : ((BitVec.ofNat 64 a) &&& ~~~(BitVec.ofNat 64 b)).toNat = diff a b := by
    refine Nat.eq_of_testBit_eq fun i => ?_
    rw [diff_testBit, ← BitVec.getLsbD.eq_1, BitVec.getLsbD_and, BitVec.getLsbD_not, BitVec.getLsbD_ofNat, BitVec.getLsbD_ofNat]
    by_cases h : i < 64
    · simp [h]
    · have ha' : a.testBit i = false := Nat.testBit_lt_two_pow (Nat.lt_of_lt_of_le ha (Nat.pow_le_pow_right (by decide) (by omega)))
      simp [h, ha']
  have hl : diff a b < 2 ^ 62 := diff_lt ha
  show IntKind.i64.wrap (((BitVec.ofInt 64 (a : Int)) &&& ~~~(BitVec.ofInt 64 (b : Int))).toNat : Int) = _
  rw [BitVec.ofInt_natCast, BitVec.ofInt_natCast, e]
  exact wr64 _ (by omega) (by exact_mod_cast hl)
theorem shl_one {j : Nat} (h : j < 62) : shl .i64 1 (j : Int) = ((2 ^ j : Nat) : Int) := by
  unfold shl
  have h2 : (2 : Nat) ^ j < 2 ^ 62 := Nat.pow_lt_pow_right (by decide) h
  rw [show min ((j : Int).toNat) (IntKind.bits .i64) = j from by simp [IntKind.bits]; omega, Int.one_mul]
  have e : ((2 : Int) ^ j) = ((2 ^ j : Nat) : Int) := by push_cast; rfl
  rw [e]; exact wr64 _ (Int.natCast_nonneg _) (by exact_mod_cast h2)
theorem shl_nat {a j m : Nat} (hj : j ≤ 62) (ha : a < 2 ^ m) (hm : m + j ≤ 62) : shl .i64 (a : Int) (j : Int) = ((a * 2 ^ j : Nat) : Int) := by
  unfold shl
  have h2 : a * 2 ^ j < 2 ^ 62 := by
    have h3 : a * 2 ^ j < 2 ^ m * 2 ^ j := Nat.mul_lt_mul_of_pos_right ha (Nat.two_pow_pos j)
    rw [← Nat.pow_add] at h3
    exact Nat.lt_of_lt_of_le h3 (Nat.pow_le_pow_right (by decide) hm)
  rw [show min ((j : Int).toNat) (IntKind.bits .i64) = j from by simp [IntKind.bits]; omega]
  have e : (a : Int) * ((2 : Int) ^ j) = ((a * 2 ^ j : Nat) : Int) := by push_cast; rfl
  rw [e]; exact wr64 _ (Int.natCast_nonneg _) (by exact_mod_cast h2)
theorem shr_nat {a j : Nat} (h : j ≤ 64) : shr .i64 (a : Int) (j : Int) = ((a >>> j : Nat) : Int) := by
  unfold shr
  rw [show min ((j : Int).toNat) (IntKind.bits .i64) = j from by simp [IntKind.bits]; omega, Nat.shiftRight_eq_div_pow]
  push_cast; rfl
/-- the bit, as the program asks it. -/
theorem bit_and {a j : Nat} (ha : a < 2 ^ 62) (hj : j ≤ 64) : (Go.bits .and .i64 (shr .i64 (a : Int) (j : Int)) 1 == 1) = a.testBit j := by
  have h1 : a >>> j < 2 ^ 62 := Nat.lt_of_le_of_lt (by rw [Nat.shiftRight_eq_div_pow]; exact Nat.div_le_self ..) ha
  rw [shr_nat hj, show (1 : Int) = ((1 : Nat) : Int) from rfl, and_nat h1 (by decide)]
  unfold Nat.testBit
  rw [Nat.and_comm]
  have h2 : 1 &&& a >>> j = 0 ∨ 1 &&& a >>> j = 1 := by rw [Nat.one_and_eq_mod_two]; omega
  rcases h2 with h2 | h2 <;> simp [h2]
theorem bit_mod {a j : Nat} (hj : j ≤ 64) : (Int.tmod (shr .i64 (a : Int) (j : Int)) 2 == 1) = a.testBit j := by
  rw [shr_nat hj, Nat.testBit_eq_decide_div_mod_eq, Nat.shiftRight_eq_div_pow]
  have e : Int.tmod ((a / 2 ^ j : Nat) : Int) 2 = ((a / 2 ^ j % 2 : Nat) : Int) := by
    rw [Int.tmod_eq_emod_of_nonneg (Int.natCast_nonneg _)]; rfl
  rw [e, Bool.eq_iff_iff]; simp only [beq_iff_eq, decide_eq_true_eq]; omega

/-! ### a function value that is called -/
section
variable {P : Program} {ops : Array Oper} {Q : Exit → Act → World → Prop}
theorem goesV_ {rest : List Oper} {oi : Oper} {a : Act} {w : World} (N : Option Tmp) (hd : oi.dst = N) (hg : oi.guard = none) {f : FuncId} {caps : Array Value} {cv : Operand} {as : Array Operand} {ts : Array TypeId} (args : Array Value)
    (hop : oi.op = .call { callee := .value cv, args := as, argTypes := ts }) (hcv : a.eval cv = .func (.func f) #[] caps) (hargs : as.map a.eval = args)
    (he : ∀ args w, (callFunc f args).run P w = .ok (.enter f args) w)
    (h : Calls P f (args ++ caps) w fun e w' => ∃ v, e = .returned v ∧ wpList P ops Q rest (a.put N v) w') : wpList P ops Q (oi :: rest) a w := by
  refine wpList_plain hg fun K hK => ?_
  have hrun : (execOp a.eval oi).run P w = .ok (.enter f (args ++ caps)) w := by
    unfold execOp
    simp [hop, resolve, Deferred.ofValue, invoke, hcv, hargs, he]
  unfold Oper.wp
  rw [hrun, Oper.upon_enter]
  refine h.mono fun e w'' hh => ?_
  obtain ⟨v, rfl, hk⟩ := hh
  subst hd
  exact hK _ _ hk
end

section
variable {P : Program} {ops : Array Oper} {Q : Exit → Act → World → Prop}
theorem goesV1_ {oi : Oper} {N : Option Tmp} {a : Act} {w : World} {K : Act → World → Prop} {f : FuncId} {caps : Array Value} {cv : Operand} {as : Array Operand} {ts : Array TypeId} (args : Array Value)
    (hw : Region.wanted oi (yielded ops a.tmps) = true) (hN : oi.dst = N) (hop : oi.op = .call { callee := .value cv, args := as, argTypes := ts }) (hcv : a.eval cv = .func (.func f) #[] caps) (hargs : as.map a.eval = args)
    (he : ∀ args w, (callFunc f args).run P w = .ok (.enter f args) w)
    (h : Calls P f (args ++ caps) w fun e w' => ∃ v, e = .returned v ∧ K (a.put N v) w') : if Region.wanted oi (yielded ops a.tmps) = true then Oper.wp P oi a w K Q else K (a.put N undef) w := by
  refine call_ f (args ++ caps) hw hN ?_ h
  unfold execOp
  simp [hop, resolve, Deferred.ofValue, invoke, hcv, hargs, he]
end

/-! ### slices held against nil -/
structure NilIs (v : Value) (q : Bool) : Prop where
  yes : q = true → v = .slice none 0 0
  no : q = false → ∃ a n c, v = .slice (some a) n c
theorem NilIs.nil_ : NilIs (.slice none 0 0) true := ⟨fun _ => rfl, fun h => by cases h⟩
theorem own_some {v : Value} (h : v.ownBlock.isSome = true) : ∃ a n c, v = .slice (some a) n c := by
  match v, h with
  | .slice (some a) n c, _ => exact ⟨a, n, c, rfl⟩
theorem NilIs.own_ {v : Value} (h : v.ownBlock.isSome = true) : NilIs v false := ⟨(fun e => by cases e), fun _ => own_some h⟩
/-- a slice that has a block. -/
def Blk (v : Value) : Prop := ∃ a n c, v = .slice (some a) n c
theorem Blk.ofR {α : Type} {d : Kd α} {e : Nat} {w : World} {base : Nat} {ok : Nat → Prop} {v : Value} {r : List α} (h : Kd.R d e w base ok v r) (hn : r ≠ []) : Blk v := by
  obtain ⟨A, c, rfl⟩ := Kd.R_slice h
  cases A with
  | some a => exact ⟨a, _, c, rfl⟩
  | none =>
    have hr := (Kd.R_reads' h).2.2
    cases r with
    | nil => exact absurd rfl hn
    | cons x r =>
      obtain ⟨ad, e, _⟩ := hr.2.2 (by simp)
      cases e
theorem NilIs.own2 {v : Value} {q : Bool} (h : Blk v) (hq : q = false) : NilIs v q := by
  subst hq; exact ⟨(fun e => by cases e), fun _ => h⟩
theorem NilIs.found {v : Value} {r : List Int} {q q2 : Bool} (h : NilIs v q) (hq : (!q) = true) (hr : r ≠ []) : NilIs v (r.isEmpty && q2) := by
  have : q = false := by cases q <;> simp_all
  subst this
  refine NilIs.own2 (h.no rfl) ?_
  cases r with
  | nil => exact absurd rfl hr
  | cons => rfl
theorem ne_fresh {α : Type} {d : Kd α} {e g : Nat} {w : World} {base : Nat} {ok : Nat → Prop} {v : Value} {r : List α} (h : Kd.R d e w base ok v r) (hg : g = w.heap.size) : some g ≠ v.ownBlock := fun e_ => by
  have := Kd.R_lt h g e_.symm; omega
theorem ne_new {α : Type} {d : Kd α} {e g : Nat} {w : World} {base : Nat} {ok : Nat → Prop} {v : Value} {r : List α} (h : Kd.R d e w base ok v r) (hg : g < base) : some g ≠ v.ownBlock := fun e_ => by
  have := Kd.R_base h g e_.symm; omega
theorem R_apartB {e g : Nat} {w : World} {base : Nat} {ok : Nat → Prop} {v : Value} {r : List Int} (h : Kd.R (Kd.int .i64) e w base ok v r) (hne : some g ≠ v.ownBlock) : Kd.R (Kd.int .i64) e w base (fun k => ok k ∧ k ≠ g) v r :=
  ⟨fun k hk => ⟨h.1 k hk, fun e_ => hne (by rw [← e_, hk])⟩, h.2⟩
theorem app_ne {α : Type} (l : List α) {m : List α} (h : m ≠ []) : l ++ m ≠ [] := by simp [h]
theorem app_ne2 {y l m : List Int} {x : Int} (h : y = l ++ m) (hm : m = [x]) : y ≠ [] := by subst h; subst hm; simp
def NilE {α : Type} (v : Value) (r : List α) : Prop := r = [] → v = .slice none 0 0
theorem NilE.nil {α : Type} (r : List α) : NilE (.slice none 0 0) r := fun _ => rfl
theorem NilE.ne {α : Type} {v : Value} {r : List α} (h : ¬ r = []) : NilE v r := fun e => absurd e h
theorem NilIs.ofR {α : Type} {d : Kd α} {e : Nat} {w : World} {base : Nat} {ok : Nat → Prop} {v : Value} {r : List α} (h : Kd.R d e w base ok v r) (hn : NilE v r) : NilIs v r.isEmpty := by
  refine ⟨fun hq => hn (List.isEmpty_iff.1 hq), fun hq => ?_⟩
  obtain ⟨A, c, rfl⟩ := Kd.R_slice h
  cases A with
  | some a => exact ⟨a, _, c, rfl⟩
  | none =>
    have hr := (Kd.R_reads' h).2.2
    cases r with
    | nil => simp at hq
    | cons x r =>
      obtain ⟨ad, e, _⟩ := hr.2.2 (by simp)
      cases e
theorem nil_eql {P : Program} {t e : TypeId} (hu : P.underlying t = some (.slice e)) {v : Value} {q : Bool} (h : NilIs v q) : ∀ W, (Go.binOp .eql t v (.slice none 0 0)).run P W = .ok (.bool q) W := by
  intro W
  cases q with
  | true => obtain rfl := h.yes rfl; exact Lib.run_eql_slice_nil W t e none 0 0 0 0 hu
  | false => obtain ⟨a, n, c, rfl⟩ := h.no rfl; exact Lib.run_eql_slice_nil W t e (some a) n c 0 0 hu
theorem nil_neq {P : Program} {t e : TypeId} (hu : P.underlying t = some (.slice e)) {v : Value} {q : Bool} (h : NilIs v q) : ∀ W, (Go.binOp .neq t v (.slice none 0 0)).run P W = .ok (.bool (!q)) W := by
  intro W
  cases q with
  | true => obtain rfl := h.yes rfl; exact run_neq_slice_nil_any W t e none 0 0 0 0 hu
  | false => obtain ⟨a, n, c, rfl⟩ := h.no rfl; exact run_neq_slice_nil_any W t e (some a) n c 0 0 hu

/-! ### relations: a row of bits for each element -/
def relRow (f : Nat → Bool) : Nat → Nat
  | 0 => 0
  | j + 1 => if f j then relRow f j ||| 2 ^ j else relRow f j
theorem relRow_lt (f : Nat → Bool) : ∀ n, relRow f n < 2 ^ n
  | 0 => by simp [relRow]
  | n + 1 => by
    have h := relRow_lt f n
    have h1 : (2 : Nat) ^ n < 2 ^ (n + 1) := Nat.pow_lt_pow_right (by decide) (by omega)
    unfold relRow; split
    · exact Nat.or_lt_two_pow (by omega) h1
    · omega
theorem relRow_testBit (f : Nat → Bool) (i : Nat) : ∀ n, (relRow f n).testBit i = (decide (i < n) && f i)
  | 0 => by simp [relRow]
  | n + 1 => by
    have h := relRow_testBit f i n
    unfold relRow
    by_cases hf : f n = true
    · rw [if_pos hf, Nat.testBit_or, h, Nat.testBit_two_pow]
      by_cases e : n = i
      · subst e; simp [hf]
      · by_cases h1 : i < n
        · simp [h1, e, show i < n + 1 by omega]
        · simp [h1, e, show ¬ i < n + 1 by omega]
    · rw [if_neg hf, h]
      by_cases e : n = i
      · subst e; simp [hf]
      · by_cases h1 : i < n
        · simp [h1, show i < n + 1 by omega]
        · simp [h1, show ¬ i < n + 1 by omega]
def relN (n : Nat) (is : Nat → Nat → Bool) : List Nat := (List.range n).map fun i => relRow (is i) n
def relL (n : Nat) (is : Nat → Nat → Bool) : List Int := cast (relN n is)
theorem relN_length (n : Nat) (is : Nat → Nat → Bool) : (relN n is).length = n := by simp [relN]
theorem relL_length (n : Nat) (is : Nat → Nat → Bool) : (relL n is).length = n := by simp [relL, cast_length, relN_length]
theorem relN_get (n : Nat) (is : Nat → Nat → Bool) {i : Nat} (h : i < n) : (relN n is).getD i 0 = relRow (is i) n := by
  simp [relN, List.getD_eq_getElem?_getD, h]
theorem relN_congr {n : Nat} {is js : Nat → Nat → Bool} (h : ∀ i j, i < n → j < n → is i j = js i j) : relN n is = relN n js := by
  refine List.map_congr_left fun i hi => ?_
  refine Nat.eq_of_testBit_eq fun j => ?_
  rw [relRow_testBit, relRow_testBit]
  by_cases hj : j < n
  · rw [h i j (List.mem_range.1 hi) hj]
  · simp [hj]
theorem relL_congr {n : Nat} {is js : Nat → Nat → Bool} (h : ∀ i j, i < n → j < n → is i j = js i j) : relL n is = relL n js := by
  unfold relL; rw [relN_congr h]

/-! ### relations that came in -/
def okRel (n : Int) (l : List Int) : Prop := 0 ≤ n ∧ n ≤ 60 ∧ (l.length : Int) = n ∧ ∀ x ∈ l, 0 ≤ x ∧ x < 4611686018427387904
instance (n : Int) (l : List Int) : Decidable (okRel n l) := by unfold okRel; exact inferInstance
def bitAt (l : List Int) (i j : Nat) : Bool := (l.getD i 0).toNat.testBit j
theorem okRel.get {n : Int} {l : List Int} (h : okRel n l) (i : Nat) : 0 ≤ rd l i ∧ rd l i < 4611686018427387904 := by
  by_cases hi : i < l.length
  · rw [rd_get hi]; exact h.2.2.2 _ (List.getElem_mem hi)
  · rw [rd_nat, List.getD_eq_getElem?_getD, List.getElem?_eq_none (by omega)]; simp
theorem okRel.bit {n : Int} {l : List Int} (h : okRel n l) (i j : Nat) (hj : j ≤ 64) : (Go.bits .and .i64 (shr .i64 (rd l i) (j : Int)) 1 == 1) = bitAt l i j := by
  obtain ⟨h0, h1⟩ := h.get i
  obtain ⟨x, hx⟩ := Int.eq_ofNat_of_zero_le h0
  rw [hx, bit_and (by omega) hj]
  unfold bitAt; rw [← rd_nat, hx]; rfl
theorem okRel.bitm {n : Int} {l : List Int} (h : okRel n l) (i j : Nat) (hj : j ≤ 64) : (Int.tmod (shr .i64 (rd l i) (j : Int)) 2 == 1) = bitAt l i j := by
  obtain ⟨h0, h1⟩ := h.get i
  obtain ⟨x, hx⟩ := Int.eq_ofNat_of_zero_le h0
  rw [hx, bit_mod hj]
  unfold bitAt; rw [← rd_nat, hx]; rfl
theorem okRel.len {n : Int} {l : List Int} (h : okRel n l) : (l.length : Int) = n := h.2.2.1
theorem okRel_relL {n : Nat} (hn : n ≤ 60) (is : Nat → Nat → Bool) : okRel n (relL n is) := by
  refine ⟨by omega, by omega, by rw [relL_length], fun x hx => ?_⟩
  simp only [relL, cast, List.mem_map] at hx
  obtain ⟨y, hy, rfl⟩ := hx
  simp only [relN, List.mem_map] at hy
  obtain ⟨i, _, rfl⟩ := hy
  have := relRow_lt (is i) n
  have h2 : (2 : Nat) ^ n ≤ 2 ^ 60 := Nat.pow_le_pow_right (by decide) hn
  omega
theorem bitAt_relL {n : Nat} (is : Nat → Nat → Bool) {i j : Nat} (hi : i < n) (hj : j < n) : bitAt (relL n is) i j = is i j := by
  unfold bitAt relL
  rw [← rd_nat, rd_cast, relN_get n is hi, Int.toNat_natCast, relRow_testBit]
  simp [hj]
end Go.Proofs.YthfkdgecclnffaaDoor.L
