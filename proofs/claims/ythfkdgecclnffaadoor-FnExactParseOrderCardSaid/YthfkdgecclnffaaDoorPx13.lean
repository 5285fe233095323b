-- Written by wip/myprint.py of this session (a driver of the kit's print); Lean checks it.
import Derived.Test.YthfkdgecclnffaaDoorPx0
namespace Go.Proofs.YthfkdgecclnffaaDoor.P
open Go.RowKit Go.Proofs.YthfkdgecclnffaaDoorW.PrintWords Go.Proofs.YthfkdgecclnffaaDoorW.PrintLast Go.Proofs.YthfkdgecclnffaaDoorW.PrintMore
attribute [local go_sem] max2_int min2_int max_two min_two max_three min_three max_four min_four   -- for this text's walks alone
set_option linter.unusedVariables false
set_option linter.unusedSimpArgs false

/-! ### strings_Cut: function 19 -/
def strings_Cut.f (a0 : ByteArray) (a1 : ByteArray) : Option (ByteArray × ByteArray × Bool) := if a0.size ≤ 1048576 then some (cutA a0 a1, cutB a0 a1, cutF a0 a1) else none
theorem strings_Cut.calls (a0 : ByteArray) (a1 : ByteArray) (r1 : ByteArray) (r2 : ByteArray) (r3 : Bool) (w : World) (hT : TzW w) (h : strings_Cut.f a0 a1 = some (r1, r2, r3)) :
    Calls Tryd.prog 19 #[.string a0, .string a1] w fun e w' => e = .returned (.tuple #[.string r1, .string r2, .bool r3]) ∧ Below w.heap.size w w' := by
  unfold strings_Cut.f at h
  by_cases hc : a0.size ≤ 1048576
  case neg => rw [if_neg hc] at h; cases h
  rw [if_pos hc] at h
  simp only [Option.some.injEq, Prod.mk.injEq] at h
  obtain ⟨rfl, rfl, rfl⟩ := h
  exact cut_calls a0 a1 w hc hT.out

/-! ### strconv_Atoi: function 20 -/
def strconv_Atoi.f (a0 : ByteArray) : Option (Int × Option Int) := if a0.size ≤ 1048576 then some (atoiV a0, if atoiE a0 then some 0 else none) else none
def strconv_Atoi.is (v : Value) : Option Int → Prop
  | none => v = .nilIface
  | some _ => ∃ te pe, v = .iface te pe
theorem strconv_Atoi.calls (a0 : ByteArray) (r1 : Int) (r2 : Option Int) (w : World) (hT : TzW w) (h : strconv_Atoi.f a0 = some (r1, r2)) :
    Calls Tryd.prog 20 #[.string a0] w fun e w' => ∃ v_ : Value, e = .returned (.tuple #[.int .i64 r1, v_]) ∧ strconv_Atoi.is v_ r2 ∧ Below w.heap.size w w' := by
  unfold strconv_Atoi.f at h
  by_cases hc : a0.size ≤ 1048576
  case neg => rw [if_neg hc] at h; cases h
  rw [if_pos hc] at h
  simp only [Option.some.injEq, Prod.mk.injEq] at h
  obtain ⟨rfl, rfl⟩ := h
  refine (atoi_calls a0 w hc hT.out).mono ?_
  rintro e w' ⟨N, rfl, hb⟩
  refine ⟨_, rfl, ?_, hb⟩
  unfold errV
  cases atoiE a0 with
  | true => exact ⟨_, _, rfl⟩
  | false => rfl

/-! ### strings_Split: function 22 -/
def strings_Split.f (a0 : ByteArray) (a1 : ByteArray) : Option (List ByteArray) := if a0.size ≤ 1048576 ∧ 1 ≤ a1.size then some (splitL a0 a1) else none
theorem strings_Split.calls (a0 : ByteArray) (a1 : ByteArray) (r : List ByteArray) (w : World) (hT : TzW w) (h : strings_Split.f a0 a1 = some r) :
    Calls Tryd.prog 22 #[.string a0, .string a1] w fun e w' => ∃ v0_ : Value, e = .returned (v0_) ∧ Kd.R Kd.string 9 w' w.heap.size (fun _ => True) v0_ r ∧ Below w.heap.size w w' := by
  unfold strings_Split.f at h
  by_cases hc : a0.size ≤ 1048576 ∧ 1 ≤ a1.size
  case neg => rw [if_neg hc] at h; cases h
  rw [if_pos hc] at h
  obtain rfl := Option.some.inj h
  exact split_calls a0 a1 w hc.1 hc.2 hT.out

end Go.Proofs.YthfkdgecclnffaaDoor.P
