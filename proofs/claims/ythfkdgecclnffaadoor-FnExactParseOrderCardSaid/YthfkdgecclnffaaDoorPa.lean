/- strings.Cut, strings.Split and strconv.Atoi at this program. -/
import Derived.Test.YthfkdgecclnffaaDoorSh
import Derived.Test.YthfkdgecclnffaaDoorWo0
import Derived.WalkKit
import Derived.RangeFuncBox
namespace Go.Proofs.YthfkdgecclnffaaDoor.P
open Go.RowKit Go.Shelf Go.Proofs.YthfkdgecclnffaaDoorW.PrintWords Go.Proofs.YthfkdgecclnffaaDoorW.PrintMore
set_option linter.unusedVariables false
set_option linter.unusedSimpArgs false
/-- the variables that the library's functions read. -/
structure PaW (w : World) : Prop where
  ml : ∃ m : Int, w.cell? ⟨0, 0, none⟩ = some (.int .i64 m)
  es : ∃ ev : Value, w.cell? ⟨1, 0, none⟩ = some ev ∧ (ev = .nilIface ∨ ∃ te pe, ev = .iface te pe)
  er : ∃ ev : Value, w.cell? ⟨2, 0, none⟩ = some ev ∧ (ev = .nilIface ∨ ∃ te pe, ev = .iface te pe)
def cutA (s sep : ByteArray) : ByteArray := ⟨(Lib.cut s.data.toList sep.data.toList).1.toArray⟩
def cutB (s sep : ByteArray) : ByteArray := ⟨(Lib.cut s.data.toList sep.data.toList).2.1.toArray⟩
def cutF (s sep : ByteArray) : Bool := (Lib.cut s.data.toList sep.data.toList).2.2
theorem cut_calls (s sep : ByteArray) (w : World) (hs : s.size ≤ 1048576) (hP : PaW w) :
    Calls Tryd.prog 19 #[.string s, .string sep] w fun e w' => e = .returned (.tuple #[.string (cutA s sep), .string (cutB s sep), .bool (cutF s sep)]) ∧ Below w.heap.size w w' := by
  obtain ⟨m, hm⟩ := hP.ml
  refine (Any.strings_Cut sh_cut s sep m w (by omega) hm).mono ?_
  rintro e w' ⟨he, n, rfl⟩
  exact ⟨he, pw_below_drewN (Below.refl _ _) n⟩
def splitL (s sep : ByteArray) : List ByteArray := Lib.splitB sep 0 (Lib.countB s sep) s
theorem split_info : (Tryd.prog.info? 9).map (fun i => (i.zero, i.size, i.bytes)) = some (some (.string ByteArray.empty), 1, 16) := by kernel_rfl
theorem split_calls (s sep : ByteArray) (w : World) (hs : s.size ≤ 1048576) (h1 : 1 ≤ sep.size) (hP : PaW w) :
    Calls Tryd.prog 22 #[.string s, .string sep] w fun e w' => ∃ v0_ : Value, e = .returned (v0_) ∧ Kd.R Kd.string 9 w' w.heap.size (fun _ => True) v0_ (splitL s sep) ∧ Below w.heap.size w w' := by
  obtain ⟨m, hm⟩ := hP.ml
  have hl : (splitL s sep).length = Lib.countB s sep + 1 := Lib.splitB_all sep h1 0 _ s rfl
  have hle := Lib.countB_le sep h1 s.size s (Nat.le_refl _)
  refine (Any.strings_Split sh_split split_info s sep m w (by omega) hm h1).mono ?_
  rintro e w' ⟨rfl, rfl⟩
  refine ⟨_, rfl, ?_, below_alloc (Below.refl _ _) _⟩
  refine Kd.R_of_own (enc := Value.string) ?_ (fun k hk => trivial)
  rw [hl]
  refine ⟨by unfold encs; rw [List.length_map, hl]; omega, .inr ⟨w.heap.size, Lib.countB s sep + 1, _, rfl, Nat.le_refl _, World.alloc_heap_new w _, Nat.le_refl _, by unfold maxLen; omega, ?_, ?_⟩⟩
  · show ((splitL s sep).map Value.string).toArray.size = _
    simp [hl]
  · show ((splitL s sep).map Value.string).toArray.toList.take _ = _
    rw [List.toList_toArray, List.take_of_length_le (by rw [List.length_map, hl]; omega)]
    rfl
def atoiV (s : ByteArray) : Int := match Lib.atoiAll s.data.toList with
  | .ok v => v
  | .range => Lib.atoiSat s.data.toList
  | _ => 0
def atoiE (s : ByteArray) : Bool := match Lib.atoiAll s.data.toList with
  | .ok _ => false
  | _ => true
/-- an error, told by whether there is one. -/
def errV (b : Bool) (N : Nat) : Value := if b then .iface (sh_atoi_ren.t 168) (.pointer (some ⟨N, 0, none⟩)) else .nilIface
theorem atoi_calls (s : ByteArray) (w : World) (hs : s.size ≤ 1048576) (hP : PaW w) :
    Calls Tryd.prog 20 #[.string s] w fun e w' => ∃ N : Nat, e = .returned (.tuple #[.int .i64 (atoiV s), errV (atoiE s) N]) ∧ Below w.heap.size w w' := by
  by_cases ho : ∃ v, Lib.atoiAll s.data.toList = .ok v
  · obtain ⟨v, h⟩ := ho
    have e1 : atoiV s = v := by unfold atoiV; rw [h]
    have e2 : atoiE s = false := by unfold atoiE; rw [h]
    refine (Any.strconv_Atoi_ok sh_atoi s (by omega) v h w).mono ?_
    rintro e w' ⟨rfl, hw⟩
    refine ⟨0, by rw [e1, e2]; rfl, ?_⟩
    rcases hw with rfl | ⟨t, rfl⟩
    · exact Below.refl _ _
    · exact bytes_below (Below.refl _ _) (Nat.le_refl _) _ _
  · by_cases hr : Lib.atoiAll s.data.toList = .range
    · have e1 : atoiV s = Lib.atoiSat s.data.toList := by unfold atoiV; rw [hr]
      have e2 : atoiE s = true := by unfold atoiE; rw [hr]
      obtain ⟨ev, hv, hev⟩ := hP.er
      refine (Any.strconv_Atoi_range sh_atoi s (by omega) hr ev w hv hev).mono ?_
      rintro e w' ⟨N, rfl, _, _, hb⟩
      exact ⟨N, by rw [e1, e2]; rfl, hb⟩
    · obtain ⟨ev, hv, hev⟩ := hP.es
      have key : ∀ x, Lib.atoiAll s.data.toList = x → (¬ ∃ v, x = .ok v) → x ≠ .range → atoiV s = 0 ∧ atoiE s = true ∧ Calls Tryd.prog 20 #[.string s] w fun e w' => ∃ N, e = .returned (.tuple #[.int .i64 0, .iface (sh_atoi_ren.t 168) (.pointer (some ⟨N, 0, none⟩))]) ∧ Below w.heap.size w w' := by
        intro x hx h1 h2
        cases x
        all_goals first | exact absurd ⟨_, rfl⟩ h1 | exact absurd rfl h2 | exact ⟨by unfold atoiV; rw [hx], by unfold atoiE; rw [hx], (Any.strconv_Atoi_syntax sh_atoi s (by omega) hx ev w hv hev).mono fun e w' ⟨N, he, _, _, hb⟩ => ⟨N, he, hb⟩⟩
      obtain ⟨e1, e2, hc⟩ := key _ rfl ho hr
      refine hc.mono ?_
      rintro e w' ⟨N, rfl, hb⟩
      exact ⟨N, by rw [e1, e2]; rfl, hb⟩
end Go.Proofs.YthfkdgecclnffaaDoor.P
