/- strconv.Itoa of a small number and strings.Join at this program. -/
import Derived.Test.YthfkdgecclnffaaDoorSh
import Derived.Test.YthfkdgecclnffaaDoorWo0
import Derived.WalkKit
import Derived.RangeFuncBox
namespace Go.Proofs.YthfkdgecclnffaaDoor.P
open Go.RowKit Go.Shelf Go.Proofs.YthfkdgecclnffaaDoorW.PrintWords Go.Proofs.YthfkdgecclnffaaDoorW.PrintMore
set_option linter.unusedVariables false
set_option linter.unusedSimpArgs false
def joinB (xs : List ByteArray) (sep : ByteArray) : ByteArray := ⟨(Lib.join (xs.map (·.data.toList)) sep.data.toList).toArray⟩
def itoaB (n : Nat) : ByteArray := ⟨(Lib.decDigits n).toArray⟩
theorem sh_extra : Go.Proofs.Builder.Extra Tryd.prog sh_join_ren where
  sizeBuilder := by kernel_rfl
  liesBuilder := by kernel_rfl
  t5 := Tryd.underlying5
  a5 := Tryd.isAgg5
  z5 := Tryd.sizeOf5
  v5 := Tryd.zeroValue5
  infoByte := by kernel_rfl
  cellsByte := by kernel_rfl
  sizeByte := by kernel_rfl
  neB5 := by decide
theorem itoa_calls (n : Int) (h0 : 0 ≤ n) (h1 : n < 100) (w : World) :
    Calls Tryd.prog 38 #[.int .i64 n] w fun e w' => e = .returned (.string (itoaB n.toNat)) ∧ Below w.heap.size w w' := by
  obtain ⟨m, rfl⟩ := Int.eq_ofNat_of_zero_le h0
  refine (Any.strconv_Itoa_small sh_itoa m (by omega) w).mono ?_
  rintro e w' ⟨rfl, rfl⟩
  exact ⟨rfl, Below.refl _ _⟩
theorem join_calls (A0 : Option Addr) (c0 : Nat) (l0 : List ByteArray) (sep : ByteArray) (w : World) (hr0 : Kd.C Kd.string w A0 l0.length l0) (hc0 : l0.length ≤ c0) (hl : l0.length ≤ 1048576) (hj : (joinB l0 sep).size ≤ 1048576) :
    Calls Tryd.prog 39 #[.slice A0 l0.length c0, .string sep] w fun e w' => e = .returned (.string (joinB l0 sep)) ∧ Below w.heap.size w w' := by
  by_cases hn : l0.length = 0
  · have e0 : l0 = [] := List.eq_nil_of_length_eq_zero hn
    subst e0
    refine (Any.strings_Join_none sh_join sh_extra A0 c0 sep w).mono ?_
    rintro e w' ⟨he, rfl⟩
    exact ⟨he, Below.refl _ _⟩
  · obtain ⟨ad, rfl, hx0⟩ := Kd.at_string hr0 0 (by omega) (by omega)
    obtain ⟨b, o, s⟩ := ad
    have hs : s = none := by simpa [Addr.add] using World.cell?_spot hx0
    subst hs
    have hb : b < w.heap.size := by have := World.block_lt_of_cell? w _ hx0; simpa [Addr.add] using this
    have hsz : (joinB l0 sep).size = (Lib.join (l0.map (·.data.toList)) sep.data.toList).length := by unfold joinB; simp [ByteArray.size]
    refine (Any.strings_Join sh_join sh_extra b o c0 l0 sep w (fun j x hx => ?_) hb (by omega) hc0 (by omega)).mono ?_
    · have hlt : j < l0.length := by
        obtain ⟨h, _⟩ := List.getElem?_eq_some_iff.1 hx; exact h
      obtain ⟨ad2, e2, hc⟩ := Kd.at_string hr0 (j : Int) (by omega) (by omega)
      injection e2 with e2
      subst e2
      have hv : rdOf ByteArray.empty l0 (j : Int) = x := by unfold rdOf; rw [Int.toNat_natCast, List.getD_eq_getElem?_getD, hx]; rfl
      rw [hv, Int.toNat_natCast] at hc
      by_cases hj0 : j = 0
      · subst hj0; exact hc
      · unfold Addr.add at hc; rw [if_neg hj0] at hc; exact hc
    · rintro e w' ⟨he, hw⟩
      exact ⟨he, hw⟩
end Go.Proofs.YthfkdgecclnffaaDoor.P
