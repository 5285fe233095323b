/- Plain laws: the set below an element. -/
import Derived.Test.YtjeghlmkipcihaaPuRel2
import Derived.Test.YtjeghlmkipcihaaPx14
namespace Go.Proofs.Ytjeghlmkipcihaa.P
open Go.RowKit Go.Proofs.YtjeghlmkipcihaaW.PrintWords Go.Proofs.YtjeghlmkipcihaaW.PrintLast Go.Proofs.YtjeghlmkipcihaaW.PrintMore L
set_option linter.unusedVariables false
set_option linter.unusedSimpArgs false
/-- the set of all elements below one, as a natural number. -/
def belowN (l : List Int) (m i : Nat) : Nat := L.relRow (fun j => L.bitAt l j i) m
theorem belowN_lt (l : List Int) (m i : Nat) : belowN l m i < 2 ^ m := L.relRow_lt _ _
theorem belowN_bit (l : List Int) (m i j : Nat) : (belowN l m i).testBit j = (decide (j < m) && L.bitAt l j i) := L.relRow_testBit _ _ _
theorem orBelow_ev {m : Nat} {l : List Int} (h : isRel (m : Int) l = true) (i : Nat) (hi : i ≤ 64) : Ev (fun k => spec_orBelow.f k (m : Int) l (i : Int)) ((belowN l m i : Nat) : Int) := by
  obtain ⟨m', hm', hm, hlm⟩ := isRel_nat h
  obtain rfl : m = m' := by omega
  have ok := isRel_ok h
  have key : ∀ j, j ≤ m → Ev (fun k => spec_orBelow.l0 k (i : Int) ((L.relRow (fun j => L.bitAt l j i) j : Nat) : Int) l (l.length : Int) (j : Int)) ((belowN l m i : Nat) : Int) := by
    refine L.down ?_ fun j hj ih => ?_
    · refine L.Ev.succ ?_
      simp only [spec_orBelow.l0]
      exact L.Ev.ifn (by omega) (Ev.now _)
    · refine L.Ev.succ ?_
      simp only [spec_orBelow.l0]
      have hlt : L.relRow (fun j => L.bitAt l j i) j < 2 ^ 62 := Nat.lt_of_lt_of_le (L.relRow_lt _ j) (Nat.pow_le_pow_right (by decide) (by omega))
      have hp : (2 : Nat) ^ j < 2 ^ 62 := Nat.pow_lt_pow_right (by decide) (by omega)
      refine L.Ev.ifp (by omega) (L.Ev.ifp (by omega) (L.Ev.ifp (by omega) (L.Ev.bindc (orHas_eq ok j i hi) ?_)))
      rw [L.shl_one (by omega), L.or_nat hlt hp, L.w64n (by omega)]
      have e : L.relRow (fun j => L.bitAt l j i) (j + 1) = if L.bitAt l j i then L.relRow (fun j => L.bitAt l j i) j ||| 2 ^ j else L.relRow (fun j => L.bitAt l j i) j := rfl
      rw [e] at ih
      cases hb : L.bitAt l j i with
      | true => rw [hb] at ih; exact L.Ev.ifp rfl ih
      | false => rw [hb] at ih; exact L.Ev.ifn (by simp) ih
  exact key 0 (by omega)
theorem mirror_eq {m : Nat} {l : List Int} (h : isRel (m : Int) l = true) : impl_Order_mirror.f (m : Int) l = some ((m : Int), L.relL m fun i j => L.bitAt l j i) := by
  unfold impl_Order_mirror.f
  rw [if_pos (isRel_ok h)]; rfl
theorem rd_mirror (l : List Int) {m i : Nat} (hi : i < m) : rd (L.relL m fun i j => L.bitAt l j i) (i : Int) = ((belowN l m i : Nat) : Int) := by
  unfold L.relL
  rw [L.rd_cast, L.relN_get _ _ hi]; rfl
end Go.Proofs.Ytjeghlmkipcihaa.P
