/- Plain laws: parts of a relation, in the reference and in the program; increasing lists. -/
import Derived.Test.YtjeghlmkipcihaaPuFree
import Derived.Test.YtjeghlmkipcihaaPx34
namespace Go.Proofs.Ytjeghlmkipcihaa.P
open Go.RowKit Go.Proofs.YtjeghlmkipcihaaW.PrintWords Go.Proofs.YtjeghlmkipcihaaW.PrintLast Go.Proofs.YtjeghlmkipcihaaW.PrintMore L
set_option linter.unusedVariables false
set_option linter.unusedSimpArgs false
/-- the relation of some elements, in an order. -/
def partIs (l e : List Int) (i j : Nat) : Bool := L.bitAt l (rd e (i : Int)).toNat (rd e (j : Int)).toNat
theorem orPart_ev {m : Nat} {l : List Int} (h : isRel (m : Int) l = true) (e : List Int) (he : e.length ≤ 60) (hin : ∀ x ∈ e, 0 ≤ x ∧ x ≤ (m : Int) - 1) :
    Ev (fun k => spec_orPart.f k (m : Int) l e) ((e.length : Int), L.relL e.length (partIs l e)) := by
  obtain ⟨h1, h2⟩ := isRel_len h
  have ok := isRel_ok h
  have get : ∀ i : Nat, i < e.length → ∃ x : Nat, rd e (i : Int) = x ∧ x < m := by
    intro i hi
    have hx := hin e[i] (List.getElem_mem hi)
    obtain ⟨x, hx2⟩ := Int.eq_ofNat_of_zero_le hx.1
    exact ⟨x, by rw [L.rd_get hi]; exact hx2, by omega⟩
  have k1 : ∀ i, i < e.length → Ev (fun k => spec_orPart.l0 k e e (e.length : Int) ((i + 1 : Nat) : Int) (m : Int) l (e.length : Int) (L.relPre e.length (partIs l e) (i + 1))) ((e.length : Int), L.relL e.length (partIs l e)) →
      ∀ j, j ≤ e.length → Ev (fun k => spec_orPart.l1 k e (rd e (i : Int)) ((L.relRow (partIs l e i) j : Nat) : Int) e (e.length : Int) (i : Int) e (e.length : Int) (j : Int) (m : Int) l (e.length : Int) (L.relPre e.length (partIs l e) i)) ((e.length : Int), L.relL e.length (partIs l e)) := by
    intro i hi hk
    obtain ⟨x, hx, hxm⟩ := get i hi
    refine L.down ?_ fun j hj ih => ?_
    · refine L.Ev.succ ?_
      simp only [spec_orPart.l1]
      refine L.Ev.ifn (by omega) (L.Ev.ifp (by rw [L.relPre_length]; omega) ?_)
      rw [L.relPre_succ, L.w64n (by omega)]
      exact hk
    · obtain ⟨y, hy, hym⟩ := get j hj
      refine L.Ev.succ ?_
      simp only [spec_orPart.l1]
      have eb : partIs l e i j = L.bitAt l x y := by unfold partIs; rw [hx, hy, Int.toNat_natCast, Int.toNat_natCast]
      refine L.Ev.ifp (by omega) (L.Ev.ifp (by omega) (L.Ev.ifp (by omega) (L.Ev.ifp (by omega) (L.Ev.ifp (by omega) (L.Ev.bindc (a := partIs l e i j) ?_ ?_)))))
      · rw [eb, hx, hy]; exact orHas_eq ok x y (by omega)
      rw [L.w64n (n := j) (by omega)]
      cases hb : partIs l e i j with
      | true =>
        refine L.Ev.ifp rfl ?_
        rw [L.row_yes hb (by omega)]
        exact ih
      | false =>
        refine L.Ev.ifn (by simp) ?_
        rw [L.row_no hb]
        exact ih
  have k0 : ∀ i, i ≤ e.length → Ev (fun k => spec_orPart.l0 k e e (e.length : Int) (i : Int) (m : Int) l (e.length : Int) (L.relPre e.length (partIs l e) i)) ((e.length : Int), L.relL e.length (partIs l e)) := by
    refine L.down ?_ fun i hi ih => ?_
    · refine L.Ev.succ ?_
      simp only [spec_orPart.l0]
      exact L.Ev.ifn (by omega) (Ev.now _)
    · refine L.Ev.succ ?_
      simp only [spec_orPart.l0]
      exact L.Ev.ifp (by omega) (L.Ev.ifp (by omega) (L.Ev.ifp (by omega) (k1 i hi ih 0 (by omega))))
  exact k0 0 (by omega)
end Go.Proofs.Ytjeghlmkipcihaa.P
