/- Plain laws: the closure of a relation, in the program and in the reference. -/
import Derived.Test.YtjeghlmkipcihaaPuFree
import Derived.Test.YtjeghlmkipcihaaPx7
import Derived.Test.YtjeghlmkipcihaaPx4
import Derived.Test.YtjeghlmkipcihaaPx3
namespace Go.Proofs.Ytjeghlmkipcihaa.P
open Go.RowKit Go.Proofs.YtjeghlmkipcihaaW.PrintWords Go.Proofs.YtjeghlmkipcihaaW.PrintLast Go.Proofs.YtjeghlmkipcihaaW.PrintMore L
set_option linter.unusedVariables false
set_option linter.unusedSimpArgs false
/-- the first rows have taken in what stands in row k. -/
def closeI (k : Nat) : Nat → (Nat → Nat → Bool) → Nat → Nat → Bool
  | 0, is => is
  | i + 1, is => fun a b => closeI k i is a b || (decide (a = i) && (closeI k i is i k && closeI k i is k b))
def closeK (m : Nat) : Nat → (Nat → Nat → Bool) → Nat → Nat → Bool
  | 0, is => is
  | k + 1, is => closeI k m (closeK m k is)
theorem closeI_yes {m k i : Nat} {is : Nat → Nat → Bool} (h : closeI k i is i k = true) : L.relL m (fun a b => closeI k i is a b || (decide (a = i) && closeI k i is k b)) = L.relL m (closeI k (i + 1) is) := by
  refine L.relL_congr fun a b ha hb => ?_
  show _ = (closeI k i is a b || (decide (a = i) && (closeI k i is i k && closeI k i is k b)))
  rw [h, Bool.true_and]
theorem closeI_no {m k i : Nat} {is : Nat → Nat → Bool} (h : closeI k i is i k = false) : L.relL m (closeI k i is) = L.relL m (closeI k (i + 1) is) := by
  refine L.relL_congr fun a b ha hb => ?_
  show _ = (closeI k i is a b || (decide (a = i) && (closeI k i is i k && closeI k i is k b)))
  rw [h, Bool.false_and, Bool.and_false, Bool.or_false]
/-- the closure of a relation. -/
def closeL (l : List Int) (m : Nat) : List Int := L.relL m (closeK m m (L.bitAt l))
theorem Order_closed_ev {m : Nat} {l : List Int} (h : isRel (m : Int) l = true) : Ev (fun k => impl_Order_closed.f k (m : Int) l) ((m : Int), closeL l m) := by
  obtain ⟨h1, h2⟩ := isRel_len h
  have k1 : ∀ c, c < m → Ev (fun k => impl_Order_closed.l0 k (m : Int) ((c + 1 : Nat) : Int) (m : Int) l (m : Int) (L.relL m (closeK m (c + 1) (L.bitAt l)))) ((m : Int), closeL l m) →
      ∀ i, i ≤ m → Ev (fun k => impl_Order_closed.l1 k (c : Int) (m : Int) (c : Int) (m : Int) (i : Int) (m : Int) l (m : Int) (L.relL m (closeI c i (closeK m c (L.bitAt l))))) ((m : Int), closeL l m) := by
    intro c hc hk
    refine L.down ?_ fun i hi ih => ?_
    · refine L.Ev.succ ?_
      simp only [impl_Order_closed.l1]
      refine L.Ev.ifn (by omega) ?_
      rw [L.w64n (by omega)]; exact hk
    · refine L.Ev.succ ?_
      simp only [impl_Order_closed.l1]
      refine L.Ev.ifp (by omega) (L.Ev.bindc (impl_Order_better.tells (L.okRel_relL (by omega) _) i c (by omega) (by omega)) ?_)
      rw [L.bitAt_relL _ hi hc]
      cases hb : closeI c i (closeK m c (L.bitAt l)) i c with
      | true =>
        refine L.Ev.ifp rfl (L.Ev.ifp (by omega) (L.Ev.ifp (by rw [L.relL_length]; omega) (L.Ev.ifp (by omega) (L.Ev.ifp (by rw [L.relL_length]; omega) ?_))))
        rw [Int.toNat_natCast, L.relL_or (by omega) hi hc, closeI_yes hb]
        exact Ev.congr (fun k => by rw [L.w64n (by omega)]) ih
      | false =>
        refine L.Ev.ifn (by simp) ?_
        rw [closeI_no hb]
        exact Ev.congr (fun k => by rw [L.w64n (by omega)]) ih
  have k0 : ∀ c, c ≤ m → Ev (fun k => impl_Order_closed.l0 k (m : Int) (c : Int) (m : Int) l (m : Int) (L.relL m (closeK m c (L.bitAt l)))) ((m : Int), closeL l m) := by
    refine L.down ?_ fun c hc ih => ?_
    · refine L.Ev.succ ?_
      simp only [impl_Order_closed.l0]
      exact L.Ev.ifn (by omega) (Ev.now _)
    · refine L.Ev.succ ?_
      simp only [impl_Order_closed.l0]
      exact L.Ev.ifp (by omega) (k1 c hc ih 0 (by omega))
  unfold impl_Order_closed.f
  refine L.Ev.bindc (a := l) (by unfold slices_Clone_int_int.f; rw [if_pos (by omega)]) ?_
  have e := k0 0 (by omega)
  have e2 : L.relL m (closeK m 0 (L.bitAt l)) = l := (L.okRel_eq h1 (by omega) (isRel_rows h)).symm
  rw [e2] at e
  exact e
theorem l1Own_eq (l : List Int) (hl : l.length ≤ 1048576) : spec_l1Own.f l = some l := by
  unfold spec_l1Own.f
  simp only [Option.bind_some, List.length_nil, List.nil_append]
  rw [if_pos (by omega)]
theorem specClose_ev {m : Nat} {l : List Int} (h : isRel (m : Int) l = true) : Ev (fun k => spec_CloseRelation.l0 k (m : Int) 0 (m : Int) l) ((m : Int), closeL l m, true) := by
  obtain ⟨h1, h2⟩ := isRel_len h
  have k1 : ∀ c, c < m → Ev (fun k => spec_CloseRelation.l0 k (m : Int) ((c + 1 : Nat) : Int) (m : Int) (L.relL m (closeK m (c + 1) (L.bitAt l)))) ((m : Int), closeL l m, true) →
      ∀ i, i ≤ m → Ev (fun k => spec_CloseRelation.l1 k (c : Int) (m : Int) (c : Int) (m : Int) (i : Int) (m : Int) (L.relL m (closeI c i (closeK m c (L.bitAt l))))) ((m : Int), closeL l m, true) := by
    intro c hc hk
    refine L.down ?_ fun i hi ih => ?_
    · refine L.Ev.succ ?_
      simp only [spec_CloseRelation.l1]
      refine L.Ev.ifn (by omega) ?_
      rw [L.w64n (by omega)]; exact hk
    · refine L.Ev.succ ?_
      simp only [spec_CloseRelation.l1]
      refine L.Ev.ifp (by omega) (L.Ev.ifp (by omega) (L.Ev.ifp (by rw [L.relL_length]; omega) (L.Ev.bindc (orHas_eq (L.okRel_relL (n := m) (by omega) _) i c (by omega)) ?_)))
      rw [L.bitAt_relL _ hi hc]
      cases hb : closeI c i (closeK m c (L.bitAt l)) i c with
      | true =>
        refine L.Ev.ifp rfl (L.Ev.ifp (by omega) (L.Ev.ifp (by rw [L.relL_length]; omega) ?_))
        rw [Int.toNat_natCast, L.relL_or (by omega) hi hc, closeI_yes hb]
        exact Ev.congr (fun k => by rw [L.w64n (by omega)]) ih
      | false =>
        refine L.Ev.ifn (by simp) ?_
        rw [closeI_no hb]
        exact Ev.congr (fun k => by rw [L.w64n (by omega)]) ih
  have k0 : ∀ c, c ≤ m → Ev (fun k => spec_CloseRelation.l0 k (m : Int) (c : Int) (m : Int) (L.relL m (closeK m c (L.bitAt l)))) ((m : Int), closeL l m, true) := by
    refine L.down ?_ fun c hc ih => ?_
    · refine L.Ev.succ ?_
      simp only [spec_CloseRelation.l0]
      exact L.Ev.ifn (by omega) (Ev.now _)
    · refine L.Ev.succ ?_
      simp only [spec_CloseRelation.l0]
      refine L.Ev.ifp (by omega) ?_
      rw [L.relL_length]
      exact k1 c hc ih 0 (by omega)
  have e := k0 0 (by omega)
  have e2 : L.relL m (closeK m 0 (L.bitAt l)) = l := (L.okRel_eq h1 (by omega) (isRel_rows h)).symm
  rw [e2] at e
  exact e
end Go.Proofs.Ytjeghlmkipcihaa.P
