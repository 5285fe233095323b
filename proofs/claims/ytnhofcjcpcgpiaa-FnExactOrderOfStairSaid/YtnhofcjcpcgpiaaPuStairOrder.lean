/- Plain laws: the order of a stair, in the reference. -/
import Derived.Test.YtnhofcjcpcgpiaaPuStair
import Derived.Test.YtnhofcjcpcgpiaaPx29
namespace Go.Proofs.Ytnhofcjcpcgpiaa.P
open Go.RowKit Go.Proofs.YtnhofcjcpcgpiaaW.PrintWords Go.Proofs.YtnhofcjcpcgpiaaW.PrintLast Go.Proofs.YtnhofcjcpcgpiaaW.PrintMore L
set_option linter.unusedVariables false
set_option linter.unusedSimpArgs false
/-- i is below j in the order of a stair. -/
def stairIs (l : List Int) (i j : Nat) : Bool := decide ((i : Int) < rd l (j : Int))
theorem seOrder_ev (l : List Int) (h : isStair l = true) : Ev (fun k => spec_seOrder.f k l) ((l.length : Int), L.relL l.length (stairIs l)) := by
  obtain ⟨hs, hn⟩ := (isStair_iff l).1 h
  have k1 : ∀ j, j < l.length → ∀ m : Nat, (m : Int) = rd l (j : Int) → Ev (fun k => spec_seOrder.l0 k l (l.length : Int) ((j + 1 : Nat) : Int) (l.length : Int) (L.relL l.length fun a b => decide (b < j + 1) && stairIs l a b)) ((l.length : Int), L.relL l.length (stairIs l)) →
      ∀ i, i ≤ m → Ev (fun k => spec_seOrder.l1 k (j : Int) (rd l (j : Int)) (i : Int) l (l.length : Int) (j : Int) (l.length : Int) (L.relL l.length fun a b => (decide (b < j) && stairIs l a b) || (decide (b = j) && decide (a < i)))) ((l.length : Int), L.relL l.length (stairIs l)) := by
    intro j hj m hm hk
    have hj2 := (hs j hj).2.1
    refine L.down ?_ fun i hi ih => ?_
    · refine L.Ev.succ ?_
      simp only [spec_seOrder.l1]
      refine L.Ev.ifn (by omega) ?_
      rw [L.w64n (by omega)]
      refine Ev.congr (fun k => ?_) hk
      congr 1
      refine L.relL_congr fun a b ha hb => ?_
      by_cases hb2 : b < j
      · simp [hb2, show b < j + 1 by omega, show ¬ b = j by omega]
      · by_cases hb3 : b = j
        · subst hb3
          have e : stairIs l a b = decide (a < m) := by unfold stairIs; rw [← hm]; simp only [decide_eq_decide]; omega
          simp [e]
        · simp [hb2, hb3, show ¬ b < j + 1 by omega]
    · refine L.Ev.succ ?_
      simp only [spec_seOrder.l1]
      refine L.Ev.ifp (by omega) (L.Ev.ifp (by omega) (L.Ev.ifp (by rw [L.relL_length]; omega) (L.Ev.ifp (by omega) ?_)))
      rw [Int.toNat_natCast, L.relL_mark (by omega) (by omega) hj, L.w64n (n := i) (by omega)]
      refine Ev.congr (fun k => ?_) ih
      congr 1
      refine L.relL_congr fun a b ha hb => ?_
      by_cases hb3 : b = j
      · subst hb3
        by_cases ha2 : a = i
        · subst ha2; simp
        · by_cases ha3 : a < i
          · simp [ha3, show a < i + 1 by omega]
          · simp [ha2, ha3, show ¬ a < i + 1 by omega]
      · simp [hb3]
  have k0 : ∀ j, j ≤ l.length → Ev (fun k => spec_seOrder.l0 k l (l.length : Int) (j : Int) (l.length : Int) (L.relL l.length fun a b => decide (b < j) && stairIs l a b)) ((l.length : Int), L.relL l.length (stairIs l)) := by
    refine L.down ?_ fun j hj ih => ?_
    · refine L.Ev.succ ?_
      simp only [spec_seOrder.l0]
      have e : L.relL l.length (fun a b => decide (b < l.length) && stairIs l a b) = L.relL l.length (stairIs l) := L.relL_congr fun a b ha hb => by simp [hb]
      rw [e]
      exact L.Ev.ifn (by omega) (Ev.now _)
    · refine L.Ev.succ ?_
      simp only [spec_seOrder.l0]
      obtain ⟨m, hm⟩ := Int.eq_ofNat_of_zero_le (hs j hj).1
      refine L.Ev.ifp (by omega) (L.Ev.ifp (by omega) (L.Ev.ifp (by omega) ?_))
      refine Ev.congr (fun k => ?_) (k1 j hj m hm.symm ih 0 (by omega))
      congr 1
      refine L.relL_congr fun a b ha hb => by simp
  unfold spec_seOrder.f
  refine L.Ev.ifp (by omega) (L.Ev.ifp (by omega) ?_)
  rw [Int.toNat_natCast, ← L.relL_none]
  refine Ev.congr (fun k => ?_) (k0 0 (by omega))
  congr 1
end Go.Proofs.Ytnhofcjcpcgpiaa.P
