/- Plain laws: stairs, for the program and the reference alike. -/
import Derived.Test.YtnhofcjcpcgpiaaPuRel
import Derived.Test.YtnhofcjcpcgpiaaPuRows
import Derived.Test.YtnhofcjcpcgpiaaPx20
import Derived.Test.YtnhofcjcpcgpiaaPx19
namespace Go.Proofs.Ytnhofcjcpcgpiaa.P
open Go.RowKit Go.Proofs.YtnhofcjcpcgpiaaW.PrintWords Go.Proofs.YtnhofcjcpcgpiaaW.PrintLast Go.Proofs.YtnhofcjcpcgpiaaW.PrintMore L
set_option linter.unusedVariables false
set_option linter.unusedSimpArgs false
def stairAt (l : List Int) (i : Nat) : Bool := decide (0 ≤ rd l (i : Int) ∧ rd l (i : Int) ≤ i ∧ (0 < i → rd l ((i - 1 : Nat) : Int) ≤ rd l (i : Int)))
def isStair (l : List Int) : Bool := (List.range l.length).all (stairAt l) && decide (l.length ≤ 10)
theorem isStair_iff (l : List Int) : isStair l = true ↔ (∀ i, i < l.length → 0 ≤ rd l (i : Int) ∧ rd l (i : Int) ≤ i ∧ (0 < i → rd l ((i - 1 : Nat) : Int) ≤ rd l (i : Int))) ∧ l.length ≤ 10 := by
  simp only [isStair, Bool.and_eq_true, List.all_eq_true, List.mem_range, stairAt, decide_eq_true_eq]
theorem stairs_same_loop : ∀ k a b c d, spec_IsStair.l0 k a b c d = impl_IsStair.l0 k a b c d := by
  intro k
  induction k with
  | zero => intros; rfl
  | succ k ih => intro a b c d; simp only [spec_IsStair.l0, impl_IsStair.l0, ih, show spec_l1In.f = impl_within.f from rfl]
theorem range_drop_all (f : Nat → Bool) (n i : Nat) (hi : i < n) : ((List.range n).drop i).all f = (f i && ((List.range n).drop (i + 1)).all f) := by
  rw [List.drop_eq_getElem_cons (by simpa using hi), List.all_cons]; simp
theorem implStair_ev (l : List Int) (hl : l.length ≤ 1048576) : Ev (fun k => impl_IsStair.f k l) (isStair l) := by
  have key : ∀ i, i ≤ l.length → Ev (fun k => impl_IsStair.l0 k l l (l.length : Int) (i : Int)) (((List.range l.length).drop i).all (stairAt l) && decide (l.length ≤ 10)) := by
    refine L.down ?_ fun i hi ih => ?_
    · refine L.Ev.succ ?_
      simp only [impl_IsStair.l0]
      rw [List.drop_eq_nil_of_le (by simp)]
      have e : decide ((l.length : Int) ≤ 10) = decide (l.length ≤ 10) := by simp only [decide_eq_decide]; omega
      refine L.Ev.ifn (by omega) ?_
      rw [e]; exact Ev.now _
    · refine L.Ev.succ ?_
      simp only [impl_IsStair.l0]
      rw [range_drop_all _ _ i hi]
      refine L.Ev.ifp (by omega) (L.Ev.ifp (by omega) (L.Ev.ifp (by omega) (L.Ev.bindc (within_eq _ _ _) ?_)))
      rw [L.w64n (by omega)]
      by_cases h : 0 ≤ rd l (i : Int) ∧ rd l (i : Int) ≤ (i : Int)
      · refine L.Ev.ifp (by simpa using h) ?_
        by_cases h0 : 0 < i
        · have e1 : wrap64 ((i : Int) - 1) = ((i - 1 : Nat) : Int) := by rw [L.w64 (by omega) (by omega)]; omega
          rw [e1]
          refine L.Ev.ifp (by omega) (L.Ev.ifp (by omega) (L.Ev.ifp (by omega) ?_))
          by_cases h1 : rd l ((i - 1 : Nat) : Int) ≤ rd l (i : Int)
          · refine L.Ev.ifn (by omega) ?_
            have e : stairAt l i = true := by unfold stairAt; rw [decide_eq_true_eq]; exact ⟨h.1, h.2, fun _ => h1⟩
            rw [e, Bool.true_and]; exact ih
          · refine L.Ev.ifp (by omega) ?_
            have e : stairAt l i = false := by unfold stairAt; rw [decide_eq_false_iff_not]; intro hh; exact h1 (hh.2.2 h0)
            rw [e]; exact Ev.now _
        · refine L.Ev.ifn (by omega) ?_
          have e : stairAt l i = true := by unfold stairAt; rw [decide_eq_true_eq]; exact ⟨h.1, h.2, fun h => absurd h h0⟩
          rw [e, Bool.true_and]; exact ih
      · refine L.Ev.ifn (by simpa using h) ?_
        have e : stairAt l i = false := by unfold stairAt; rw [decide_eq_false_iff_not]; intro hh; exact h ⟨hh.1, hh.2.1⟩
        rw [e]; exact Ev.now _
  exact key 0 (by omega)
theorem specStair_ev (l : List Int) (hl : l.length ≤ 1048576) : Ev (fun k => spec_IsStair.f k l) (isStair l) :=
  Ev.congr (fun k => stairs_same_loop k l l (l.length : Int) 0) (implStair_ev l hl)
end Go.Proofs.Ytnhofcjcpcgpiaa.P
