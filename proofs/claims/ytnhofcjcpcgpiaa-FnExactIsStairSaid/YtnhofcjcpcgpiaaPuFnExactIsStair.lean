/- The plain law behind FnExactIsStair. -/
import Derived.Test.YtnhofcjcpcgpiaaPuInts
import Derived.Test.YtnhofcjcpcgpiaaRowLib
import Derived.Test.YtnhofcjcpcgpiaaPx7
namespace Go.Proofs.Ytnhofcjcpcgpiaa.P
open Go.RowKit Go.Proofs.YtnhofcjcpcgpiaaW.PrintWords Go.Proofs.YtnhofcjcpcgpiaaW.PrintLast Go.Proofs.YtnhofcjcpcgpiaaW.PrintMore L
set_option linter.unusedVariables false
set_option linter.unusedSimpArgs false
theorem isStair_same_loop : ∀ k a b c d, spec_IsStair.l0 k a b c d = impl_IsStair.l0 k a b c d := by
  intro k
  induction k with
  | zero => intros; rfl
  | succ k ih => intro a b c d; simp only [spec_IsStair.l0, impl_IsStair.l0, ih, show spec_l1In.f = impl_within.f from rfl]
theorem isStair_some (l : List Int) (hl : l.length ≤ 35184372088832) : ∃ b, Ev (fun k => impl_IsStair.f k l) b := by
  have key : ∀ i, i ≤ l.length → ∃ b, Ev (fun k => impl_IsStair.l0 k l l (l.length : Int) (i : Int)) b := by
    refine L.down ?_ fun i hi ih => ?_
    · refine ⟨decide ((l.length : Int) ≤ 10), L.Ev.succ ?_⟩
      simp only [impl_IsStair.l0]
      exact L.Ev.ifn (by omega) (Ev.now _)
    · obtain ⟨b, hb⟩ := ih
      have hw : ∃ t, impl_within.f (rd l i) 0 i = some t := by unfold impl_within.f; split <;> exact ⟨_, rfl⟩
      obtain ⟨t, ht⟩ := hw
      cases t with
      | false =>
        refine ⟨false, L.Ev.succ ?_⟩
        simp only [impl_IsStair.l0]
        exact L.Ev.ifp (by omega) (L.Ev.ifp (by omega) (L.Ev.ifp (by omega) (L.Ev.bindc ht (L.Ev.ifn (by simp) (Ev.now _)))))
      | true =>
        have hb2 := Ev.congr (f := fun k => impl_IsStair.l0 k l l (l.length : Int) ((i + 1 : Nat) : Int)) (g := fun k => impl_IsStair.l0 k l l (l.length : Int) (wrap64 ((i : Int) + 1))) (fun k => by rw [L.w64n (by omega)]) hb
        by_cases h0 : (i : Int) > 0
        · by_cases h1 : rd l (wrap64 ((i : Int) - 1)) > rd l i
          · refine ⟨false, L.Ev.succ ?_⟩
            simp only [impl_IsStair.l0]
            refine L.Ev.ifp (by omega) (L.Ev.ifp (by omega) (L.Ev.ifp (by omega) (L.Ev.bindc ht (L.Ev.ifp rfl (L.Ev.ifp h0 (L.Ev.ifp ?_ (L.Ev.ifp ?_ (L.Ev.ifp h1 (Ev.now _)))))))))
            all_goals rw [L.w64] <;> omega
          · refine ⟨b, L.Ev.succ ?_⟩
            simp only [impl_IsStair.l0]
            refine L.Ev.ifp (by omega) (L.Ev.ifp (by omega) (L.Ev.ifp (by omega) (L.Ev.bindc ht (L.Ev.ifp rfl (L.Ev.ifp h0 (L.Ev.ifp ?_ (L.Ev.ifp ?_ (L.Ev.ifn h1 hb2))))))))
            all_goals rw [L.w64] <;> omega
        · refine ⟨b, L.Ev.succ ?_⟩
          simp only [impl_IsStair.l0]
          exact L.Ev.ifp (by omega) (L.Ev.ifp (by omega) (L.Ev.ifp (by omega) (L.Ev.bindc ht (L.Ev.ifp rfl (L.Ev.ifn h0 hb2)))))
  exact key 0 (by omega)
theorem FnExactIsStair_pure (l0 : List Int) (m0 : l0.length ≤ 9223372036854775807) (w0 : ∀ x ∈ l0, R.wf x) : ∃ k, laws_FnExactIsStair.f k l0 = some true := by
  by_cases hbig : (l0.length : Int) > 1048576
  · exact ⟨0, by unfold laws_FnExactIsStair.f; rw [if_pos hbig]⟩
  · have hl' : l0.length ≤ 35184372088832 := by omega
    obtain ⟨b, hi⟩ := isStair_some l0 hl'
    have hs : Ev (fun k => spec_IsStair.f k l0) b := Ev.congr (fun k => isStair_same_loop k l0 l0 (l0.length : Int) 0) hi
    refine Ev.rounds (r := true) ?_
    unfold laws_FnExactIsStair.f
    refine L.Ev.ifn hbig ?_
    refine Ev.bind (toIntS_ev l0 hl') (Ev.bind hs (Ev.bind (toIntS_ev l0 hl') (Ev.bind hi (L.Ev.ifn (by simp) (Ev.bind (toIntS_ev l0 hl') (Ev.bind (eqIntS_ev l0 l0 (by omega)) ?_))))))
    exact L.Ev.ifp (by simp) (Ev.now true)
end Go.Proofs.Ytnhofcjcpcgpiaa.P
