/- What OrderOfPlaces comes to, in the program and in the reference. -/
import Derived.Test.YtnhofcjcpcgpiaaPuRel
import Derived.Test.YtnhofcjcpcgpiaaPuRows
import Derived.Test.YtnhofcjcpcgpiaaRowLib
import Derived.Test.YtnhofcjcpcgpiaaPx27
import Derived.Test.YtnhofcjcpcgpiaaPx26
namespace Go.Proofs.Ytnhofcjcpcgpiaa.P
open Go.RowKit Go.Proofs.YtnhofcjcpcgpiaaW.PrintWords Go.Proofs.YtnhofcjcpcgpiaaW.PrintLast Go.Proofs.YtnhofcjcpcgpiaaW.PrintMore L
set_option linter.unusedVariables false
set_option linter.unusedSimpArgs false
theorem OrderOfPlaces_both (a : Int) (wa : R.wf a) (l : List Int) (hl : l.length ≤ 1048576) (w0 : ∀ x ∈ l, R.wf x) :
    ∃ (n : Int) (q : List Int) (b : Bool), Ev (fun k => spec_OrderOfPlaces.f k a l) (n, q, b) ∧ Ev (fun k => impl_OrderOfPlaces.f k a l) (n, q, b) ∧ q.length ≤ 1048576 := by
  by_cases ha : 1 ≤ a ∧ a ≤ 10
  case neg =>
    refine ⟨0, [], false, ?_, ?_, by simp⟩
    · unfold spec_OrderOfPlaces.f
      refine L.Ev.bindc (by unfold spec_seThreshold.f; rw [l1In_eq]; rfl) (L.Ev.ifn (by simpa using ha) (L.Ev.succ ?_))
      simp only [spec_OrderOfPlaces.j0]
      exact L.Ev.ifp (by simp) (Ev.now _)
    · unfold impl_OrderOfPlaces.f
      exact L.Ev.bindc (within_eq _ _ _) (L.Ev.ifn (by simpa using ha) (Ev.now _))
  by_cases hn : l.length ≤ 10
  case neg =>
    refine ⟨0, [], false, ?_, ?_, by simp⟩
    · unfold spec_OrderOfPlaces.f
      refine L.Ev.bindc (by unfold spec_seThreshold.f; rw [l1In_eq]; rfl) (L.Ev.ifp (by simpa using ha) (L.Ev.ifp (by omega) (L.Ev.succ ?_)))
      simp only [spec_OrderOfPlaces.j0]
      exact L.Ev.ifp (by simp) (Ev.now _)
    · unfold impl_OrderOfPlaces.f
      exact L.Ev.bindc (within_eq _ _ _) (L.Ev.ifp (by simpa using ha) (L.Ev.ifp (by omega) (Ev.now _)))
  cases hin : allIn l 0 1000 with
  | false =>
    refine ⟨0, [], false, ?_, ?_, by simp⟩
    · unfold spec_OrderOfPlaces.f
      refine L.Ev.bindc (by unfold spec_seThreshold.f; rw [l1In_eq]; rfl) (L.Ev.ifp (by simpa using ha) (L.Ev.ifn (by omega) (Ev.bind (l1All_ev l 0 1000 (by omega)) (L.Ev.succ ?_))))
      simp only [spec_OrderOfPlaces.j0]
      exact L.Ev.ifp (by simp [hin]) (Ev.now _)
    · unfold impl_OrderOfPlaces.f
      exact L.Ev.bindc (within_eq _ _ _) (L.Ev.ifp (by simpa using ha) (L.Ev.ifn (by omega) (Ev.bind (allWithin_ev l 0 1000 (by omega)) (L.Ev.ifn (by simp [hin]) (Ev.now _)))))
  | true =>
    have hin2 := (allIn_iff l 0 1000).1 hin
    have get : ∀ i : Nat, 0 ≤ rd l (i : Int) ∧ rd l (i : Int) ≤ 1000 := by
      intro i
      by_cases hi : i < l.length
      · rw [L.rd_get hi]; exact hin2 _ (List.getElem_mem hi)
      · rw [L.rd_nat, List.getD_eq_getElem?_getD, List.getElem?_eq_none (by omega)]; simp
    obtain ⟨is, his⟩ : ∃ is : Nat → Nat → Bool, is = fun (i j : Nat) => decide (a ≤ rd l (j : Int) - rd l (i : Int)) := ⟨_, rfl⟩
    refine ⟨l.length, L.relL l.length is, true, ?_, ?_, by rw [L.relL_length]; omega⟩
    · have k1 : ∀ i, i < l.length → Ev (fun k => spec_OrderOfPlaces.l0 k a l l (l.length : Int) ((i + 1 : Nat) : Int) (l.length : Int) (L.relPre l.length is (i + 1))) ((l.length : Int), L.relL l.length is, true) →
          ∀ j, j ≤ l.length → Ev (fun k => spec_OrderOfPlaces.l1 k a l (rd l (i : Int)) ((L.relRow (is i) j : Nat) : Int) l (l.length : Int) (i : Int) l (l.length : Int) (j : Int) (l.length : Int) (L.relPre l.length is i)) ((l.length : Int), L.relL l.length is, true) := by
        intro i hi hk
        refine L.down ?_ fun j hj ih => ?_
        · refine L.Ev.succ ?_
          simp only [spec_OrderOfPlaces.l1]
          refine L.Ev.ifn (by omega) (L.Ev.ifp (by rw [L.relPre_length]; omega) ?_)
          rw [L.relPre_succ, L.w64n (by omega)]
          exact hk
        · refine L.Ev.succ ?_
          simp only [spec_OrderOfPlaces.l1]
          refine L.Ev.ifp (by omega) (L.Ev.ifp (by omega) (L.Ev.ifp (by omega) ?_))
          have g1 := get i
          have g2 := get j
          rw [L.w64n (n := j) (by omega), L.w64 (x := rd l (i : Int) + a) (by omega) (by omega)]
          by_cases h : rd l (j : Int) ≥ rd l (i : Int) + a
          · refine L.Ev.ifp h ?_
            rw [L.row_yes (by rw [his]; simp; omega) (by omega)]
            exact ih
          · refine L.Ev.ifn h ?_
            rw [L.row_no (f := is i) (j := j) (by rw [his]; simp; omega)]
            exact ih
      have k0 : ∀ i, i ≤ l.length → Ev (fun k => spec_OrderOfPlaces.l0 k a l l (l.length : Int) (i : Int) (l.length : Int) (L.relPre l.length is i)) ((l.length : Int), L.relL l.length is, true) := by
        refine L.down ?_ fun i hi ih => ?_
        · refine L.Ev.succ ?_
          simp only [spec_OrderOfPlaces.l0]
          exact L.Ev.ifn (by omega) (Ev.now _)
        · refine L.Ev.succ ?_
          simp only [spec_OrderOfPlaces.l0]
          exact L.Ev.ifp (by omega) (L.Ev.ifp (by omega) (L.Ev.ifp (by omega) (k1 i hi ih 0 (by omega))))
      unfold spec_OrderOfPlaces.f
      refine L.Ev.bindc (by unfold spec_seThreshold.f; rw [l1In_eq]; rfl) (L.Ev.ifp (by simpa using ha) (L.Ev.ifn (by omega) (Ev.bind (l1All_ev l 0 1000 (by omega)) (L.Ev.succ ?_))))
      simp only [spec_OrderOfPlaces.j0]
      exact L.Ev.ifn (by simp [hin]) (k0 0 (by omega))
    · unfold impl_OrderOfPlaces.f
      refine L.Ev.bindc (within_eq _ _ _) (L.Ev.ifp (by simpa using ha) (L.Ev.ifn (by omega) (Ev.bind (allWithin_ev l 0 1000 (by omega)) (L.Ev.ifp (by simp [hin]) (L.Ev.bindc (a := ((l.length : Int), L.relL l.length is)) ?_ (Ev.now _))))))
      unfold impl_placed.f
      rw [if_pos ⟨by omega, hin2⟩, his]
end Go.Proofs.Ytnhofcjcpcgpiaa.P
