/- Plain laws: the order that intervals represent, in the reference and in the program. -/
import Derived.Test.YtjeghlmkipcihaaPuIvIs
import Derived.Test.YtjeghlmkipcihaaPuRows
import Derived.Test.YtjeghlmkipcihaaPx29
import Derived.Test.YtjeghlmkipcihaaPx30
namespace Go.Proofs.Ytjeghlmkipcihaa.P
open Go.RowKit Go.Proofs.YtjeghlmkipcihaaW.PrintWords Go.Proofs.YtjeghlmkipcihaaW.PrintLast Go.Proofs.YtjeghlmkipcihaaW.PrintMore L
set_option linter.unusedVariables false
set_option linter.unusedSimpArgs false
def ivIs (l : List Iv) (i j : Nat) : Bool := decide ((rd_T60 l (i : Int)).f1 < (rd_T60 l (j : Int)).f0)
theorem orderOf_eq (l : List Iv) (hl : l.length ≤ 60) : impl_orderOf.f l = some ((l.length : Int), L.relL l.length (ivIs l)) := by
  unfold impl_orderOf.f; rw [if_pos hl]; rfl
theorem ivOrder_ev (l : List Iv) (hl : l.length ≤ 60) : Ev (fun k => spec_ivOrder.f k l) ((l.length : Int), L.relL l.length (ivIs l)) := by
  have k1 : ∀ i, i < l.length → Ev (fun k => spec_ivOrder.l0 k l l (l.length : Int) ((i + 1 : Nat) : Int) (l.length : Int) (L.relPre l.length (ivIs l) (i + 1))) ((l.length : Int), L.relL l.length (ivIs l)) →
      ∀ j, j ≤ l.length → Ev (fun k => spec_ivOrder.l1 k l ((L.relRow (ivIs l i) j : Nat) : Int) l (l.length : Int) (i : Int) l (l.length : Int) (j : Int) (l.length : Int) (L.relPre l.length (ivIs l) i) (rd_T60 l (i : Int)).f0 (rd_T60 l (i : Int)).f1) ((l.length : Int), L.relL l.length (ivIs l)) := by
    intro i hi hk
    refine L.down ?_ fun j hj ih => ?_
    · refine L.Ev.succ ?_
      simp only [spec_ivOrder.l1]
      refine L.Ev.ifn (by omega) (L.Ev.ifp (by rw [L.relPre_length]; omega) ?_)
      rw [L.relPre_succ, L.w64n (by omega)]
      exact hk
    · refine L.Ev.succ ?_
      simp only [spec_ivOrder.l1]
      refine L.Ev.ifp (by omega) (L.Ev.ifp (by omega) (L.Ev.ifp (by omega) ?_))
      rw [L.w64n (n := j) (by omega)]
      by_cases h : (rd_T60 l (i : Int)).f1 < (rd_T60 l (j : Int)).f0
      · refine L.Ev.ifp h ?_
        rw [L.row_yes (f := ivIs l i) (by unfold ivIs; exact decide_eq_true h) (by omega)]
        exact ih
      · refine L.Ev.ifn h ?_
        rw [L.row_no (f := ivIs l i) (j := j) (by unfold ivIs; exact decide_eq_false h)]
        exact ih
  have k0 : ∀ i, i ≤ l.length → Ev (fun k => spec_ivOrder.l0 k l l (l.length : Int) (i : Int) (l.length : Int) (L.relPre l.length (ivIs l) i)) ((l.length : Int), L.relL l.length (ivIs l)) := by
    refine L.down ?_ fun i hi ih => ?_
    · refine L.Ev.succ ?_
      simp only [spec_ivOrder.l0]
      exact L.Ev.ifn (by omega) (Ev.now _)
    · refine L.Ev.succ ?_
      simp only [spec_ivOrder.l0]
      exact L.Ev.ifp (by omega) (L.Ev.ifp (by omega) (L.Ev.ifp (by omega) (k1 i hi ih 0 (by omega))))
  exact k0 0 (by omega)
end Go.Proofs.Ytjeghlmkipcihaa.P
