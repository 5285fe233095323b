/- Plain laws: the relation turned round, in the reference. -/
import Derived.Test.YtjeghlmkipcihaaPuBelow
import Derived.Test.YtjeghlmkipcihaaPuRows
import Derived.Test.YtjeghlmkipcihaaPx23
namespace Go.Proofs.Ytjeghlmkipcihaa.P
open Go.RowKit Go.Proofs.YtjeghlmkipcihaaW.PrintWords Go.Proofs.YtjeghlmkipcihaaW.PrintLast Go.Proofs.YtjeghlmkipcihaaW.PrintMore L
set_option linter.unusedVariables false
set_option linter.unusedSimpArgs false
theorem orMirror_ev {m : Nat} {l : List Int} (h : isRel (m : Int) l = true) : Ev (fun k => spec_orMirror.f k (m : Int) l) ((m : Int), L.relL m fun i j => L.bitAt l j i) := by
  obtain ⟨m', hm', hm, hlm⟩ := isRel_nat h
  have key : ∀ i, i ≤ m → Ev (fun k => spec_orMirror.l0 k (l.length : Int) (i : Int) (m : Int) l (m : Int) (L.relPre m (fun i j => L.bitAt l j i) i)) ((m : Int), L.relL m fun i j => L.bitAt l j i) := by
    refine L.down ?_ fun i hi ih => ?_
    · refine L.Ev.succ ?_
      simp only [spec_orMirror.l0]
      exact L.Ev.ifn (by omega) (Ev.now _)
    · refine L.Ev.succ ?_
      simp only [spec_orMirror.l0]
      refine L.Ev.ifp (by omega) (Ev.bind (orBelow_ev h i (by omega)) (L.Ev.ifp (by rw [L.relPre_length]; omega) ?_))
      unfold belowN
      rw [L.relPre_succ m (fun i j => L.bitAt l j i) i]
      exact Ev.congr (fun k => by rw [L.w64n (by omega)]) ih
  exact key 0 (by omega)
end Go.Proofs.Ytjeghlmkipcihaa.P
