/- What OrderOfStair comes to, in the program and in the reference. -/
import Derived.Test.YtnhofcjcpcgpiaaPuStairOrder
import Derived.Test.YtnhofcjcpcgpiaaRowLib
import Derived.Test.YtnhofcjcpcgpiaaPx30
namespace Go.Proofs.Ytnhofcjcpcgpiaa.P
open Go.RowKit Go.Proofs.YtnhofcjcpcgpiaaW.PrintWords Go.Proofs.YtnhofcjcpcgpiaaW.PrintLast Go.Proofs.YtnhofcjcpcgpiaaW.PrintMore L
set_option linter.unusedVariables false
set_option linter.unusedSimpArgs false
theorem OrderOfStair_both (l : List Int) (hl : l.length ≤ 1048576) (w0 : ∀ x ∈ l, R.wf x) :
    ∃ (n : Int) (q : List Int) (b : Bool), Ev (fun k => spec_OrderOfStair.f k l) (n, q, b) ∧ Ev (fun k => impl_OrderOfStair.f k l) (n, q, b) ∧ q.length ≤ 1048576 := by
  cases h : isStair l with
  | false =>
    refine ⟨0, [], false, ?_, ?_, by simp⟩
    · unfold spec_OrderOfStair.f
      exact Ev.bind (specStair_ev l hl) (L.Ev.ifn (by simp [h]) (Ev.now _))
    · unfold impl_OrderOfStair.f
      exact Ev.bind (implStair_ev l hl) (L.Ev.ifn (by simp [h]) (Ev.now _))
  | true =>
    obtain ⟨hs, hn⟩ := (isStair_iff l).1 h
    refine ⟨l.length, L.relL l.length (stairIs l), true, ?_, ?_, by rw [L.relL_length]; omega⟩
    · unfold spec_OrderOfStair.f
      exact Ev.bind (specStair_ev l hl) (L.Ev.ifp (by simp [h]) (Ev.bind (seOrder_ev l h) (Ev.now _)))
    · unfold impl_OrderOfStair.f
      refine Ev.bind (implStair_ev l hl) (L.Ev.ifp (by simp [h]) (L.Ev.bindc (a := ((l.length : Int), L.relL l.length (stairIs l))) ?_ (Ev.now _)))
      unfold impl_ofStair.f
      rw [if_pos (by omega)]; rfl
end Go.Proofs.Ytnhofcjcpcgpiaa.P
