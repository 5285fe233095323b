/- Plain laws of the marks that are laid into rows of whole numbers and looked for again; no conditions beyond the rows' lengths. -/
import Derived.Test.YtjeghlmkipcihaaLib
import Derived.Test.YtjeghlmkipcihaaPx8
import Derived.Test.YtjeghlmkipcihaaPx9
namespace Go.Proofs.Ytjeghlmkipcihaa.P
open Go.RowKit Go.Proofs.YtjeghlmkipcihaaW.PrintWords Go.Proofs.YtjeghlmkipcihaaW.PrintLast Go.Proofs.YtjeghlmkipcihaaW.PrintMore L
set_option linter.unusedVariables false
set_option linter.unusedSimpArgs false
/-- a, a + 1, .. -/
def marks (a : Int) (n : Nat) : List Int := (List.range n).map fun (i : Nat) => a + (i : Int)
theorem marks_length (a : Int) (n : Nat) : (marks a n).length = n := by simp [marks]
theorem markIntS_ev (l : List Int) (a : Int) (ha : 0 ≤ a ∧ a ≤ 4194304) (hl : l.length ≤ 1048576) : Ev (fun k => laws_markIntS.f k l a) (a + l.length, marks a l.length) := by
  have key : ∀ i, i ≤ l.length → Ev (fun k => laws_markIntS.l0 k (marks a i ++ l.drop i) (a + i) (i : Int)) (a + l.length, marks a l.length) := by
    refine L.down ?_ fun i hi ih => ?_
    · refine L.Ev.succ ?_
      simp only [laws_markIntS.l0]
      rw [List.drop_eq_nil_of_le (Nat.le_refl _), List.append_nil]
      refine L.Ev.ifn (by rw [marks_length]; omega) ?_
      exact Ev.now _
    · refine L.Ev.succ ?_
      simp only [laws_markIntS.l0]
      refine L.Ev.ifp (by rw [List.length_append, marks_length, List.length_drop]; omega) (L.Ev.ifp (by omega) ?_)
      have e : (marks a i ++ l.drop i).set i (a + i) = marks a (i + 1) ++ l.drop (i + 1) := by
        refine List.ext_getElem? fun j => ?_
        rw [List.getElem?_set]
        by_cases hj : i = j
        · subst hj
          rw [if_pos rfl, if_pos (by rw [List.length_append, marks_length, List.length_drop]; omega), List.getElem?_append_left (by rw [marks_length]; omega)]
          simp [marks]
        · rw [if_neg hj]
          by_cases h1 : j < i
          · rw [List.getElem?_append_left (by rw [marks_length]; omega), List.getElem?_append_left (by rw [marks_length]; omega)]
            simp [marks, h1, show j < i + 1 by omega]
          · rw [List.getElem?_append_right (by rw [marks_length]; omega), List.getElem?_append_right (by rw [marks_length]; omega), marks_length, marks_length, List.getElem?_drop, List.getElem?_drop]
            congr 1; omega
      refine Ev.congr (fun k => ?_) ih
      rw [L.w64n (n := i) (by omega), L.w64 (x := a + i + 1) (by omega) (by omega), Int.toNat_natCast, e]
      congr 1; omega
  refine Ev.congr (fun k => ?_) (key 0 (by omega))
  unfold laws_markIntS.f
  simp [marks]
theorem heldIntS_ev (l : List Int) (a : Int) (ha : 0 ≤ a ∧ a ≤ 4194304) (hl : l.length ≤ 1048576) : Ev (fun k => laws_heldIntS.f k l a) (if l = marks a l.length then a + l.length else -1) := by
  by_cases hm : l = marks a l.length
  · rw [if_pos hm]
    have key : ∀ i, i ≤ l.length → Ev (fun k => laws_heldIntS.l0 k l (a + i) (i : Int)) (a + l.length) := by
      refine L.down ?_ fun i hi ih => ?_
      · refine L.Ev.succ ?_
        simp only [laws_heldIntS.l0]
        refine L.Ev.ifn (by omega) ?_
        exact Ev.now _
      · refine L.Ev.succ ?_
        simp only [laws_heldIntS.l0]
        refine L.Ev.ifp (by omega) (L.Ev.ifp (by omega) (L.Ev.ifp ?_ ?_))
        · rw [L.rd_nat]
          have e : l.getD i 0 = (marks a l.length).getD i 0 := by rw [← hm]
          rw [e, List.getD_eq_getElem?_getD]
          simp [marks, hi]
        · refine Ev.congr (fun k => ?_) ih
          rw [L.w64n (n := i) (by omega), L.w64 (x := a + i + 1) (by omega) (by omega)]
          congr 1; omega
    exact Ev.congr (fun k => by unfold laws_heldIntS.f; simp) (key 0 (by omega))
  · rw [if_neg hm]
    have key : ∀ i, i ≤ l.length → (∀ j, j < i → l.getD j 0 = a + j) → Ev (fun k => laws_heldIntS.l0 k l (a + i) (i : Int)) (-1) := by
      refine L.down ?_ fun i hi ih => ?_
      · intro h
        refine absurd ?_ hm
        refine List.ext_getElem? fun j => ?_
        by_cases hj : j < l.length
        · have := h j hj
          rw [List.getD_eq_getElem?_getD, List.getElem?_eq_getElem hj] at this
          rw [List.getElem?_eq_getElem hj]
          simp only [Option.getD_some] at this
          simp [marks, hj, this]
        · rw [List.getElem?_eq_none (by omega), List.getElem?_eq_none (by rw [marks_length]; omega)]
      · intro h
        refine L.Ev.succ ?_
        simp only [laws_heldIntS.l0]
        refine L.Ev.ifp (by omega) (L.Ev.ifp (by omega) ?_)
        by_cases e : rd l (i : Int) = a + i
        · refine L.Ev.ifp e ?_
          refine Ev.congr (fun k => ?_) (ih fun j hj => ?_)
          · rw [L.w64n (n := i) (by omega), L.w64 (x := a + i + 1) (by omega) (by omega)]
            congr 1; omega
          · by_cases hji : j = i
            · rw [hji, ← L.rd_nat]; exact e
            · exact h j (by omega)
        · exact L.Ev.ifn e (Ev.now _)
    exact Ev.congr (fun k => by unfold laws_heldIntS.f; simp) (key 0 (by omega) (by omega))
theorem held_marks (a : Int) (n : Nat) (ha : 0 ≤ a ∧ a ≤ 4194304) (hn : n ≤ 1048576) : Ev (fun k => laws_heldIntS.f k (marks a n) a) (a + n) := by
  have h := heldIntS_ev (marks a n) a ha (by rw [marks_length]; omega)
  rw [marks_length, if_pos rfl] at h
  exact h
end Go.Proofs.Ytjeghlmkipcihaa.P
