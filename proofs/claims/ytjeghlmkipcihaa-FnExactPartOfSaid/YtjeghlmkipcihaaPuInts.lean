/- Plain laws of the copies and comparisons of rows of whole numbers; no conditions beyond the rows' lengths. -/
import Derived.Test.YtjeghlmkipcihaaLib
import Derived.Test.YtjeghlmkipcihaaPx1
import Derived.Test.YtjeghlmkipcihaaPx2
namespace Go.Proofs.Ytjeghlmkipcihaa.P
open Go.RowKit Go.Proofs.YtjeghlmkipcihaaW.PrintWords Go.Proofs.YtjeghlmkipcihaaW.PrintLast Go.Proofs.YtjeghlmkipcihaaW.PrintMore L
set_option linter.unusedVariables false
set_option linter.unusedSimpArgs false
theorem toIntS_ev (l : List Int) (hl : l.length ≤ 35184372088832) : Ev (fun k => laws_toIntS.f k l) l := by
  have key : ∀ i, i ≤ l.length → Ev (fun k => laws_toIntS.l0 k l (l.take i ++ List.replicate (l.length - i) 0) (i : Int)) l := by
    refine L.down ?_ fun i hi ih => ?_
    · refine L.Ev.succ ?_
      simp only [laws_toIntS.l0]
      refine L.Ev.ifn (by omega) ?_
      rw [Nat.sub_self, List.take_of_length_le (Nat.le_refl _)]
      simp only [List.replicate_zero, List.append_nil]
      exact Ev.now l
    · refine L.Ev.succ ?_
      simp only [laws_toIntS.l0]
      refine L.Ev.ifp (by omega) (L.Ev.ifp (by omega) (L.Ev.ifp ?_ ?_))
      · simp only [List.length_append, List.length_take, List.length_replicate]; omega
      · have e : (l.take i ++ List.replicate (l.length - i) 0).set i (rd l (i : Int)) = l.take (i + 1) ++ List.replicate (l.length - (i + 1)) 0 := by
          rw [L.rd_get hi]
          refine List.ext_getElem? fun j => ?_
          rw [List.getElem?_set]
          by_cases hj : i = j
          · subst hj
            rw [if_pos rfl, if_pos (by simp only [List.length_append, List.length_take, List.length_replicate]; omega), List.getElem?_append_left (by simp only [List.length_take]; omega), List.getElem?_take, if_pos (by omega), List.getElem?_eq_getElem hi]
          · rw [if_neg hj]
            by_cases h1 : j < i
            · rw [List.getElem?_append_left (by simp only [List.length_take]; omega), List.getElem?_append_left (by simp only [List.length_take]; omega), List.getElem?_take, List.getElem?_take, if_pos h1, if_pos (by omega)]
            · rw [List.getElem?_append_right (by simp only [List.length_take]; omega), List.getElem?_append_right (by simp only [List.length_take]; omega)]
              simp only [List.length_take, List.getElem?_replicate]
              by_cases h2 : j < l.length
              · rw [if_pos (by omega), if_pos (by omega)]
              · rw [if_neg (by omega), if_neg (by omega)]
        refine Ev.congr (fun k => ?_) ih
        rw [L.w64n (by omega), Int.toNat_natCast, e]
  refine Ev.congr (fun k => ?_) (key 0 (by omega))
  unfold laws_toIntS.f
  rw [if_pos (by omega), if_pos (by omega)]
  simp
theorem eqIntS_ev (l m : List Int) (hl : l.length ≤ 9223372036854775806) : Ev (fun k => laws_eqIntS.f k l m) (decide (l = m)) := by
  by_cases hlen : l.length = m.length
  · have key : ∀ i, i ≤ l.length → Ev (fun k => laws_eqIntS.l0 k l m (i : Int)) (decide (l.drop i = m.drop i)) := by
      refine L.down ?_ fun i hi ih => ?_
      · refine L.Ev.succ ?_
        simp only [laws_eqIntS.l0]
        refine L.Ev.ifn (by omega) ?_
        rw [List.drop_eq_nil_of_le (Nat.le_refl _), List.drop_eq_nil_of_le (by omega)]
        exact Ev.now _
      · refine L.Ev.succ ?_
        simp only [laws_eqIntS.l0]
        refine L.Ev.ifp (by omega) (L.Ev.ifp (by omega) (L.Ev.ifp (by omega) ?_))
        rw [L.rd_get hi, L.rd_get (l := m) (by omega), List.drop_eq_getElem_cons hi, List.drop_eq_getElem_cons (l := m) (by omega)]
        by_cases e : l[i] = m[i]'(by omega)
        · refine L.Ev.ifp e ?_
          refine Ev.congr (fun k => by rw [L.w64n (by omega)]) ?_
          have e2 : (l[i] :: List.drop (i + 1) l = m[i]'(by omega) :: List.drop (i + 1) m) = (List.drop (i + 1) l = List.drop (i + 1) m) := propext ⟨fun h => (List.cons.inj h).2, fun h => by rw [e, h]⟩
          simp only [e2]
          exact ih
        · refine L.Ev.ifn e ?_
          simp only [List.cons.injEq, e, false_and, decide_false]
          exact Ev.now _
    have h := key 0 (by omega)
    refine Ev.congr (fun k => ?_) h
    unfold laws_eqIntS.f
    rw [if_pos (by omega)]; rfl
  · have e : l ≠ m := fun h => hlen (by rw [h])
    refine Ev.congr (fun k => ?_) (f := fun _ => some false) (by simp only [e, decide_false]; exact Ev.now _)
    unfold laws_eqIntS.f
    rw [if_neg (by omega)]
theorem eqIntS_self (l : List Int) (hl : l.length ≤ 9223372036854775806) : Ev (fun k => laws_eqIntS.f k l l) true := by
  have h := eqIntS_ev l l hl
  simpa using h
end Go.Proofs.Ytjeghlmkipcihaa.P
