/- Plain laws of the marks that are laid into rows of intervals and looked for again; no conditions beyond the rows' lengths. -/
import Derived.Test.YtjeghlmkipcihaaPuIv
import Derived.Test.YtjeghlmkipcihaaPx28
import Derived.Test.YtjeghlmkipcihaaPx40
namespace Go.Proofs.Ytjeghlmkipcihaa.P
open Go.RowKit Go.Proofs.YtjeghlmkipcihaaW.PrintWords Go.Proofs.YtjeghlmkipcihaaW.PrintLast Go.Proofs.YtjeghlmkipcihaaW.PrintMore L
set_option linter.unusedVariables false
set_option linter.unusedSimpArgs false
/-- ⟨a, a + 1⟩, ⟨a + 2, a + 3⟩, .. -/
def marksIv (a : Int) (n : Nat) : List Iv := (List.range n).map fun (i : Nat) => ⟨a + 2 * (i : Int), a + 2 * (i : Int) + 1⟩
theorem marksIv_length (a : Int) (n : Nat) : (marksIv a n).length = n := by simp [marksIv]
theorem markIntervalS_ev (l : List Iv) (a : Int) (ha : 0 ≤ a ∧ a ≤ 1048576) (hl : l.length ≤ 1048576) : Ev (fun k => laws_markIntervalS.f k l a) (a + 2 * l.length, marksIv a l.length) := by
  have key : ∀ i, i ≤ l.length → Ev (fun k => laws_markIntervalS.l0 k (marksIv a i ++ l.drop i) (a + 2 * i) (i : Int)) (a + 2 * l.length, marksIv a l.length) := by
    refine L.down ?_ fun i hi ih => ?_
    · refine L.Ev.succ ?_
      simp only [laws_markIntervalS.l0]
      rw [List.drop_eq_nil_of_le (Nat.le_refl _), List.append_nil]
      refine L.Ev.ifn (by rw [marksIv_length]; omega) ?_
      exact Ev.now _
    · refine L.Ev.succ ?_
      simp only [laws_markIntervalS.l0]
      refine L.Ev.ifp (by rw [List.length_append, marksIv_length, List.length_drop]; omega) (L.Ev.ifp (by omega) ?_)
      have hL : i < (marksIv a i ++ l.drop i).length := by rw [List.length_append, marksIv_length, List.length_drop]; omega
      refine L.Ev.bindc rfl ?_
      simp only [Int.toNat_natCast]
      have hL2 : ∀ v : Iv, i < ((marksIv a i ++ l.drop i).set i v).length := fun v => by rw [List.length_set]; exact hL
      rw [rdIv_get (hL2 _), List.getElem_set_self, List.set_set]
      have e : (marksIv a i ++ l.drop i).set i (⟨a + 2 * i, wrap64 (a + 2 * i + 1)⟩ : Iv) = marksIv a (i + 1) ++ l.drop (i + 1) := by
        rw [L.w64 (by omega) (by omega)]
        refine List.ext_getElem? fun j => ?_
        rw [List.getElem?_set]
        by_cases hj : i = j
        · subst hj
          rw [if_pos rfl, if_pos hL, List.getElem?_append_left (by rw [marksIv_length]; omega)]
          simp [marksIv]
        · rw [if_neg hj]
          by_cases h1 : j < i
          · rw [List.getElem?_append_left (by rw [marksIv_length]; omega), List.getElem?_append_left (by rw [marksIv_length]; omega)]
            simp [marksIv, h1, show j < i + 1 by omega]
          · rw [List.getElem?_append_right (by rw [marksIv_length]; omega), List.getElem?_append_right (by rw [marksIv_length]; omega), marksIv_length, marksIv_length, List.getElem?_drop, List.getElem?_drop]
            congr 1; omega
      refine Ev.congr (fun k => ?_) ih
      rw [e, L.w64n (n := i) (by omega), L.w64 (x := a + 2 * i + 1) (by omega) (by omega), L.w64 (by omega) (by omega)]
      congr 1; omega
  refine Ev.congr (fun k => ?_) (key 0 (by omega))
  unfold laws_markIntervalS.f
  simp [marksIv]
theorem held_marksIv (a : Int) (n : Nat) (ha : 0 ≤ a ∧ a ≤ 1048576) (hn : n ≤ 1048576) : Ev (fun k => laws_heldIntervalS.f k (marksIv a n) a) (a + 2 * n) := by
  have hL := marksIv_length a n
  have key : ∀ i, i ≤ n → Ev (fun k => laws_heldIntervalS.l0 k (marksIv a n) (a + 2 * i) (i : Int)) (a + 2 * n) := by
    refine L.down ?_ fun i hi ih => ?_
    · refine L.Ev.succ ?_
      simp only [laws_heldIntervalS.l0]
      refine L.Ev.ifn (by omega) ?_
      exact Ev.now _
    · refine L.Ev.succ ?_
      simp only [laws_heldIntervalS.l0]
      have hi2 : i < (marksIv a n).length := by omega
      have e : (marksIv a n)[i] = (⟨a + 2 * (i : Int), a + 2 * (i : Int) + 1⟩ : Iv) := by simp [marksIv]
      rw [rdIv_get hi2, e]
      refine L.Ev.ifp (by omega) (L.Ev.ifp (by omega) (L.Ev.ifp rfl (L.Ev.ifp ?_ ?_)))
      · rw [L.w64 (by omega) (by omega)]
      · refine Ev.congr (fun k => ?_) ih
        rw [L.w64n (n := i) (by omega), L.w64 (x := a + 2 * i + 1) (by omega) (by omega), L.w64 (by omega) (by omega)]
        congr 1; omega
  exact Ev.congr (fun k => by unfold laws_heldIntervalS.f; simp) (key 0 (by omega))
end Go.Proofs.Ytjeghlmkipcihaa.P
