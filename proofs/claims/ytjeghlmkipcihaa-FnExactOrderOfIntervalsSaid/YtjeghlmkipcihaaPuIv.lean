/- Plain laws of the copies and comparisons of rows of intervals; no conditions beyond the rows' lengths. -/
import Derived.Test.YtjeghlmkipcihaaLib
import Derived.Test.YtjeghlmkipcihaaRowLib
import Derived.Test.YtjeghlmkipcihaaPx26
import Derived.Test.YtjeghlmkipcihaaPx27
namespace Go.Proofs.Ytjeghlmkipcihaa.P
open Go.RowKit Go.Proofs.YtjeghlmkipcihaaW.PrintWords Go.Proofs.YtjeghlmkipcihaaW.PrintLast Go.Proofs.YtjeghlmkipcihaaW.PrintMore L
set_option linter.unusedVariables false
set_option linter.unusedSimpArgs false
abbrev Iv := S60
abbrev LIv := S63
abbrev rdIv (l : List Iv) (i : Int) : Iv := rd_T60 l i
abbrev rdLIv (l : List LIv) (i : Int) : LIv := rd_T63 l i
theorem rdIv_get {l : List Iv} {i : Nat} (h : i < l.length) : rd_T60 l (i : Int) = l[i] := by
  simp [rd_T60, List.getD_eq_getElem?_getD, List.getElem?_eq_getElem h]
theorem rdLIv_get {l : List LIv} {i : Nat} (h : i < l.length) : rd_T63 l (i : Int) = l[i] := by
  simp [rd_T63, List.getD_eq_getElem?_getD, List.getElem?_eq_getElem h]
def toIv1 (x : LIv) : Iv := ⟨x.f0, x.f1⟩
def toIv (l : List LIv) : List Iv := l.map toIv1
theorem toIv_length (l : List LIv) : (toIv l).length = l.length := by simp [toIv]
theorem toIv_wf {l : List LIv} (h : ∀ x ∈ l, R.wf x.f0 ∧ R.wf x.f1) : ∀ x ∈ toIv l, R.wf x.f0 ∧ R.wf x.f1 := by
  intro x hx
  obtain ⟨y, hy, rfl⟩ := List.mem_map.1 hx
  exact h y hy
theorem toInterval_eq (a b : Int) : laws_toInterval.f a b = some (a, b) := rfl
theorem toIntervalS_ev (l : List LIv) (hl : l.length ≤ 1048576) : Ev (fun k => laws_toIntervalS.f k l) (toIv l) := by
  have key : ∀ i, i ≤ l.length → Ev (fun k => laws_toIntervalS.l0 k l ((toIv l).take i ++ List.replicate (l.length - i) z60) (i : Int)) (toIv l) := by
    refine L.down ?_ fun i hi ih => ?_
    · refine L.Ev.succ ?_
      simp only [laws_toIntervalS.l0]
      refine L.Ev.ifn (by omega) ?_
      rw [Nat.sub_self, List.take_of_length_le (by rw [toIv_length]; omega)]
      simp only [List.replicate_zero, List.append_nil]
      exact Ev.now _
    · refine L.Ev.succ ?_
      simp only [laws_toIntervalS.l0]
      refine L.Ev.ifp (by omega) (L.Ev.ifp (by omega) (L.Ev.bindc (toInterval_eq _ _) (L.Ev.ifp ?_ ?_)))
      · simp only [List.length_append, List.length_take, List.length_replicate, toIv_length]; omega
      · have e : ((toIv l).take i ++ List.replicate (l.length - i) z60).set i (⟨(rd_T63 l (i : Int)).f0, (rd_T63 l (i : Int)).f1⟩ : Iv) = (toIv l).take (i + 1) ++ List.replicate (l.length - (i + 1)) z60 := by
          rw [rdLIv_get hi]
          have hL : (toIv l).length = l.length := toIv_length l
          refine List.ext_getElem? fun j => ?_
          rw [List.getElem?_set]
          by_cases hj : i = j
          · subst hj
            rw [if_pos rfl, if_pos (by simp only [List.length_append, List.length_take, List.length_replicate]; omega), List.getElem?_append_left (by simp only [List.length_take]; omega), List.getElem?_take, if_pos (by omega)]
            simp [toIv, toIv1, List.getElem?_eq_getElem hi]
          · rw [if_neg hj]
            by_cases h1 : j < i
            · rw [List.getElem?_append_left (by simp only [List.length_take]; omega), List.getElem?_append_left (by simp only [List.length_take]; omega), List.getElem?_take, List.getElem?_take, if_pos h1, if_pos (by omega)]
            · rw [List.getElem?_append_right (by simp only [List.length_take]; omega), List.getElem?_append_right (by simp only [List.length_take]; omega)]
              simp only [List.length_take, List.getElem?_replicate, hL]
              by_cases h2 : j < l.length
              · rw [if_pos (by omega), if_pos (by omega)]
              · rw [if_neg (by omega), if_neg (by omega)]
        refine Ev.congr (fun k => ?_) ih
        rw [L.w64n (by omega), Int.toNat_natCast, e]
  refine Ev.congr (fun k => ?_) (key 0 (by omega))
  unfold laws_toIntervalS.f
  rw [if_pos (by omega), if_pos (by omega)]
  simp
theorem szIntervalS_eq (l : List LIv) (a : Int) (ha : 0 ≤ a ∧ a ≤ 1048576) (hl : l.length ≤ 9223372036854775807) : laws_szIntervalS.f l a = some (if (l.length : Int) ≤ a then a - l.length else -1) := by
  unfold laws_szIntervalS.f
  rw [L.w64 (by omega) (by omega)]
  by_cases h : (l.length : Int) ≤ a
  · rw [if_neg (by omega), if_pos h]
  · rw [if_pos (by omega), if_neg h]
theorem eqInterval_eq (x y : Iv) : laws_eqInterval.f x.f0 x.f1 y.f0 y.f1 = some (decide (x.f0 = y.f0 ∧ x.f1 = y.f1)) := by
  unfold laws_eqInterval.f
  by_cases h : x.f0 = y.f0 <;> by_cases h2 : x.f1 = y.f1 <;> simp [h, h2]
theorem eqIntervalS_self (l : List Iv) (hl : l.length ≤ 9223372036854775806) : Ev (fun k => laws_eqIntervalS.f k l l) true := by
  have key : ∀ i, i ≤ l.length → Ev (fun k => laws_eqIntervalS.l0 k l l (i : Int)) true := by
    refine L.down ?_ fun i hi ih => ?_
    · refine L.Ev.succ ?_
      simp only [laws_eqIntervalS.l0]
      exact L.Ev.ifn (by omega) (Ev.now _)
    · refine L.Ev.succ ?_
      simp only [laws_eqIntervalS.l0]
      refine L.Ev.ifp (by omega) (L.Ev.ifp (by omega) (L.Ev.ifp (by omega) (L.Ev.bindc (eqInterval_eq _ _) (L.Ev.ifp (by simp) ?_))))
      exact Ev.congr (fun k => by rw [L.w64n (by omega)]) ih
  refine Ev.congr (fun k => ?_) (key 0 (by omega))
  unfold laws_eqIntervalS.f
  rw [if_pos rfl]; rfl
end Go.Proofs.Ytjeghlmkipcihaa.P
