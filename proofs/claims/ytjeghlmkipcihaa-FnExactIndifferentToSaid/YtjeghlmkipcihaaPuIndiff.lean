/- Plain laws: the sets of those that are indifferent to each element, in the program. -/
import Derived.Test.YtjeghlmkipcihaaPuFree
import Derived.Test.YtjeghlmkipcihaaPx19
namespace Go.Proofs.Ytjeghlmkipcihaa.P
open Go.RowKit Go.Proofs.YtjeghlmkipcihaaW.PrintWords Go.Proofs.YtjeghlmkipcihaaW.PrintLast Go.Proofs.YtjeghlmkipcihaaW.PrintMore L
set_option linter.unusedVariables false
set_option linter.unusedSimpArgs false
def freeL (l : List Int) (m i : Nat) : List Int := L.cast ((List.range i).map (freeN l m))
theorem freeL_length (l : List Int) (m i : Nat) : (freeL l m i).length = i := by simp [freeL, L.cast_length]
theorem freeL_succ (l : List Int) (m i : Nat) : freeL l m i ++ [((freeN l m i : Nat) : Int)] = freeL l m (i + 1) := by
  simp [freeL, L.cast, List.range_succ]
theorem rd_freeL (l : List Int) {m i n : Nat} (h : i < n) : rd (freeL l m n) (i : Int) = ((freeN l m i : Nat) : Int) := by
  unfold freeL; rw [L.rd_cast]; simp [List.getD_eq_getElem?_getD, h]
theorem indifferent_ev {m : Nat} {l : List Int} (h : isRel (m : Int) l = true) : Ev (fun k => impl_Order_indifferent.f k (m : Int) l) (freeL l m m) := by
  obtain ⟨h1, h2⟩ := isRel_len h
  have key : ∀ i, i ≤ m → Ev (fun k => impl_Order_indifferent.l0 k (freeL l m i) (m : Int) (i : Int) (m : Int) l (m : Int) (L.relL m fun i j => L.bitAt l j i)) (freeL l m m) := by
    refine L.down ?_ fun i hi ih => ?_
    · refine L.Ev.succ ?_
      simp only [impl_Order_indifferent.l0]
      exact L.Ev.ifn (by omega) (Ev.now _)
    · refine L.Ev.succ ?_
      simp only [impl_Order_indifferent.l0]
      refine L.Ev.ifp (by omega) (L.Ev.bindc (all_eq (by omega) l) (L.Ev.ifp (by omega) (L.Ev.ifp (by omega) (L.Ev.ifp (by rw [L.relL_length]; omega) (L.Ev.ifp (by rw [freeL_length]; omega) ?_)))))
      have b1 := relRow_lt10 (L.bitAt l i) h2
      have b2 := belowN_lt10 l h2 i
      have b3 := two_lt10 (show i < 10 by omega)
      have b4 := allN_lt10 h2
      have b5 : L.diff (allN m) (L.relRow (L.bitAt l i) m) < 2 ^ 10 := L.diff_lt b4
      have b6 : L.diff (L.diff (allN m) (L.relRow (L.bitAt l i) m)) (belowN l m i) < 2 ^ 10 := L.diff_lt b5
      rw [rd_isRel h hi, rd_mirror l hi, L.andNot_nat (by omega) (by omega), L.andNot_nat (by omega) (by omega), L.shl_one (by omega), L.andNot_nat (by omega) (by omega), free_impl, freeL_succ]
      exact Ev.congr (fun k => by rw [L.w64n (by omega)]) ih
  unfold impl_Order_indifferent.f
  exact L.Ev.bindc (mirror_eq h) (key 0 (by omega))
end Go.Proofs.Ytjeghlmkipcihaa.P
