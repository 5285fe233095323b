/- Plain laws: the different numbers of a list, in order: increasing, with the same members; for every list of whole numbers. -/
import Derived.Lib.SlicesCompact
namespace Go.Proofs.Ytoilbeffheijeaa.Diff
set_option linter.unusedVariables false
set_option linter.unusedSimpArgs false
open Go.Lib
theorem comp_inv (d : Array Int) (hs : ∀ i j, i ≤ j → j < d.size → d[i]! ≤ d[j]!) : ∀ m, m ≤ d.size →
    (compactUpTo d m).Pairwise (· < ·) ∧ (∀ x ∈ compactUpTo d m, 0 < m ∧ x ≤ d[m - 1]!) ∧ ∀ x, x ∈ compactUpTo d m ↔ ∃ j, j < m ∧ d[j]! = x
  | 0, _ => by simp [compactUpTo]
  | m + 1, h => by
    obtain ⟨h1, h2, h3⟩ := comp_inv d hs m (by omega)
    rw [compactUpTo_succ]
    by_cases hk : keeps d m = true
    · rw [if_pos hk]
      refine ⟨?_, ?_, fun x => ?_⟩
      · rw [List.pairwise_append]
        refine ⟨h1, List.pairwise_singleton _ _, fun a ha b hb => ?_⟩
        obtain rfl : b = d[m]! := by simpa using hb
        obtain ⟨h4, h5⟩ := h2 a ha
        have h6 := hs (m - 1) m (by omega) (by omega)
        simp only [keeps, decide_eq_true_eq] at hk
        rcases hk with hk | hk
        · omega
        · omega
      · intro x hx
        rw [Nat.add_sub_cancel]
        refine ⟨by omega, ?_⟩
        rcases List.mem_append.1 hx with hx | hx
        · obtain ⟨h4, h5⟩ := h2 x hx
          have := hs (m - 1) m (by omega) (by omega)
          omega
        · have : x = d[m]! := by simpa using hx
          omega
      · rw [List.mem_append, h3, List.mem_singleton]
        constructor
        · rintro (⟨j, hj, e⟩ | e)
          · exact ⟨j, by omega, e⟩
          · exact ⟨m, by omega, e.symm⟩
        · rintro ⟨j, hj, e⟩
          by_cases hjm : j = m
          · subst hjm; exact .inr e.symm
          · exact .inl ⟨j, by omega, e⟩
    · rw [if_neg hk, List.append_nil]
      have hk2 : 0 < m ∧ d[m]! = d[m - 1]! := by
        simp only [keeps, decide_eq_true_eq, not_or, Decidable.not_not] at hk
        omega
      refine ⟨h1, fun x hx => ?_, fun x => ?_⟩
      · rw [Nat.add_sub_cancel, hk2.2]; exact ⟨by omega, (h2 x hx).2⟩
      · rw [h3]
        constructor
        · rintro ⟨j, hj, e⟩; exact ⟨j, by omega, e⟩
        · rintro ⟨j, hj, e⟩
          by_cases hjm : j = m
          · subst hjm; exact ⟨j - 1, by omega, by rw [← hk2.2]; exact e⟩
          · exact ⟨j, by omega, e⟩
theorem compact_props (zs : List Int) (hsort : zs.Pairwise (· ≤ ·)) : (compact zs).Pairwise (· < ·) ∧ ∀ x, x ∈ compact zs ↔ x ∈ zs := by
  obtain ⟨k1, _, k3⟩ := comp_inv zs.toArray (fun i j hij hj => by
    have hj' : j < zs.length := by simpa using hj
    by_cases e : i = j
    · subst e; exact Int.le_refl _
    · have := List.pairwise_iff_getElem.1 hsort i j (by omega) hj' (by omega)
      simpa [getElem!_pos, hj', show i < zs.length by omega] using this) zs.length (by simp)
  refine ⟨k1, fun x => ?_⟩
  unfold compact
  rw [k3, List.mem_iff_getElem]
  constructor
  · rintro ⟨j, hj, e⟩
    exact ⟨j, hj, by simpa [getElem!_pos, hj] using e⟩
  · rintro ⟨j, hj, e⟩
    exact ⟨j, hj, by simpa [getElem!_pos, hj] using e⟩
/-- the different numbers of a list, in order. -/
def diffL (l : List Int) : List Int := compact (l.mergeSort fun x y => decide (x ≤ y))
theorem diffL_props (l : List Int) : (diffL l).Pairwise (· < ·) ∧ ∀ x, x ∈ diffL l ↔ x ∈ l := by
  have hsort : (l.mergeSort fun x y => decide (x ≤ y)).Pairwise (· ≤ ·) :=
    (List.pairwise_mergeSort (fun a b c h1 h2 => by simp only [decide_eq_true_eq] at *; omega) (fun a b => by simp only [Bool.or_eq_true, decide_eq_true_eq]; omega) l).imp fun h => by simpa using h
  obtain ⟨h1, h2⟩ := compact_props _ hsort
  exact ⟨h1, fun x => by rw [diffL, h2, List.mem_mergeSort]⟩
/-- two increasing lists with the same numbers are the same. -/
theorem asc_ext : ∀ (a b : List Int), a.Pairwise (· < ·) → b.Pairwise (· < ·) → (∀ x, x ∈ a ↔ x ∈ b) → a = b
  | [], [], _, _, _ => rfl
  | [], y :: b, _, _, h => by have := (h y).2 (List.mem_cons_self ..); cases this
  | x :: a, [], _, _, h => by have := (h x).1 (List.mem_cons_self ..); cases this
  | x :: a, y :: b, ha, hb, h => by
    obtain ⟨ha1, ha2⟩ := List.pairwise_cons.1 ha
    obtain ⟨hb1, hb2⟩ := List.pairwise_cons.1 hb
    have exy : x = y := by
      rcases List.mem_cons.1 ((h x).1 (List.mem_cons_self ..)) with e | e
      · exact e
      · rcases List.mem_cons.1 ((h y).2 (List.mem_cons_self ..)) with e2 | e2
        · exact e2.symm
        · have := hb1 x e; have := ha1 y e2; omega
    subst exy
    rw [asc_ext a b ha2 hb2 fun z => by
      have := h z
      simp only [List.mem_cons] at this
      constructor
      · intro hz
        have hx := ha1 z hz
        rcases this.1 (.inr hz) with e | e
        · omega
        · exact e
      · intro hz
        have hx := hb1 z hz
        rcases this.2 (.inr hz) with e | e
        · omega
        · exact e]
theorem nodup_le : ∀ (a b : List Int), a.Nodup → (∀ x ∈ a, x ∈ b) → a.length ≤ b.length
  | [], b, _, _ => by simp
  | x :: a, b, hn, h => by
    obtain ⟨n1, n2⟩ := List.nodup_cons.1 hn
    have hx := h x (List.mem_cons_self ..)
    have := nodup_le a (b.erase x) n2 fun y hy => (List.mem_erase_of_ne (fun e => n1 (by rw [← e]; exact hy))).2 (h y (List.mem_cons_of_mem _ hy))
    rw [List.length_erase_of_mem hx] at this
    have := List.length_pos_of_mem hx
    simp; omega
theorem diffL_nodup (l : List Int) : (diffL l).Nodup := (diffL_props l).1.imp fun h => by omega
theorem diffL_length_le (l : List Int) : (diffL l).length ≤ l.length := nodup_le _ _ (diffL_nodup l) fun x hx => ((diffL_props l).2 x).1 hx
/-- as many different numbers as numbers: none comes twice. -/
theorem diffL_length_eq (l : List Int) : (diffL l).length = l.length ↔ l.Nodup := by
  constructor
  · intro h
    refine Classical.byContradiction fun hn => ?_
    have key : ∀ a : List Int, ¬ a.Nodup → ∃ b : List Int, b.length < a.length ∧ ∀ x ∈ a, x ∈ b := by
      intro a
      induction a with
      | nil => intro h; exact absurd List.nodup_nil h
      | cons x a ih =>
        intro h
        by_cases hx : x ∈ a
        · exact ⟨a, by simp, fun y hy => (List.mem_cons.1 hy).elim (fun e => by rw [e]; exact hx) id⟩
        · obtain ⟨b, h1, h2⟩ := ih fun hn => h (List.nodup_cons.2 ⟨hx, hn⟩)
          exact ⟨x :: b, by simp; exact h1, fun y hy => (List.mem_cons.1 hy).elim (fun e => by rw [e]; exact List.mem_cons_self ..) fun hy => List.mem_cons_of_mem _ (h2 y hy)⟩
    obtain ⟨b, h1, h2⟩ := key l hn
    have := nodup_le (diffL l) b (diffL_nodup l) fun x hx => h2 x (((diffL_props l).2 x).1 hx)
    omega
  · intro h
    have h1 := diffL_length_le l
    have h2 := nodup_le l (diffL l) h fun x hx => ((diffL_props l).2 x).2 hx
    omega
end Go.Proofs.Ytoilbeffheijeaa.Diff
