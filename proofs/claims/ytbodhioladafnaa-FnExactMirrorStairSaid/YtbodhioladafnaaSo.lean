/- slices.Sort of whole numbers at this program, told of a row that the caller owns: it holds the same numbers, sorted; for every row of at most 1048576 numbers. -/
import Derived.Test.YtbodhioladafnaaSh
import Derived.Test.YtbodhioladafnaaWo0
import Derived.WalkKit
import Derived.Lib.SlKeysI
namespace Go.Proofs.Ytbodhioladafnaa.P
open Go.RowKit Go.Shelf Go.Proofs.YtbodhioladafnaaW.PrintWords Go.Proofs.YtbodhioladafnaaW.PrintMore
set_option linter.unusedVariables false
set_option linter.unusedSimpArgs false
def sortL (l : List Int) : List Int := l.mergeSort fun x y => decide (x ≤ y)
theorem sort_calls (P0_ : Nat → Prop) (u : Value) (l0 : List Int) (hl : l0.length ≤ 1048576) (w0 w : World) (hB : Below w0.heap.size w0 w) (ho0 : Kd.R (Kd.int .i64) 3 w w0.heap.size P0_ u l0) :
    Calls Try.prog 28 #[u] w fun e w' => e = .returned (.tuple #[]) ∧ Kd.R (Kd.int .i64) 3 w' w0.heap.size (fun k_ => (P0_ k_ ∨ w.heap.size ≤ k_)) u (sortL l0) ∧ Below w0.heap.size w0 w' ∧ Kept w w' (fun k_ => P0_ k_) := by
  have hrow := Kd.own_of_R ho0
  rcases hrow.2 with ⟨rfl, hz⟩ | ⟨gb, cp, cur, rfl, hbase, hgb, r1, r2, r3, r4⟩
  · have hss : l0 = [] := List.eq_nil_of_length_eq_zero hz
    subst hss
    refine (AnyM.slices_Sort_int_none sh_sort none 0 w).mono ?_
    rintro e w' ⟨rfl, rfl⟩
    exact ⟨rfl, by simpa [sortL] using Kd.R_nil _ _ _ _ _, hB, Kept.refl _ _⟩
  · have hH : Go.Sort.Holds encZ w gb 0 l0.toArray := holds_of_block_i hgb (by rw [Nat.mul_one] at r4; exact r4)
    have hgl : gb < w.heap.size := (Array.getElem?_eq_some_iff.1 hgb).1
    refine (AnyM.slices_Sort_int sh_sort gb 0 cp l0 w hH hgl (by omega)).mono ?_
    rintro e w' ⟨rfl, nn, os, rfl⟩
    have hml : (sortL l0).length = l0.length := by unfold sortL; exact List.length_mergeSort ..
    have hgb' : P0_ gb := ho0.1 gb (by simp [Value.ownBlock])
    refine ⟨rfl, ?_, ?_, ?_⟩
    · refine Kd.R_of_own (enc := Value.int .i64) ?_ (fun k hk => .inl (ho0.1 k hk))
      rw [hml]
      exact ownsRow_sorted_i (by simp) hbase hgb r1 r2 r3
    · exact hB.grown (grownBy_sorted_i _) hB.size (fun j hj => by cases hj; exact hbase)
    · exact Kept.of_grown (grownBy_sorted_i _) (Kept.refl w _) (fun k hk => by cases hk; exact .inl hgb')
end Go.Proofs.Ytbodhioladafnaa.P
