/- slices.Grow of nil at this program, for at most 1048576 more numbers: a row of one's own that holds nothing yet. -/
import Derived.Test.YtbodhioladafnaaDoorSh
import Derived.Test.YtbodhioladafnaaDoorWo0
import Derived.WalkKit
import Derived.RangeFuncBox
namespace Go.Proofs.YtbodhioladafnaaDoor.P
open Go.RowKit Go.Shelf Go.Proofs.YtbodhioladafnaaDoorW.PrintWords Go.Proofs.YtbodhioladafnaaDoorW.PrintMore
set_option linter.unusedVariables false
set_option linter.unusedSimpArgs false
theorem grow_info : (Tryd.prog.info? 3).map (fun i => (i.zero, i.size, i.bytes)) = some (some (.int .i64 0), 1, 8) := by kernel_rfl
theorem grow_calls (n : Int) (h0 : 0 ≤ n) (h1 : n ≤ 1048576) (w : World) :
    Calls Tryd.prog 65 #[.slice none 0 0, .int .i64 n] w fun e w' => ∃ v0_ : Value, e = .returned (v0_) ∧ Kd.R (Kd.int .i64) 3 w' w.heap.size (fun _ => True) v0_ ([] : List Int) ∧ Below w.heap.size w w' := by
  obtain ⟨m, rfl⟩ := Int.eq_ofNat_of_zero_le h0
  by_cases hm : m = 0
  · subst hm
    refine (Any8.slices_Grow_room sh_grow none 0 0 0 w (by omega) (by omega) (by omega) (by omega)).mono ?_
    rintro e w' ⟨rfl, rfl⟩
    exact ⟨_, rfl, Kd.R_nil _ _ _ _ _, Below.refl _ _⟩
  · obtain ⟨i0, hi0, hi1⟩ := Option.map_eq_some_iff.1 grow_info
    obtain ⟨g1, g2, g3⟩ : i0.zero = some (.int .i64 0) ∧ i0.size = 1 ∧ i0.bytes = 8 := by simpa using hi1
    refine (Any8.slices_Grow_grow sh_grow i0 (.int .i64 0) hi0 g1 (by omega) none 0 0 m [] w (by omega) (by omega) (by rw [g3]; omega) (by omega) (by simp) (fun _ => rfl) (fun a ha => by cases ha)).mono ?_
    rintro e w' ⟨rfl, rfl⟩
    have e25 : sh_grow_ren.t 25 = 3 := by rfl
    simp only [e25]
    have hG := grownCap_ge w (0 + m) 0 3
    have hM := grownCap_le_maxLen w (0 + m) 0 3 (by unfold maxLen; omega)
    generalize grownCap w (0 + m) 0 3 = G at hG hM
    refine ⟨_, rfl, ?_, ?_⟩
    · refine Kd.R_of_own (enc := Value.int .i64) ?_ (fun k hk => trivial)
      refine ⟨rfl, .inr ⟨w.heap.size, G, _, rfl, Nat.le_refl _, World.alloc_heap_new w.drew _, by simp, hM, ?_, rfl⟩⟩
      have e1 : (Value.int .i64 0).cells.size = 1 := rfl
      simp [Builtin.zeroCells, e1]
      omega
    · exact below_alloc (pw_below_drewN (Below.refl _ _) 1) _
end Go.Proofs.YtbodhioladafnaaDoor.P
