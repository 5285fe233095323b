/- The row of the law FnExactAreLeastEnds: for every input that can be read it returns true and leaves its arguments as they were; no further condition. -/
import Derived.Test.YtoilbeffheijeaaRows
import Derived.Test.YtoilbeffheijeaaPx15
import Derived.Test.YtoilbeffheijeaaMeFnExactAreLeastEnds
import Derived.Test.YtoilbeffheijeaaRowLib
import Derived.WalkKit
import Derived.ProofKit
import Derived.OpenShut
import Derived.ShutString
import Derived.ChangeOld
import Derived.Below
import Derived.SizedLaws
import Derived.Carry
namespace Go.Proofs.Ytoilbeffheijeaa.fnExactAreLeastEnds
open Go.ChangeShapes Go.WideShapes Go.ChangeAt Go.RowKit
open Go.ChangeMaps (open_string shut_string)
open Go.Proofs.YtoilbeffheijeaaW.PrintWords Go.Proofs.YtoilbeffheijeaaW.PrintLast Go.Proofs.YtoilbeffheijeaaW.PrintMore
set_option linter.unusedVariables false
set_option linter.unusedSimpArgs false
theorem own : ownKnob Try.prog.godebug = none := by kernel_rfl
theorem laidOut : laidOutB Try.prog = true := by kernel_rfl
set_option maxRecDepth 100000 in
theorem lifted (os : Os) (started : os.Started) (H : Type) (enc : TypeId × Value → H) :
    ReturnsInHanded {} Try.checked os 3 .any (Rows.fnExactAreLeastEndsSpec.pre6 enc Try.prog Try.f3 Rows.fnExactAreLeastEndsRow.domain false) (Rows.fnExactAreLeastEndsSpec.post enc Try.prog Try.f3 false true false false) := by
  refine returnsInHanded_of_change_sized (C := Try.checked) own started (by kernel_rfl) Try.func3
    (ChangeSpec.witness6 (enc := enc) (C := Try.checked) false ⟨#[], #[.slice none 0 0], []⟩ 8 (by kernel_rfl) (by kernel_rfl) (by kernel_rfl) (by kernel_rfl)) ?_
  intro W base args ds gs before hval0 hW hcnd hsz0 _
  have hsz : (DataW.weightsEach Try.prog (Try.f3.params.toList ++ Rows.fnExactAreLeastEndsSpec.plain.varTypes Try.prog) (ds ++ gs)).all (· ≤ reachBytes) = true := hsz0
  have hval : ∀ (j : Nat) t v, Try.f3.params[j]? = some t → args[j]? = some v → Value.okWide Try.prog W .any base t v := hval0
  have hW' := hW
  obtain ⟨p, q, hA0, hV, rfl, hfz, hnd⟩ := hW
  have hA : DataW.TrodAll enc Try.prog W 0 (fun _ => true) true Try.f3.params.toList args.toList ds p := hA0
  rw [Try.params3] at hA hval hsz
  obtain ⟨v0, vs0, d0, ds0, p0, q0, hargs, rfl, rfl, h0, r0⟩ := trodAll_cons hA
  obtain ⟨rfl, rfl, rfl⟩ := trodAll_nil r0
  obtain rfl : args = #[v0] := by cases args; simp_all
  obtain ⟨rfl, rfl⟩ := trodVars_none hV
  have k0 := h0
  have lt0 : ∀ x ∈ p0, x.block < W.heap.size := by obtain ⟨m, hm⟩ := k0; exact DataW.trod_lt m _ _ _ hm
  obtain ⟨A0, c0, l0, rfl, hr0, hc0, m0, w0⟩ := R.open_pairs_arg Try.underlying22 Try.underlying39 (by kernel_rfl) (by kernel_rfl) Try.underlying3 Try.underlying3 (hval 0 22 v0 rfl rfl) h0
  obtain ⟨y0, hy0⟩ : ∃ y, y = l0.map (fun q : Int × Int => (⟨q.1, q.2⟩ : P.S39)) := ⟨_, rfl⟩
  have hl0 : l0.length = y0.length := by rw [hy0, List.length_map]
  have hs0 : Kd.C P.k39 W A0 l0.length y0 := by rw [hy0]; exact R.C_iso (d := R.pairK) (f := fun x : P.S39 => (x.f0, x.f1)) (g := fun q : Int × Int => (⟨q.1, q.2⟩ : P.S39)) (fun _ => rfl) hr0
  have ww0 : ∀ x ∈ y0, R.wf x.f0 ∧ R.wf x.f1 := by rw [hy0]; intro x hx; obtain ⟨q, hq, rfl⟩ := List.mem_map.1 hx; exact w0 q hq
  rw [hl0] at hs0 hc0 m0 k0 hW' ⊢
  clear hy0 w0 hr0
  clear hA0 hval0 hsz0 hsz
  obtain ⟨k, h⟩ := P.FnExactAreLeastEnds_pure y0 m0 ww0
  refine (P.laws_FnExactAreLeastEnds.calls k _ _ y0 true W hs0 hc0 h).mono fun e W' ⟨he, bel0⟩ => ?_
  subst he
  have bel : Below W.heap.size W W' := bel0
  exact ⟨_, rfl, _, _, _, [], _, [], hW', trodAll_mk1 (shut_bool Try.underlying4 _), (trodAll_cons_mk (Below.trod laidOut (by kernel_rfl) (of_decide_eq_true (by kernel_rfl)) k0 bel lt0) trodAll_mk0), rfl, bel.frame _, fun h => by cases h⟩
theorem over : Rows.fnExactAreLeastEndsRow.holds Try.pinned (OpenSpec.ofChange Rows.fnExactAreLeastEndsSpec) :=
  OpenClaim.holds_of_wide 3 Try.f3 rfl rfl rfl rfl rfl rfl rfl ⟨rfl, rfl, rfl, rfl, rfl⟩ rfl rfl rfl rfl rfl (by kernel_rfl) Try.func3 (by kernel_rfl)
    (of_decide_eq_true (by kernel_rfl)) (by unfold Func.isWrapper; first | (rw [if_pos (by decide +kernel)]; kernel_rfl) | (rw [if_neg (by decide +kernel)]; exact ⟨rfl, rfl⟩))
    (fun os started H enc _ => lifted os started H enc)
theorem proved : Rows.FnExactAreLeastEndsSaid := over
#print axioms proved
end Go.Proofs.Ytoilbeffheijeaa.fnExactAreLeastEnds
namespace Go.Proofs.Ytoilbeffheijeaa
/-- The row, under a short name, for the claim. -/
theorem fnExactAreLeastEnds_holds : Rows.FnExactAreLeastEndsSaid := fnExactAreLeastEnds.proved
end Go.Proofs.Ytoilbeffheijeaa
