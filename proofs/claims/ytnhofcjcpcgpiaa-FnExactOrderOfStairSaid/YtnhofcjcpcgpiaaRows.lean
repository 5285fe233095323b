/-
  No cell of these rows narrows 'for every input' (looked for: loops, veiled, ifaces, maps, wideKeys, modest, calm, conditions, laid).
  DERIVED. THE GIVEN ROWS OF THIS SEAT. 11 by the template 'for every input the law returns true; each argument reads behind the call as it read before'; 0 by the template 'total and deterministic' (their statements: YtnhofcjcpcgpiaaTotals.lean).
  GIVEN WITH THE SEED: the statements are not yours to turn. If you find one false, say at which input.
  Laid BY PROGRAM, IN A SANDBOX (cutbox-rows.mjs): the forced cells as the released guide's own fill.sh prints them over the translation 6278733311f7c4e7… (all of the seat's roots in one cut). By AI agents, Wed Nov 11 2026. No macro, syntax, notation, axiom, sorry.
-/
import Derived.Test.YtnhofcjcpcgpiaaChecked
import GoSem.Claim
import GoSem.ClaimJoined
import GoSem.ClaimMapViews
import Derived.JoinedTies
import Derived.KernelRfl
namespace Go.Proofs.Ytnhofcjcpcgpiaa
/- THE CELL 'sum', in the pinned program and in every row, IS THE sha256 OF THE DUMP (.gsa) THAT YtnhofcjcpcgpiaaProg.lean LOADS. Nothing in Lean hashes anything: it is a label: what it is worth is what the hold of that sum in a sandbox is worth. -/
noncomputable def Try.pinned : Pinned := { name := "ytnhofcjcpcgpiaa", sum := "6278733311f7c4e7c581db1b992680b573d511d56a35cd0bb33a420dd15cedfb", checked := Try.checked }
namespace Rows
def none {H : Type} : Left H := { results := [], args := [] }

/-- 'laws.FnExactConstants': WHATEVER THE INPUT: true; the input reads as it did. -/
def fnExactConstantsSpec : ChangeSpec := { name := "fnExactConstants", fn := fun _ => fun
  | [] => { results := [.lit (.bool true)], args := [] }
  | _ => none }
def fnExactConstantsRow : OpenClaim := { program := "ytnhofcjcpcgpiaa", sum := "6278733311f7c4e7c581db1b992680b573d511d56a35cd0bb33a420dd15cedfb", func := "loop.example/g01106/laws.FnExactConstants", spec := "fnExactConstants", apart := false }
def FnExactConstantsSaid : Prop := fnExactConstantsRow.holds Try.pinned (OpenSpec.ofChange fnExactConstantsSpec)

/-- ITS FALSE NEIGHBOUR: 'it returns false'. Refute it at one input. -/
def fnExactConstantsWrong : ChangeSpec := { name := "fnExactConstants", fn := fun _ => fun
  | [] => { results := [.lit (.bool false)], args := [] }
  | _ => none }
def FnExactConstantsWrongFalsely : Prop := fnExactConstantsRow.holds Try.pinned (OpenSpec.ofChange fnExactConstantsWrong)

/-- 'laws.FnExactIsStair': WHATEVER THE INPUT: true; the input reads as it did. -/
def fnExactIsStairSpec : ChangeSpec := { name := "fnExactIsStair", fn := fun _ => fun
  | [d] => { results := [.lit (.bool true)], args := [d] }
  | _ => none }
def fnExactIsStairRow : OpenClaim := { program := "ytnhofcjcpcgpiaa", sum := "6278733311f7c4e7c581db1b992680b573d511d56a35cd0bb33a420dd15cedfb", func := "loop.example/g01106/laws.FnExactIsStair", spec := "fnExactIsStair", apart := false }
def FnExactIsStairSaid : Prop := fnExactIsStairRow.holds Try.pinned (OpenSpec.ofChange fnExactIsStairSpec)

/-- ITS FALSE NEIGHBOUR: 'it returns false'. Refute it at one input. -/
def fnExactIsStairWrong : ChangeSpec := { name := "fnExactIsStair", fn := fun _ => fun
  | [d] => { results := [.lit (.bool false)], args := [d] }
  | _ => none }
def FnExactIsStairWrongFalsely : Prop := fnExactIsStairRow.holds Try.pinned (OpenSpec.ofChange fnExactIsStairWrong)

/-- 'laws.FnExactCountStairs': WHATEVER THE INPUT: true; the input reads as it did. -/
def fnExactCountStairsSpec : ChangeSpec := { name := "fnExactCountStairs", fn := fun _ => fun
  | [d] => { results := [.lit (.bool true)], args := [d] }
  | _ => none }
def fnExactCountStairsRow : OpenClaim := { program := "ytnhofcjcpcgpiaa", sum := "6278733311f7c4e7c581db1b992680b573d511d56a35cd0bb33a420dd15cedfb", func := "loop.example/g01106/laws.FnExactCountStairs", spec := "fnExactCountStairs", recurses := true, apart := false }
def FnExactCountStairsSaid : Prop := fnExactCountStairsRow.holds Try.pinned (OpenSpec.ofChange fnExactCountStairsSpec)

/-- ITS FALSE NEIGHBOUR: 'it returns false'. Refute it at one input. -/
def fnExactCountStairsWrong : ChangeSpec := { name := "fnExactCountStairs", fn := fun _ => fun
  | [d] => { results := [.lit (.bool false)], args := [d] }
  | _ => none }
def FnExactCountStairsWrongFalsely : Prop := fnExactCountStairsRow.holds Try.pinned (OpenSpec.ofChange fnExactCountStairsWrong)

/-- 'laws.FnExactAreIntervals': WHATEVER THE INPUT: true; the input reads as it did. -/
def fnExactAreIntervalsSpec : ChangeSpec := { name := "fnExactAreIntervals", fn := fun _ => fun
  | [d] => { results := [.lit (.bool true)], args := [d] }
  | _ => none }
def fnExactAreIntervalsRow : OpenClaim := { program := "ytnhofcjcpcgpiaa", sum := "6278733311f7c4e7c581db1b992680b573d511d56a35cd0bb33a420dd15cedfb", func := "loop.example/g01106/laws.FnExactAreIntervals", spec := "fnExactAreIntervals", apart := false }
def FnExactAreIntervalsSaid : Prop := fnExactAreIntervalsRow.holds Try.pinned (OpenSpec.ofChange fnExactAreIntervalsSpec)

/-- ITS FALSE NEIGHBOUR: 'it returns false'. Refute it at one input. -/
def fnExactAreIntervalsWrong : ChangeSpec := { name := "fnExactAreIntervals", fn := fun _ => fun
  | [d] => { results := [.lit (.bool false)], args := [d] }
  | _ => none }
def FnExactAreIntervalsWrongFalsely : Prop := fnExactAreIntervalsRow.holds Try.pinned (OpenSpec.ofChange fnExactAreIntervalsWrong)

/-- 'laws.FnExactIsRelation': WHATEVER THE INPUT: true; the input reads as it did. -/
def fnExactIsRelationSpec : ChangeSpec := { name := "fnExactIsRelation", fn := fun _ => fun
  | [d] => { results := [.lit (.bool true)], args := [d] }
  | _ => none }
def fnExactIsRelationRow : OpenClaim := { program := "ytnhofcjcpcgpiaa", sum := "6278733311f7c4e7c581db1b992680b573d511d56a35cd0bb33a420dd15cedfb", func := "loop.example/g01106/laws.FnExactIsRelation", spec := "fnExactIsRelation", apart := false }
def FnExactIsRelationSaid : Prop := fnExactIsRelationRow.holds Try.pinned (OpenSpec.ofChange fnExactIsRelationSpec)

/-- ITS FALSE NEIGHBOUR: 'it returns false'. Refute it at one input. -/
def fnExactIsRelationWrong : ChangeSpec := { name := "fnExactIsRelation", fn := fun _ => fun
  | [d] => { results := [.lit (.bool false)], args := [d] }
  | _ => none }
def FnExactIsRelationWrongFalsely : Prop := fnExactIsRelationRow.holds Try.pinned (OpenSpec.ofChange fnExactIsRelationWrong)

/-- 'laws.FnExactIsBetter': WHATEVER THE INPUT: true; the input reads as it did. -/
def fnExactIsBetterSpec : ChangeSpec := { name := "fnExactIsBetter", fn := fun _ => fun
  | [d1, d2, d3] => { results := [.lit (.bool true)], args := [d1, d2, d3] }
  | _ => none }
def fnExactIsBetterRow : OpenClaim := { program := "ytnhofcjcpcgpiaa", sum := "6278733311f7c4e7c581db1b992680b573d511d56a35cd0bb33a420dd15cedfb", func := "loop.example/g01106/laws.FnExactIsBetter", spec := "fnExactIsBetter", apart := false }
def FnExactIsBetterSaid : Prop := fnExactIsBetterRow.holds Try.pinned (OpenSpec.ofChange fnExactIsBetterSpec)

/-- ITS FALSE NEIGHBOUR: 'it returns false'. Refute it at one input. -/
def fnExactIsBetterWrong : ChangeSpec := { name := "fnExactIsBetter", fn := fun _ => fun
  | [d1, d2, d3] => { results := [.lit (.bool false)], args := [d1, d2, d3] }
  | _ => none }
def FnExactIsBetterWrongFalsely : Prop := fnExactIsBetterRow.holds Try.pinned (OpenSpec.ofChange fnExactIsBetterWrong)

/-- 'laws.FnExactMirrorIntervals': WHATEVER THE INPUT: true; the input reads as it did. -/
def fnExactMirrorIntervalsSpec : ChangeSpec := { name := "fnExactMirrorIntervals", fn := fun _ => fun
  | [d] => { results := [.lit (.bool true)], args := [d] }
  | _ => none }
def fnExactMirrorIntervalsRow : OpenClaim := { program := "ytnhofcjcpcgpiaa", sum := "6278733311f7c4e7c581db1b992680b573d511d56a35cd0bb33a420dd15cedfb", func := "loop.example/g01106/laws.FnExactMirrorIntervals", spec := "fnExactMirrorIntervals", apart := false }
def FnExactMirrorIntervalsSaid : Prop := fnExactMirrorIntervalsRow.holds Try.pinned (OpenSpec.ofChange fnExactMirrorIntervalsSpec)

/-- ITS FALSE NEIGHBOUR: 'it returns false'. Refute it at one input. -/
def fnExactMirrorIntervalsWrong : ChangeSpec := { name := "fnExactMirrorIntervals", fn := fun _ => fun
  | [d] => { results := [.lit (.bool false)], args := [d] }
  | _ => none }
def FnExactMirrorIntervalsWrongFalsely : Prop := fnExactMirrorIntervalsRow.holds Try.pinned (OpenSpec.ofChange fnExactMirrorIntervalsWrong)

/-- 'laws.FnExactOrderOfStair': WHATEVER THE INPUT: true; the input reads as it did. -/
def fnExactOrderOfStairSpec : ChangeSpec := { name := "fnExactOrderOfStair", fn := fun _ => fun
  | [d] => { results := [.lit (.bool true)], args := [d] }
  | _ => none }
def fnExactOrderOfStairRow : OpenClaim := { program := "ytnhofcjcpcgpiaa", sum := "6278733311f7c4e7c581db1b992680b573d511d56a35cd0bb33a420dd15cedfb", func := "loop.example/g01106/laws.FnExactOrderOfStair", spec := "fnExactOrderOfStair", unfollowed := true, recurses := true, apart := false }
def FnExactOrderOfStairSaid : Prop := fnExactOrderOfStairRow.holds Try.pinned (OpenSpec.ofChange fnExactOrderOfStairSpec)

/-- ITS FALSE NEIGHBOUR: 'it returns false'. Refute it at one input. -/
def fnExactOrderOfStairWrong : ChangeSpec := { name := "fnExactOrderOfStair", fn := fun _ => fun
  | [d] => { results := [.lit (.bool false)], args := [d] }
  | _ => none }
def FnExactOrderOfStairWrongFalsely : Prop := fnExactOrderOfStairRow.holds Try.pinned (OpenSpec.ofChange fnExactOrderOfStairWrong)

/-- 'laws.FnExactStairsOf': WHATEVER THE INPUT: true; the input reads as it did. -/
def fnExactStairsOfSpec : ChangeSpec := { name := "fnExactStairsOf", fn := fun _ => fun
  | [d] => { results := [.lit (.bool true)], args := [d] }
  | _ => none }
def fnExactStairsOfRow : OpenClaim := { program := "ytnhofcjcpcgpiaa", sum := "6278733311f7c4e7c581db1b992680b573d511d56a35cd0bb33a420dd15cedfb", func := "loop.example/g01106/laws.FnExactStairsOf", spec := "fnExactStairsOf", recurses := true, apart := false }
def FnExactStairsOfSaid : Prop := fnExactStairsOfRow.holds Try.pinned (OpenSpec.ofChange fnExactStairsOfSpec)

/-- ITS FALSE NEIGHBOUR: 'it returns false'. Refute it at one input. -/
def fnExactStairsOfWrong : ChangeSpec := { name := "fnExactStairsOf", fn := fun _ => fun
  | [d] => { results := [.lit (.bool false)], args := [d] }
  | _ => none }
def FnExactStairsOfWrongFalsely : Prop := fnExactStairsOfRow.holds Try.pinned (OpenSpec.ofChange fnExactStairsOfWrong)

/-- 'laws.FnExactOrderOfPlaces': WHATEVER THE INPUT: true; the input reads as it did. -/
def fnExactOrderOfPlacesSpec : ChangeSpec := { name := "fnExactOrderOfPlaces", fn := fun _ => fun
  | [d1, d2] => { results := [.lit (.bool true)], args := [d1, d2] }
  | _ => none }
def fnExactOrderOfPlacesRow : OpenClaim := { program := "ytnhofcjcpcgpiaa", sum := "6278733311f7c4e7c581db1b992680b573d511d56a35cd0bb33a420dd15cedfb", func := "loop.example/g01106/laws.FnExactOrderOfPlaces", spec := "fnExactOrderOfPlaces", unfollowed := true, recurses := true, apart := false }
def FnExactOrderOfPlacesSaid : Prop := fnExactOrderOfPlacesRow.holds Try.pinned (OpenSpec.ofChange fnExactOrderOfPlacesSpec)

/-- ITS FALSE NEIGHBOUR: 'it returns false'. Refute it at one input. -/
def fnExactOrderOfPlacesWrong : ChangeSpec := { name := "fnExactOrderOfPlaces", fn := fun _ => fun
  | [d1, d2] => { results := [.lit (.bool false)], args := [d1, d2] }
  | _ => none }
def FnExactOrderOfPlacesWrongFalsely : Prop := fnExactOrderOfPlacesRow.holds Try.pinned (OpenSpec.ofChange fnExactOrderOfPlacesWrong)

/-- 'laws.FnExactBelowOf': WHATEVER THE INPUT: true; the input reads as it did. -/
def fnExactBelowOfSpec : ChangeSpec := { name := "fnExactBelowOf", fn := fun _ => fun
  | [d1, d2] => { results := [.lit (.bool true)], args := [d1, d2] }
  | _ => none }
def fnExactBelowOfRow : OpenClaim := { program := "ytnhofcjcpcgpiaa", sum := "6278733311f7c4e7c581db1b992680b573d511d56a35cd0bb33a420dd15cedfb", func := "loop.example/g01106/laws.FnExactBelowOf", spec := "fnExactBelowOf", unfollowed := true, recurses := true, apart := false }
def FnExactBelowOfSaid : Prop := fnExactBelowOfRow.holds Try.pinned (OpenSpec.ofChange fnExactBelowOfSpec)

/-- ITS FALSE NEIGHBOUR: 'it returns false'. Refute it at one input. -/
def fnExactBelowOfWrong : ChangeSpec := { name := "fnExactBelowOf", fn := fun _ => fun
  | [d1, d2] => { results := [.lit (.bool false)], args := [d1, d2] }
  | _ => none }
def FnExactBelowOfWrongFalsely : Prop := fnExactBelowOfRow.holds Try.pinned (OpenSpec.ofChange fnExactBelowOfWrong)

/- THE SECOND FORM. 'bulk': how many values and letters a reading holds, each counted each time it is reached (what is shared counts as often as it is met; a slice's spare places count too). A statement '..UptoSaid' is the law's where the arguments, and the package variables that the reading takes, are together of bulk at most 1048576: NARROWER than '..Said'. Prove '..Said' where nothing that the law and all that it calls make is longer than what came in: it says more and counts as full. Else prove '..UptoSaid'. A law counts once. -/
mutual
def uptoBulk {H : Type} : DataW H → Nat
  | .lit (.string bytes) => bytes.length + 1
  | .lit _ => 1
  | .nil => 1
  | .ptr d => uptoBulk d + 1
  | .slice elems spare => uptoBulkAll elems + uptoBulkAll spare + 1
  | .agg parts => uptoBulkAll parts + 1
  | .iface _ d => uptoBulk d + 1
  | .map entries => uptoBulkEntries entries + 1
  | .held _ => 1
def uptoBulkAll {H : Type} : List (DataW H) → Nat
  | [] => 0
  | d :: r => uptoBulk d + uptoBulkAll r
def uptoBulkEntries {H : Type} : List (Lit × DataW H) → Nat
  | [] => 0
  | x :: r => uptoBulkEntry x + uptoBulkEntries r
def uptoBulkEntry {H : Type} : Lit × DataW H → Nat
  | (.string bytes, d) => bytes.length + uptoBulk d + 1
  | (_, d) => uptoBulk d + 1
 end
def uptoSmall : (H : Type) → List (DataW H) → Bool := fun _ ds => decide (uptoBulkAll ds ≤ 1048576)
def OpenSpec.upto (s : _root_.Go.ChangeSpec) : _root_.Go.OpenSpec := { _root_.Go.OpenSpec.ofChange s with cond := some uptoSmall }

/-- 'laws.FnExactConstants', WHERE WHAT IT READS IS OF BULK AT MOST 1048576: true; the input reads as it did. -/
def fnExactConstantsUptoRow : OpenClaim := { program := "ytnhofcjcpcgpiaa", sum := "6278733311f7c4e7c581db1b992680b573d511d56a35cd0bb33a420dd15cedfb", func := "loop.example/g01106/laws.FnExactConstants", spec := "fnExactConstants", apart := false, narrowed := true }
def FnExactConstantsUptoSaid : Prop := fnExactConstantsUptoRow.holds Try.pinned (OpenSpec.upto fnExactConstantsSpec)

/-- 'laws.FnExactIsStair', WHERE WHAT IT READS IS OF BULK AT MOST 1048576: true; the input reads as it did. -/
def fnExactIsStairUptoRow : OpenClaim := { program := "ytnhofcjcpcgpiaa", sum := "6278733311f7c4e7c581db1b992680b573d511d56a35cd0bb33a420dd15cedfb", func := "loop.example/g01106/laws.FnExactIsStair", spec := "fnExactIsStair", apart := false, narrowed := true }
def FnExactIsStairUptoSaid : Prop := fnExactIsStairUptoRow.holds Try.pinned (OpenSpec.upto fnExactIsStairSpec)

/-- 'laws.FnExactCountStairs', WHERE WHAT IT READS IS OF BULK AT MOST 1048576: true; the input reads as it did. -/
def fnExactCountStairsUptoRow : OpenClaim := { program := "ytnhofcjcpcgpiaa", sum := "6278733311f7c4e7c581db1b992680b573d511d56a35cd0bb33a420dd15cedfb", func := "loop.example/g01106/laws.FnExactCountStairs", spec := "fnExactCountStairs", recurses := true, apart := false, narrowed := true }
def FnExactCountStairsUptoSaid : Prop := fnExactCountStairsUptoRow.holds Try.pinned (OpenSpec.upto fnExactCountStairsSpec)

/-- 'laws.FnExactAreIntervals', WHERE WHAT IT READS IS OF BULK AT MOST 1048576: true; the input reads as it did. -/
def fnExactAreIntervalsUptoRow : OpenClaim := { program := "ytnhofcjcpcgpiaa", sum := "6278733311f7c4e7c581db1b992680b573d511d56a35cd0bb33a420dd15cedfb", func := "loop.example/g01106/laws.FnExactAreIntervals", spec := "fnExactAreIntervals", apart := false, narrowed := true }
def FnExactAreIntervalsUptoSaid : Prop := fnExactAreIntervalsUptoRow.holds Try.pinned (OpenSpec.upto fnExactAreIntervalsSpec)

/-- 'laws.FnExactIsRelation', WHERE WHAT IT READS IS OF BULK AT MOST 1048576: true; the input reads as it did. -/
def fnExactIsRelationUptoRow : OpenClaim := { program := "ytnhofcjcpcgpiaa", sum := "6278733311f7c4e7c581db1b992680b573d511d56a35cd0bb33a420dd15cedfb", func := "loop.example/g01106/laws.FnExactIsRelation", spec := "fnExactIsRelation", apart := false, narrowed := true }
def FnExactIsRelationUptoSaid : Prop := fnExactIsRelationUptoRow.holds Try.pinned (OpenSpec.upto fnExactIsRelationSpec)

/-- 'laws.FnExactIsBetter', WHERE WHAT IT READS IS OF BULK AT MOST 1048576: true; the input reads as it did. -/
def fnExactIsBetterUptoRow : OpenClaim := { program := "ytnhofcjcpcgpiaa", sum := "6278733311f7c4e7c581db1b992680b573d511d56a35cd0bb33a420dd15cedfb", func := "loop.example/g01106/laws.FnExactIsBetter", spec := "fnExactIsBetter", apart := false, narrowed := true }
def FnExactIsBetterUptoSaid : Prop := fnExactIsBetterUptoRow.holds Try.pinned (OpenSpec.upto fnExactIsBetterSpec)

/-- 'laws.FnExactMirrorIntervals', WHERE WHAT IT READS IS OF BULK AT MOST 1048576: true; the input reads as it did. -/
def fnExactMirrorIntervalsUptoRow : OpenClaim := { program := "ytnhofcjcpcgpiaa", sum := "6278733311f7c4e7c581db1b992680b573d511d56a35cd0bb33a420dd15cedfb", func := "loop.example/g01106/laws.FnExactMirrorIntervals", spec := "fnExactMirrorIntervals", apart := false, narrowed := true }
def FnExactMirrorIntervalsUptoSaid : Prop := fnExactMirrorIntervalsUptoRow.holds Try.pinned (OpenSpec.upto fnExactMirrorIntervalsSpec)

/-- 'laws.FnExactOrderOfStair', WHERE WHAT IT READS IS OF BULK AT MOST 1048576: true; the input reads as it did. -/
def fnExactOrderOfStairUptoRow : OpenClaim := { program := "ytnhofcjcpcgpiaa", sum := "6278733311f7c4e7c581db1b992680b573d511d56a35cd0bb33a420dd15cedfb", func := "loop.example/g01106/laws.FnExactOrderOfStair", spec := "fnExactOrderOfStair", unfollowed := true, recurses := true, apart := false, narrowed := true }
def FnExactOrderOfStairUptoSaid : Prop := fnExactOrderOfStairUptoRow.holds Try.pinned (OpenSpec.upto fnExactOrderOfStairSpec)

/-- 'laws.FnExactStairsOf', WHERE WHAT IT READS IS OF BULK AT MOST 1048576: true; the input reads as it did. -/
def fnExactStairsOfUptoRow : OpenClaim := { program := "ytnhofcjcpcgpiaa", sum := "6278733311f7c4e7c581db1b992680b573d511d56a35cd0bb33a420dd15cedfb", func := "loop.example/g01106/laws.FnExactStairsOf", spec := "fnExactStairsOf", recurses := true, apart := false, narrowed := true }
def FnExactStairsOfUptoSaid : Prop := fnExactStairsOfUptoRow.holds Try.pinned (OpenSpec.upto fnExactStairsOfSpec)

/-- 'laws.FnExactOrderOfPlaces', WHERE WHAT IT READS IS OF BULK AT MOST 1048576: true; the input reads as it did. -/
def fnExactOrderOfPlacesUptoRow : OpenClaim := { program := "ytnhofcjcpcgpiaa", sum := "6278733311f7c4e7c581db1b992680b573d511d56a35cd0bb33a420dd15cedfb", func := "loop.example/g01106/laws.FnExactOrderOfPlaces", spec := "fnExactOrderOfPlaces", unfollowed := true, recurses := true, apart := false, narrowed := true }
def FnExactOrderOfPlacesUptoSaid : Prop := fnExactOrderOfPlacesUptoRow.holds Try.pinned (OpenSpec.upto fnExactOrderOfPlacesSpec)

/-- 'laws.FnExactBelowOf', WHERE WHAT IT READS IS OF BULK AT MOST 1048576: true; the input reads as it did. -/
def fnExactBelowOfUptoRow : OpenClaim := { program := "ytnhofcjcpcgpiaa", sum := "6278733311f7c4e7c581db1b992680b573d511d56a35cd0bb33a420dd15cedfb", func := "loop.example/g01106/laws.FnExactBelowOf", spec := "fnExactBelowOf", unfollowed := true, recurses := true, apart := false, narrowed := true }
def FnExactBelowOfUptoSaid : Prop := fnExactBelowOfUptoRow.holds Try.pinned (OpenSpec.upto fnExactBelowOfSpec)

end Rows
end Go.Proofs.Ytnhofcjcpcgpiaa
