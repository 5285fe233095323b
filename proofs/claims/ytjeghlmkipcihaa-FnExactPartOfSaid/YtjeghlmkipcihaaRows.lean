/-
  No cell of these rows narrows 'for every input' (looked for: loops, veiled, ifaces, maps, wideKeys, modest, calm, conditions, laid).
  DERIVED. THE GIVEN ROWS OF THIS SEAT. 8 by the template 'for every input the law returns true; each argument reads behind the call as it read before'; 0 by the template 'total and deterministic' (their statements: YtjeghlmkipcihaaTotals.lean).
  GIVEN WITH THE SEED: the statements are not yours to turn. If you find one false, say at which input.
  Laid BY PROGRAM, IN A SANDBOX (cutbox-rows.mjs): the forced cells as the released guide's own fill.sh prints them over the translation c86bf8356a1f0b20… (all of the seat's roots in one cut). By AI agents, Wed Nov 11 2026. No macro, syntax, notation, axiom, sorry.
-/
import Derived.Test.YtjeghlmkipcihaaChecked
import GoSem.Claim
import GoSem.ClaimJoined
import GoSem.ClaimMapViews
import Derived.JoinedTies
import Derived.KernelRfl
namespace Go.Proofs.Ytjeghlmkipcihaa
/- THE CELL 'sum', in the pinned program and in every row, IS THE sha256 OF THE DUMP (.gsa) THAT YtjeghlmkipcihaaProg.lean LOADS. Nothing in Lean hashes anything: it is a label: what it is worth is what the hold of that sum in a sandbox is worth. -/
noncomputable def Try.pinned : Pinned := { name := "ytjeghlmkipcihaa", sum := "c86bf8356a1f0b20dcd5b879f20c6a337377ab092c51cfe019d3303b99cd08a4", checked := Try.checked }
namespace Rows
def none {H : Type} : Left H := { results := [], args := [] }

/-- 'laws.FnExactStretchIntervals': WHATEVER THE INPUT: true; the input reads as it did. -/
def fnExactStretchIntervalsSpec : ChangeSpec := { name := "fnExactStretchIntervals", fn := fun _ => fun
  | [d1, d2, d3] => { results := [.lit (.bool true)], args := [d1, d2, d3] }
  | _ => none }
def fnExactStretchIntervalsRow : OpenClaim := { program := "ytjeghlmkipcihaa", sum := "c86bf8356a1f0b20dcd5b879f20c6a337377ab092c51cfe019d3303b99cd08a4", func := "loop.example/g01106/laws.FnExactStretchIntervals", spec := "fnExactStretchIntervals", unfollowed := true, recurses := true, apart := false }
def FnExactStretchIntervalsSaid : Prop := fnExactStretchIntervalsRow.holds Try.pinned (OpenSpec.ofChange fnExactStretchIntervalsSpec)

/-- ITS FALSE NEIGHBOUR: 'it returns false'. Refute it at one input. -/
def fnExactStretchIntervalsWrong : ChangeSpec := { name := "fnExactStretchIntervals", fn := fun _ => fun
  | [d1, d2, d3] => { results := [.lit (.bool false)], args := [d1, d2, d3] }
  | _ => none }
def FnExactStretchIntervalsWrongFalsely : Prop := fnExactStretchIntervalsRow.holds Try.pinned (OpenSpec.ofChange fnExactStretchIntervalsWrong)

/-- 'laws.FnExactIndifferentTo': WHATEVER THE INPUT: true; the input reads as it did. -/
def fnExactIndifferentToSpec : ChangeSpec := { name := "fnExactIndifferentTo", fn := fun _ => fun
  | [d1, d2] => { results := [.lit (.bool true)], args := [d1, d2] }
  | _ => none }
def fnExactIndifferentToRow : OpenClaim := { program := "ytjeghlmkipcihaa", sum := "c86bf8356a1f0b20dcd5b879f20c6a337377ab092c51cfe019d3303b99cd08a4", func := "loop.example/g01106/laws.FnExactIndifferentTo", spec := "fnExactIndifferentTo", unfollowed := true, recurses := true, apart := false }
def FnExactIndifferentToSaid : Prop := fnExactIndifferentToRow.holds Try.pinned (OpenSpec.ofChange fnExactIndifferentToSpec)

/-- ITS FALSE NEIGHBOUR: 'it returns false'. Refute it at one input. -/
def fnExactIndifferentToWrong : ChangeSpec := { name := "fnExactIndifferentTo", fn := fun _ => fun
  | [d1, d2] => { results := [.lit (.bool false)], args := [d1, d2] }
  | _ => none }
def FnExactIndifferentToWrongFalsely : Prop := fnExactIndifferentToRow.holds Try.pinned (OpenSpec.ofChange fnExactIndifferentToWrong)

/-- 'laws.FnExactCloseRelation': WHATEVER THE INPUT: true; the input reads as it did. -/
def fnExactCloseRelationSpec : ChangeSpec := { name := "fnExactCloseRelation", fn := fun _ => fun
  | [d] => { results := [.lit (.bool true)], args := [d] }
  | _ => none }
def fnExactCloseRelationRow : OpenClaim := { program := "ytjeghlmkipcihaa", sum := "c86bf8356a1f0b20dcd5b879f20c6a337377ab092c51cfe019d3303b99cd08a4", func := "loop.example/g01106/laws.FnExactCloseRelation", spec := "fnExactCloseRelation", apart := false }
def FnExactCloseRelationSaid : Prop := fnExactCloseRelationRow.holds Try.pinned (OpenSpec.ofChange fnExactCloseRelationSpec)

/-- ITS FALSE NEIGHBOUR: 'it returns false'. Refute it at one input. -/
def fnExactCloseRelationWrong : ChangeSpec := { name := "fnExactCloseRelation", fn := fun _ => fun
  | [d] => { results := [.lit (.bool false)], args := [d] }
  | _ => none }
def FnExactCloseRelationWrongFalsely : Prop := fnExactCloseRelationRow.holds Try.pinned (OpenSpec.ofChange fnExactCloseRelationWrong)

/-- 'laws.FnExactMirrorOf': WHATEVER THE INPUT: true; the input reads as it did. -/
def fnExactMirrorOfSpec : ChangeSpec := { name := "fnExactMirrorOf", fn := fun _ => fun
  | [d] => { results := [.lit (.bool true)], args := [d] }
  | _ => none }
def fnExactMirrorOfRow : OpenClaim := { program := "ytjeghlmkipcihaa", sum := "c86bf8356a1f0b20dcd5b879f20c6a337377ab092c51cfe019d3303b99cd08a4", func := "loop.example/g01106/laws.FnExactMirrorOf", spec := "fnExactMirrorOf", unfollowed := true, recurses := true, apart := false }
def FnExactMirrorOfSaid : Prop := fnExactMirrorOfRow.holds Try.pinned (OpenSpec.ofChange fnExactMirrorOfSpec)

/-- ITS FALSE NEIGHBOUR: 'it returns false'. Refute it at one input. -/
def fnExactMirrorOfWrong : ChangeSpec := { name := "fnExactMirrorOf", fn := fun _ => fun
  | [d] => { results := [.lit (.bool false)], args := [d] }
  | _ => none }
def FnExactMirrorOfWrongFalsely : Prop := fnExactMirrorOfRow.holds Try.pinned (OpenSpec.ofChange fnExactMirrorOfWrong)

/-- 'laws.FnExactOrderOfIntervals': WHATEVER THE INPUT: true; the input reads as it did. -/
def fnExactOrderOfIntervalsSpec : ChangeSpec := { name := "fnExactOrderOfIntervals", fn := fun _ => fun
  | [d] => { results := [.lit (.bool true)], args := [d] }
  | _ => none }
def fnExactOrderOfIntervalsRow : OpenClaim := { program := "ytjeghlmkipcihaa", sum := "c86bf8356a1f0b20dcd5b879f20c6a337377ab092c51cfe019d3303b99cd08a4", func := "loop.example/g01106/laws.FnExactOrderOfIntervals", spec := "fnExactOrderOfIntervals", unfollowed := true, recurses := true, apart := false }
def FnExactOrderOfIntervalsSaid : Prop := fnExactOrderOfIntervalsRow.holds Try.pinned (OpenSpec.ofChange fnExactOrderOfIntervalsSpec)

/-- ITS FALSE NEIGHBOUR: 'it returns false'. Refute it at one input. -/
def fnExactOrderOfIntervalsWrong : ChangeSpec := { name := "fnExactOrderOfIntervals", fn := fun _ => fun
  | [d] => { results := [.lit (.bool false)], args := [d] }
  | _ => none }
def FnExactOrderOfIntervalsWrongFalsely : Prop := fnExactOrderOfIntervalsRow.holds Try.pinned (OpenSpec.ofChange fnExactOrderOfIntervalsWrong)

/-- 'laws.FnExactIsSameKind': WHATEVER THE INPUT: true; the input reads as it did. -/
def fnExactIsSameKindSpec : ChangeSpec := { name := "fnExactIsSameKind", fn := fun _ => fun
  | [d1, d2] => { results := [.lit (.bool true)], args := [d1, d2] }
  | _ => none }
def fnExactIsSameKindRow : OpenClaim := { program := "ytjeghlmkipcihaa", sum := "c86bf8356a1f0b20dcd5b879f20c6a337377ab092c51cfe019d3303b99cd08a4", func := "loop.example/g01106/laws.FnExactIsSameKind", spec := "fnExactIsSameKind", unfollowed := true, recurses := true, apart := false }
def FnExactIsSameKindSaid : Prop := fnExactIsSameKindRow.holds Try.pinned (OpenSpec.ofChange fnExactIsSameKindSpec)

/-- ITS FALSE NEIGHBOUR: 'it returns false'. Refute it at one input. -/
def fnExactIsSameKindWrong : ChangeSpec := { name := "fnExactIsSameKind", fn := fun _ => fun
  | [d1, d2] => { results := [.lit (.bool false)], args := [d1, d2] }
  | _ => none }
def FnExactIsSameKindWrongFalsely : Prop := fnExactIsSameKindRow.holds Try.pinned (OpenSpec.ofChange fnExactIsSameKindWrong)

/-- 'laws.FnExactPartOf': WHATEVER THE INPUT: true; the input reads as it did. -/
def fnExactPartOfSpec : ChangeSpec := { name := "fnExactPartOf", fn := fun _ => fun
  | [d1, d2] => { results := [.lit (.bool true)], args := [d1, d2] }
  | _ => none }
def fnExactPartOfRow : OpenClaim := { program := "ytjeghlmkipcihaa", sum := "c86bf8356a1f0b20dcd5b879f20c6a337377ab092c51cfe019d3303b99cd08a4", func := "loop.example/g01106/laws.FnExactPartOf", spec := "fnExactPartOf", unfollowed := true, recurses := true, apart := false }
def FnExactPartOfSaid : Prop := fnExactPartOfRow.holds Try.pinned (OpenSpec.ofChange fnExactPartOfSpec)

/-- ITS FALSE NEIGHBOUR: 'it returns false'. Refute it at one input. -/
def fnExactPartOfWrong : ChangeSpec := { name := "fnExactPartOf", fn := fun _ => fun
  | [d1, d2] => { results := [.lit (.bool false)], args := [d1, d2] }
  | _ => none }
def FnExactPartOfWrongFalsely : Prop := fnExactPartOfRow.holds Try.pinned (OpenSpec.ofChange fnExactPartOfWrong)

/-- 'laws.FnExactFindPattern': WHATEVER THE INPUT: true; the input reads as it did. -/
def fnExactFindPatternSpec : ChangeSpec := { name := "fnExactFindPattern", fn := fun _ => fun
  | [d1, d2] => { results := [.lit (.bool true)], args := [d1, d2] }
  | _ => none }
def fnExactFindPatternRow : OpenClaim := { program := "ytjeghlmkipcihaa", sum := "c86bf8356a1f0b20dcd5b879f20c6a337377ab092c51cfe019d3303b99cd08a4", func := "loop.example/g01106/laws.FnExactFindPattern", spec := "fnExactFindPattern", unfollowed := true, recurses := true, apart := false }
def FnExactFindPatternSaid : Prop := fnExactFindPatternRow.holds Try.pinned (OpenSpec.ofChange fnExactFindPatternSpec)

/-- ITS FALSE NEIGHBOUR: 'it returns false'. Refute it at one input. -/
def fnExactFindPatternWrong : ChangeSpec := { name := "fnExactFindPattern", fn := fun _ => fun
  | [d1, d2] => { results := [.lit (.bool false)], args := [d1, d2] }
  | _ => none }
def FnExactFindPatternWrongFalsely : Prop := fnExactFindPatternRow.holds Try.pinned (OpenSpec.ofChange fnExactFindPatternWrong)

/- THE SECOND FORM. 'bulk': how many values and letters a reading holds, each counted each time it is reached (what is shared counts as often as it is met; a slice's spare places count too). A statement '..UptoSaid' is the law's where the arguments, and the package variables that the reading takes, are together of bulk at most 1048576: NARROWER than '..Said'. Prove '..Said' where nothing that the law and all that it calls make is longer than what came in: it says more and counts as full. Else prove '..UptoSaid'. A law counts once. -/
mutual
def uptoBulk {H : Type} : DataW H → Nat
  | .lit (.string bytes) => bytes.length + 1
  | .lit _ => 1
  | .nil => 1
  | .ptr d => uptoBulk d + 1
  | .slice elems spare => uptoBulkAll elems + uptoBulkAll spare + 1
  | .agg parts => uptoBulkAll parts + 1
  | .iface _ d => uptoBulk d + 1
  | .map entries => uptoBulkEntries entries + 1
  | .held _ => 1
def uptoBulkAll {H : Type} : List (DataW H) → Nat
  | [] => 0
  | d :: r => uptoBulk d + uptoBulkAll r
def uptoBulkEntries {H : Type} : List (Lit × DataW H) → Nat
  | [] => 0
  | x :: r => uptoBulkEntry x + uptoBulkEntries r
def uptoBulkEntry {H : Type} : Lit × DataW H → Nat
  | (.string bytes, d) => bytes.length + uptoBulk d + 1
  | (_, d) => uptoBulk d + 1
 end
def uptoSmall : (H : Type) → List (DataW H) → Bool := fun _ ds => decide (uptoBulkAll ds ≤ 1048576)
def OpenSpec.upto (s : _root_.Go.ChangeSpec) : _root_.Go.OpenSpec := { _root_.Go.OpenSpec.ofChange s with cond := some uptoSmall }

/-- 'laws.FnExactStretchIntervals', WHERE WHAT IT READS IS OF BULK AT MOST 1048576: true; the input reads as it did. -/
def fnExactStretchIntervalsUptoRow : OpenClaim := { program := "ytjeghlmkipcihaa", sum := "c86bf8356a1f0b20dcd5b879f20c6a337377ab092c51cfe019d3303b99cd08a4", func := "loop.example/g01106/laws.FnExactStretchIntervals", spec := "fnExactStretchIntervals", unfollowed := true, recurses := true, apart := false, narrowed := true }
def FnExactStretchIntervalsUptoSaid : Prop := fnExactStretchIntervalsUptoRow.holds Try.pinned (OpenSpec.upto fnExactStretchIntervalsSpec)

/-- 'laws.FnExactIndifferentTo', WHERE WHAT IT READS IS OF BULK AT MOST 1048576: true; the input reads as it did. -/
def fnExactIndifferentToUptoRow : OpenClaim := { program := "ytjeghlmkipcihaa", sum := "c86bf8356a1f0b20dcd5b879f20c6a337377ab092c51cfe019d3303b99cd08a4", func := "loop.example/g01106/laws.FnExactIndifferentTo", spec := "fnExactIndifferentTo", unfollowed := true, recurses := true, apart := false, narrowed := true }
def FnExactIndifferentToUptoSaid : Prop := fnExactIndifferentToUptoRow.holds Try.pinned (OpenSpec.upto fnExactIndifferentToSpec)

/-- 'laws.FnExactCloseRelation', WHERE WHAT IT READS IS OF BULK AT MOST 1048576: true; the input reads as it did. -/
def fnExactCloseRelationUptoRow : OpenClaim := { program := "ytjeghlmkipcihaa", sum := "c86bf8356a1f0b20dcd5b879f20c6a337377ab092c51cfe019d3303b99cd08a4", func := "loop.example/g01106/laws.FnExactCloseRelation", spec := "fnExactCloseRelation", apart := false, narrowed := true }
def FnExactCloseRelationUptoSaid : Prop := fnExactCloseRelationUptoRow.holds Try.pinned (OpenSpec.upto fnExactCloseRelationSpec)

/-- 'laws.FnExactMirrorOf', WHERE WHAT IT READS IS OF BULK AT MOST 1048576: true; the input reads as it did. -/
def fnExactMirrorOfUptoRow : OpenClaim := { program := "ytjeghlmkipcihaa", sum := "c86bf8356a1f0b20dcd5b879f20c6a337377ab092c51cfe019d3303b99cd08a4", func := "loop.example/g01106/laws.FnExactMirrorOf", spec := "fnExactMirrorOf", unfollowed := true, recurses := true, apart := false, narrowed := true }
def FnExactMirrorOfUptoSaid : Prop := fnExactMirrorOfUptoRow.holds Try.pinned (OpenSpec.upto fnExactMirrorOfSpec)

/-- 'laws.FnExactOrderOfIntervals', WHERE WHAT IT READS IS OF BULK AT MOST 1048576: true; the input reads as it did. -/
def fnExactOrderOfIntervalsUptoRow : OpenClaim := { program := "ytjeghlmkipcihaa", sum := "c86bf8356a1f0b20dcd5b879f20c6a337377ab092c51cfe019d3303b99cd08a4", func := "loop.example/g01106/laws.FnExactOrderOfIntervals", spec := "fnExactOrderOfIntervals", unfollowed := true, recurses := true, apart := false, narrowed := true }
def FnExactOrderOfIntervalsUptoSaid : Prop := fnExactOrderOfIntervalsUptoRow.holds Try.pinned (OpenSpec.upto fnExactOrderOfIntervalsSpec)

/-- 'laws.FnExactIsSameKind', WHERE WHAT IT READS IS OF BULK AT MOST 1048576: true; the input reads as it did. -/
def fnExactIsSameKindUptoRow : OpenClaim := { program := "ytjeghlmkipcihaa", sum := "c86bf8356a1f0b20dcd5b879f20c6a337377ab092c51cfe019d3303b99cd08a4", func := "loop.example/g01106/laws.FnExactIsSameKind", spec := "fnExactIsSameKind", unfollowed := true, recurses := true, apart := false, narrowed := true }
def FnExactIsSameKindUptoSaid : Prop := fnExactIsSameKindUptoRow.holds Try.pinned (OpenSpec.upto fnExactIsSameKindSpec)

/-- 'laws.FnExactPartOf', WHERE WHAT IT READS IS OF BULK AT MOST 1048576: true; the input reads as it did. -/
def fnExactPartOfUptoRow : OpenClaim := { program := "ytjeghlmkipcihaa", sum := "c86bf8356a1f0b20dcd5b879f20c6a337377ab092c51cfe019d3303b99cd08a4", func := "loop.example/g01106/laws.FnExactPartOf", spec := "fnExactPartOf", unfollowed := true, recurses := true, apart := false, narrowed := true }
def FnExactPartOfUptoSaid : Prop := fnExactPartOfUptoRow.holds Try.pinned (OpenSpec.upto fnExactPartOfSpec)

/-- 'laws.FnExactFindPattern', WHERE WHAT IT READS IS OF BULK AT MOST 1048576: true; the input reads as it did. -/
def fnExactFindPatternUptoRow : OpenClaim := { program := "ytjeghlmkipcihaa", sum := "c86bf8356a1f0b20dcd5b879f20c6a337377ab092c51cfe019d3303b99cd08a4", func := "loop.example/g01106/laws.FnExactFindPattern", spec := "fnExactFindPattern", unfollowed := true, recurses := true, apart := false, narrowed := true }
def FnExactFindPatternUptoSaid : Prop := fnExactFindPatternUptoRow.holds Try.pinned (OpenSpec.upto fnExactFindPatternSpec)

end Rows
end Go.Proofs.Ytjeghlmkipcihaa
