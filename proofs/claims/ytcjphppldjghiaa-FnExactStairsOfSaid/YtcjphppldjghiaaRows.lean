/-
  No cell of these rows narrows 'for every input' (looked for: loops, veiled, ifaces, maps, wideKeys, modest, calm, conditions, laid).
  DERIVED. THE GIVEN ROWS OF THIS SEAT. 5 by the template 'for every input the law returns true; each argument reads behind the call as it read before'; 0 by the template 'total and deterministic' (their statements: YtcjphppldjghiaaTotals.lean).
  GIVEN WITH THE SEED: the statements are not yours to turn. If you find one false, say at which input.
  Laid BY PROGRAM, IN A SANDBOX (cutbox-rows.mjs): the forced cells as the released guide's own fill.sh prints them over the translation a4b7f9370b02752f… (all of the seat's roots in one cut). By AI agents, Wed Nov 11 2026. No macro, syntax, notation, axiom, sorry.
-/
import Derived.Test.YtcjphppldjghiaaChecked
import GoSem.Claim
import GoSem.ClaimJoined
import GoSem.ClaimMapViews
import Derived.JoinedTies
import Derived.KernelRfl
namespace Go.Proofs.Ytcjphppldjghiaa
/- THE CELL 'sum', in the pinned program and in every row, IS THE sha256 OF THE DUMP (.gsa) THAT YtcjphppldjghiaaProg.lean LOADS. Nothing in Lean hashes anything: it is a label: what it is worth is what the hold of that sum in a sandbox is worth. -/
noncomputable def Try.pinned : Pinned := { name := "ytcjphppldjghiaa", sum := "a4b7f9370b02752f0fa5328da444f17d184e50453c0d47050cfa9587cf071153", checked := Try.checked }
namespace Rows
def none {H : Type} : Left H := { results := [], args := [] }

/-- 'laws.FnExactCountStairs': WHATEVER THE INPUT: true; the input reads as it did. -/
def fnExactCountStairsSpec : ChangeSpec := { name := "fnExactCountStairs", fn := fun _ => fun
  | [d] => { results := [.lit (.bool true)], args := [d] }
  | _ => none }
def fnExactCountStairsRow : OpenClaim := { program := "ytcjphppldjghiaa", sum := "a4b7f9370b02752f0fa5328da444f17d184e50453c0d47050cfa9587cf071153", func := "loop.example/g01106/laws.FnExactCountStairs", spec := "fnExactCountStairs", recurses := true, apart := false }
def FnExactCountStairsSaid : Prop := fnExactCountStairsRow.holds Try.pinned (OpenSpec.ofChange fnExactCountStairsSpec)

/-- ITS FALSE NEIGHBOUR: 'it returns false'. Refute it at one input. -/
def fnExactCountStairsWrong : ChangeSpec := { name := "fnExactCountStairs", fn := fun _ => fun
  | [d] => { results := [.lit (.bool false)], args := [d] }
  | _ => none }
def FnExactCountStairsWrongFalsely : Prop := fnExactCountStairsRow.holds Try.pinned (OpenSpec.ofChange fnExactCountStairsWrong)

/-- 'laws.FnExactStairsOf': WHATEVER THE INPUT: true; the input reads as it did. -/
def fnExactStairsOfSpec : ChangeSpec := { name := "fnExactStairsOf", fn := fun _ => fun
  | [d] => { results := [.lit (.bool true)], args := [d] }
  | _ => none }
def fnExactStairsOfRow : OpenClaim := { program := "ytcjphppldjghiaa", sum := "a4b7f9370b02752f0fa5328da444f17d184e50453c0d47050cfa9587cf071153", func := "loop.example/g01106/laws.FnExactStairsOf", spec := "fnExactStairsOf", recurses := true, apart := false }
def FnExactStairsOfSaid : Prop := fnExactStairsOfRow.holds Try.pinned (OpenSpec.ofChange fnExactStairsOfSpec)

/-- ITS FALSE NEIGHBOUR: 'it returns false'. Refute it at one input. -/
def fnExactStairsOfWrong : ChangeSpec := { name := "fnExactStairsOf", fn := fun _ => fun
  | [d] => { results := [.lit (.bool false)], args := [d] }
  | _ => none }
def FnExactStairsOfWrongFalsely : Prop := fnExactStairsOfRow.holds Try.pinned (OpenSpec.ofChange fnExactStairsOfWrong)

/-- 'laws.FnExactStretchIntervals': WHATEVER THE INPUT: true; the input reads as it did. -/
def fnExactStretchIntervalsSpec : ChangeSpec := { name := "fnExactStretchIntervals", fn := fun _ => fun
  | [d1, d2, d3] => { results := [.lit (.bool true)], args := [d1, d2, d3] }
  | _ => none }
def fnExactStretchIntervalsRow : OpenClaim := { program := "ytcjphppldjghiaa", sum := "a4b7f9370b02752f0fa5328da444f17d184e50453c0d47050cfa9587cf071153", func := "loop.example/g01106/laws.FnExactStretchIntervals", spec := "fnExactStretchIntervals", unfollowed := true, recurses := true, apart := false }
def FnExactStretchIntervalsSaid : Prop := fnExactStretchIntervalsRow.holds Try.pinned (OpenSpec.ofChange fnExactStretchIntervalsSpec)

/-- ITS FALSE NEIGHBOUR: 'it returns false'. Refute it at one input. -/
def fnExactStretchIntervalsWrong : ChangeSpec := { name := "fnExactStretchIntervals", fn := fun _ => fun
  | [d1, d2, d3] => { results := [.lit (.bool false)], args := [d1, d2, d3] }
  | _ => none }
def FnExactStretchIntervalsWrongFalsely : Prop := fnExactStretchIntervalsRow.holds Try.pinned (OpenSpec.ofChange fnExactStretchIntervalsWrong)

/-- 'laws.FnExactIsSameKind': WHATEVER THE INPUT: true; the input reads as it did. -/
def fnExactIsSameKindSpec : ChangeSpec := { name := "fnExactIsSameKind", fn := fun _ => fun
  | [d1, d2] => { results := [.lit (.bool true)], args := [d1, d2] }
  | _ => none }
def fnExactIsSameKindRow : OpenClaim := { program := "ytcjphppldjghiaa", sum := "a4b7f9370b02752f0fa5328da444f17d184e50453c0d47050cfa9587cf071153", func := "loop.example/g01106/laws.FnExactIsSameKind", spec := "fnExactIsSameKind", unfollowed := true, recurses := true, apart := false }
def FnExactIsSameKindSaid : Prop := fnExactIsSameKindRow.holds Try.pinned (OpenSpec.ofChange fnExactIsSameKindSpec)

/-- ITS FALSE NEIGHBOUR: 'it returns false'. Refute it at one input. -/
def fnExactIsSameKindWrong : ChangeSpec := { name := "fnExactIsSameKind", fn := fun _ => fun
  | [d1, d2] => { results := [.lit (.bool false)], args := [d1, d2] }
  | _ => none }
def FnExactIsSameKindWrongFalsely : Prop := fnExactIsSameKindRow.holds Try.pinned (OpenSpec.ofChange fnExactIsSameKindWrong)

/-- 'laws.FnExactFindPattern': WHATEVER THE INPUT: true; the input reads as it did. -/
def fnExactFindPatternSpec : ChangeSpec := { name := "fnExactFindPattern", fn := fun _ => fun
  | [d1, d2] => { results := [.lit (.bool true)], args := [d1, d2] }
  | _ => none }
def fnExactFindPatternRow : OpenClaim := { program := "ytcjphppldjghiaa", sum := "a4b7f9370b02752f0fa5328da444f17d184e50453c0d47050cfa9587cf071153", func := "loop.example/g01106/laws.FnExactFindPattern", spec := "fnExactFindPattern", unfollowed := true, recurses := true, apart := false }
def FnExactFindPatternSaid : Prop := fnExactFindPatternRow.holds Try.pinned (OpenSpec.ofChange fnExactFindPatternSpec)

/-- ITS FALSE NEIGHBOUR: 'it returns false'. Refute it at one input. -/
def fnExactFindPatternWrong : ChangeSpec := { name := "fnExactFindPattern", fn := fun _ => fun
  | [d1, d2] => { results := [.lit (.bool false)], args := [d1, d2] }
  | _ => none }
def FnExactFindPatternWrongFalsely : Prop := fnExactFindPatternRow.holds Try.pinned (OpenSpec.ofChange fnExactFindPatternWrong)

/- THE SECOND FORM. 'bulk': how many values and letters a reading holds, each counted each time it is reached (what is shared counts as often as it is met; a slice's spare places count too). A statement '..UptoSaid' is the law's where the arguments, and the package variables that the reading takes, are together of bulk at most 1048576: NARROWER than '..Said'. Prove '..Said' where nothing that the law and all that it calls make is longer than what came in: it says more and counts as full. Else prove '..UptoSaid'. A law counts once. -/
mutual
def uptoBulk {H : Type} : DataW H → Nat
  | .lit (.string bytes) => bytes.length + 1
  | .lit _ => 1
  | .nil => 1
  | .ptr d => uptoBulk d + 1
  | .slice elems spare => uptoBulkAll elems + uptoBulkAll spare + 1
  | .agg parts => uptoBulkAll parts + 1
  | .iface _ d => uptoBulk d + 1
  | .map entries => uptoBulkEntries entries + 1
  | .held _ => 1
def uptoBulkAll {H : Type} : List (DataW H) → Nat
  | [] => 0
  | d :: r => uptoBulk d + uptoBulkAll r
def uptoBulkEntries {H : Type} : List (Lit × DataW H) → Nat
  | [] => 0
  | x :: r => uptoBulkEntry x + uptoBulkEntries r
def uptoBulkEntry {H : Type} : Lit × DataW H → Nat
  | (.string bytes, d) => bytes.length + uptoBulk d + 1
  | (_, d) => uptoBulk d + 1
 end
def uptoSmall : (H : Type) → List (DataW H) → Bool := fun _ ds => decide (uptoBulkAll ds ≤ 1048576)
def OpenSpec.upto (s : _root_.Go.ChangeSpec) : _root_.Go.OpenSpec := { _root_.Go.OpenSpec.ofChange s with cond := some uptoSmall }

/-- 'laws.FnExactCountStairs', WHERE WHAT IT READS IS OF BULK AT MOST 1048576: true; the input reads as it did. -/
def fnExactCountStairsUptoRow : OpenClaim := { program := "ytcjphppldjghiaa", sum := "a4b7f9370b02752f0fa5328da444f17d184e50453c0d47050cfa9587cf071153", func := "loop.example/g01106/laws.FnExactCountStairs", spec := "fnExactCountStairs", recurses := true, apart := false, narrowed := true }
def FnExactCountStairsUptoSaid : Prop := fnExactCountStairsUptoRow.holds Try.pinned (OpenSpec.upto fnExactCountStairsSpec)

/-- 'laws.FnExactStairsOf', WHERE WHAT IT READS IS OF BULK AT MOST 1048576: true; the input reads as it did. -/
def fnExactStairsOfUptoRow : OpenClaim := { program := "ytcjphppldjghiaa", sum := "a4b7f9370b02752f0fa5328da444f17d184e50453c0d47050cfa9587cf071153", func := "loop.example/g01106/laws.FnExactStairsOf", spec := "fnExactStairsOf", recurses := true, apart := false, narrowed := true }
def FnExactStairsOfUptoSaid : Prop := fnExactStairsOfUptoRow.holds Try.pinned (OpenSpec.upto fnExactStairsOfSpec)

/-- 'laws.FnExactStretchIntervals', WHERE WHAT IT READS IS OF BULK AT MOST 1048576: true; the input reads as it did. -/
def fnExactStretchIntervalsUptoRow : OpenClaim := { program := "ytcjphppldjghiaa", sum := "a4b7f9370b02752f0fa5328da444f17d184e50453c0d47050cfa9587cf071153", func := "loop.example/g01106/laws.FnExactStretchIntervals", spec := "fnExactStretchIntervals", unfollowed := true, recurses := true, apart := false, narrowed := true }
def FnExactStretchIntervalsUptoSaid : Prop := fnExactStretchIntervalsUptoRow.holds Try.pinned (OpenSpec.upto fnExactStretchIntervalsSpec)

/-- 'laws.FnExactIsSameKind', WHERE WHAT IT READS IS OF BULK AT MOST 1048576: true; the input reads as it did. -/
def fnExactIsSameKindUptoRow : OpenClaim := { program := "ytcjphppldjghiaa", sum := "a4b7f9370b02752f0fa5328da444f17d184e50453c0d47050cfa9587cf071153", func := "loop.example/g01106/laws.FnExactIsSameKind", spec := "fnExactIsSameKind", unfollowed := true, recurses := true, apart := false, narrowed := true }
def FnExactIsSameKindUptoSaid : Prop := fnExactIsSameKindUptoRow.holds Try.pinned (OpenSpec.upto fnExactIsSameKindSpec)

/-- 'laws.FnExactFindPattern', WHERE WHAT IT READS IS OF BULK AT MOST 1048576: true; the input reads as it did. -/
def fnExactFindPatternUptoRow : OpenClaim := { program := "ytcjphppldjghiaa", sum := "a4b7f9370b02752f0fa5328da444f17d184e50453c0d47050cfa9587cf071153", func := "loop.example/g01106/laws.FnExactFindPattern", spec := "fnExactFindPattern", unfollowed := true, recurses := true, apart := false, narrowed := true }
def FnExactFindPatternUptoSaid : Prop := fnExactFindPatternUptoRow.holds Try.pinned (OpenSpec.upto fnExactFindPatternSpec)

end Rows
end Go.Proofs.Ytcjphppldjghiaa
