/-
  NARROWER THAN 'FOR EVERY INPUT', by the rows' own cells (each row's printed sentence says how): FnExactEndsOf: laid · FnExactInsertInterval: laid · FnExactIsDemandCycle: laid · FnExactMagnitudeOf: laid · FnExactLowerLevels: laid · FnExactSetsAlong: laid.
  DERIVED. THE GIVEN ROWS OF THIS SEAT. 6 by the template 'for every input the law returns true; each argument reads behind the call as it read before'; 0 by the template 'total and deterministic' (their statements: YtoilbeffheijeaaDoorTotals.lean).
  GIVEN WITH THE SEED: the statements are not yours to turn. If you find one false, say at which input.
  Laid BY PROGRAM, IN A SANDBOX (cutbox-rows.mjs): the forced cells as the released guide's own fill.sh prints them over the translation a6ea71e361e23aa8… (all of the seat's roots in one cut). By AI agents, Wed Nov 11 2026. No macro, syntax, notation, axiom, sorry.
-/
import Derived.Test.YtoilbeffheijeaaDoorChecked
import GoSem.Claim
import GoSem.ClaimJoined
import GoSem.ClaimMapViews
import Derived.JoinedTies
import Derived.KernelRfl
namespace Go.Proofs.YtoilbeffheijeaaDoor
/- THE CELL 'sum', in the pinned program and in every row, IS THE sha256 OF THE DUMP (.gsa) THAT YtoilbeffheijeaaDoorProg.lean LOADS. Nothing in Lean hashes anything: it is a label: what it is worth is what the hold of that sum in a sandbox is worth. -/
noncomputable def Tryd.pinned : Pinned := { name := "ytoilbeffheijeaadoor", sum := "a6ea71e361e23aa851bdc200bca7959f93bbb2b579762a3d7b3c941ac986de62", checked := Tryd.checked }
namespace Rows
def none {H : Type} : Left H := { results := [], args := [] }

/- WHAT THE LISTED PACKAGE-LEVEL VARIABLES READ AS WHEN THE CALL BEGINS. Each datum BY PROGRAM (the guide's laid-datum.mjs) off the statement by which the dump's own 'gosem.cut.vars' lays the variable. In a bare row this is a premise. The card (YtoilbeffheijeaaDoorCards.lean) ties it to the program's text. -/
def laid_math_bits_deBruijn32tab {H : Type} : DataW H := .agg [.lit (.int .u8 0), .lit (.int .u8 1), .lit (.int .u8 28), .lit (.int .u8 2), .lit (.int .u8 29), .lit (.int .u8 14), .lit (.int .u8 24), .lit (.int .u8 3), .lit (.int .u8 30), .lit (.int .u8 22), .lit (.int .u8 20), .lit (.int .u8 15), .lit (.int .u8 25), .lit (.int .u8 17), .lit (.int .u8 4), .lit (.int .u8 8), .lit (.int .u8 31), .lit (.int .u8 27), .lit (.int .u8 13), .lit (.int .u8 23), .lit (.int .u8 21), .lit (.int .u8 19), .lit (.int .u8 16), .lit (.int .u8 7), .lit (.int .u8 26), .lit (.int .u8 12), .lit (.int .u8 18), .lit (.int .u8 6), .lit (.int .u8 11), .lit (.int .u8 5), .lit (.int .u8 10), .lit (.int .u8 9)]
def laid_math_bits_deBruijn64tab {H : Type} : DataW H := .agg [.lit (.int .u8 0), .lit (.int .u8 1), .lit (.int .u8 56), .lit (.int .u8 2), .lit (.int .u8 57), .lit (.int .u8 49), .lit (.int .u8 28), .lit (.int .u8 3), .lit (.int .u8 61), .lit (.int .u8 58), .lit (.int .u8 42), .lit (.int .u8 50), .lit (.int .u8 38), .lit (.int .u8 29), .lit (.int .u8 17), .lit (.int .u8 4), .lit (.int .u8 62), .lit (.int .u8 47), .lit (.int .u8 59), .lit (.int .u8 36), .lit (.int .u8 45), .lit (.int .u8 43), .lit (.int .u8 51), .lit (.int .u8 22), .lit (.int .u8 53), .lit (.int .u8 39), .lit (.int .u8 33), .lit (.int .u8 30), .lit (.int .u8 24), .lit (.int .u8 18), .lit (.int .u8 12), .lit (.int .u8 5), .lit (.int .u8 63), .lit (.int .u8 55), .lit (.int .u8 48), .lit (.int .u8 27), .lit (.int .u8 60), .lit (.int .u8 41), .lit (.int .u8 37), .lit (.int .u8 16), .lit (.int .u8 46), .lit (.int .u8 35), .lit (.int .u8 44), .lit (.int .u8 21), .lit (.int .u8 52), .lit (.int .u8 32), .lit (.int .u8 23), .lit (.int .u8 11), .lit (.int .u8 54), .lit (.int .u8 26), .lit (.int .u8 40), .lit (.int .u8 15), .lit (.int .u8 34), .lit (.int .u8 20), .lit (.int .u8 31), .lit (.int .u8 10), .lit (.int .u8 25), .lit (.int .u8 14), .lit (.int .u8 19), .lit (.int .u8 9), .lit (.int .u8 13), .lit (.int .u8 8), .lit (.int .u8 7), .lit (.int .u8 6)]

/-- 'laws.FnExactEndsOf': WHATEVER THE INPUT: true; the input reads as it did. -/
def fnExactEndsOfSpec : ChangeSpec := { name := "fnExactEndsOf", fn := fun _ => fun
  | [d] => { results := [.lit (.bool true)], args := [d] }
  | _ => none }
def fnExactEndsOfRow : OpenClaim := { program := "ytoilbeffheijeaadoor", sum := "a6ea71e361e23aa851bdc200bca7959f93bbb2b579762a3d7b3c941ac986de62", func := "loop.example/g01106/laws.FnExactEndsOf", spec := "fnExactEndsOf", unfollowed := true, recurses := true, named := ["math/bits.deBruijn32tab", "math/bits.deBruijn64tab"], apart := false, laid := [("math/bits.deBruijn32tab", laid_math_bits_deBruijn32tab), ("math/bits.deBruijn64tab", laid_math_bits_deBruijn64tab)] }
def FnExactEndsOfSaid : Prop := fnExactEndsOfRow.holds Tryd.pinned (OpenSpec.ofChange fnExactEndsOfSpec)

/-- ITS FALSE NEIGHBOUR: 'it returns false'. Refute it at one input. -/
def fnExactEndsOfWrong : ChangeSpec := { name := "fnExactEndsOf", fn := fun _ => fun
  | [d] => { results := [.lit (.bool false)], args := [d] }
  | _ => none }
def FnExactEndsOfWrongFalsely : Prop := fnExactEndsOfRow.holds Tryd.pinned (OpenSpec.ofChange fnExactEndsOfWrong)

/-- 'laws.FnExactInsertInterval': WHATEVER THE INPUT: true; the input reads as it did. -/
def fnExactInsertIntervalSpec : ChangeSpec := { name := "fnExactInsertInterval", fn := fun _ => fun
  | [d1, d2] => { results := [.lit (.bool true)], args := [d1, d2] }
  | _ => none }
def fnExactInsertIntervalRow : OpenClaim := { program := "ytoilbeffheijeaadoor", sum := "a6ea71e361e23aa851bdc200bca7959f93bbb2b579762a3d7b3c941ac986de62", func := "loop.example/g01106/laws.FnExactInsertInterval", spec := "fnExactInsertInterval", unfollowed := true, recurses := true, named := ["math/bits.deBruijn32tab", "math/bits.deBruijn64tab"], apart := false, laid := [("math/bits.deBruijn32tab", laid_math_bits_deBruijn32tab), ("math/bits.deBruijn64tab", laid_math_bits_deBruijn64tab)] }
def FnExactInsertIntervalSaid : Prop := fnExactInsertIntervalRow.holds Tryd.pinned (OpenSpec.ofChange fnExactInsertIntervalSpec)

/-- ITS FALSE NEIGHBOUR: 'it returns false'. Refute it at one input. -/
def fnExactInsertIntervalWrong : ChangeSpec := { name := "fnExactInsertInterval", fn := fun _ => fun
  | [d1, d2] => { results := [.lit (.bool false)], args := [d1, d2] }
  | _ => none }
def FnExactInsertIntervalWrongFalsely : Prop := fnExactInsertIntervalRow.holds Tryd.pinned (OpenSpec.ofChange fnExactInsertIntervalWrong)

/-- 'laws.FnExactIsDemandCycle': WHATEVER THE INPUT: true; the input reads as it did. -/
def fnExactIsDemandCycleSpec : ChangeSpec := { name := "fnExactIsDemandCycle", fn := fun _ => fun
  | [d1, d2, d3] => { results := [.lit (.bool true)], args := [d1, d2, d3] }
  | _ => none }
def fnExactIsDemandCycleRow : OpenClaim := { program := "ytoilbeffheijeaadoor", sum := "a6ea71e361e23aa851bdc200bca7959f93bbb2b579762a3d7b3c941ac986de62", func := "loop.example/g01106/laws.FnExactIsDemandCycle", spec := "fnExactIsDemandCycle", unfollowed := true, recurses := true, named := ["math/bits.deBruijn32tab", "math/bits.deBruijn64tab"], apart := false, laid := [("math/bits.deBruijn32tab", laid_math_bits_deBruijn32tab), ("math/bits.deBruijn64tab", laid_math_bits_deBruijn64tab)] }
def FnExactIsDemandCycleSaid : Prop := fnExactIsDemandCycleRow.holds Tryd.pinned (OpenSpec.ofChange fnExactIsDemandCycleSpec)

/-- ITS FALSE NEIGHBOUR: 'it returns false'. Refute it at one input. -/
def fnExactIsDemandCycleWrong : ChangeSpec := { name := "fnExactIsDemandCycle", fn := fun _ => fun
  | [d1, d2, d3] => { results := [.lit (.bool false)], args := [d1, d2, d3] }
  | _ => none }
def FnExactIsDemandCycleWrongFalsely : Prop := fnExactIsDemandCycleRow.holds Tryd.pinned (OpenSpec.ofChange fnExactIsDemandCycleWrong)

/-- 'laws.FnExactMagnitudeOf': WHATEVER THE INPUT: true; the input reads as it did. -/
def fnExactMagnitudeOfSpec : ChangeSpec := { name := "fnExactMagnitudeOf", fn := fun _ => fun
  | [d] => { results := [.lit (.bool true)], args := [d] }
  | _ => none }
def fnExactMagnitudeOfRow : OpenClaim := { program := "ytoilbeffheijeaadoor", sum := "a6ea71e361e23aa851bdc200bca7959f93bbb2b579762a3d7b3c941ac986de62", func := "loop.example/g01106/laws.FnExactMagnitudeOf", spec := "fnExactMagnitudeOf", unfollowed := true, recurses := true, named := ["math/bits.deBruijn32tab", "math/bits.deBruijn64tab"], apart := false, laid := [("math/bits.deBruijn32tab", laid_math_bits_deBruijn32tab), ("math/bits.deBruijn64tab", laid_math_bits_deBruijn64tab)] }
def FnExactMagnitudeOfSaid : Prop := fnExactMagnitudeOfRow.holds Tryd.pinned (OpenSpec.ofChange fnExactMagnitudeOfSpec)

/-- ITS FALSE NEIGHBOUR: 'it returns false'. Refute it at one input. -/
def fnExactMagnitudeOfWrong : ChangeSpec := { name := "fnExactMagnitudeOf", fn := fun _ => fun
  | [d] => { results := [.lit (.bool false)], args := [d] }
  | _ => none }
def FnExactMagnitudeOfWrongFalsely : Prop := fnExactMagnitudeOfRow.holds Tryd.pinned (OpenSpec.ofChange fnExactMagnitudeOfWrong)

/-- 'laws.FnExactLowerLevels': WHATEVER THE INPUT: true; the input reads as it did. -/
def fnExactLowerLevelsSpec : ChangeSpec := { name := "fnExactLowerLevels", fn := fun _ => fun
  | [d] => { results := [.lit (.bool true)], args := [d] }
  | _ => none }
def fnExactLowerLevelsRow : OpenClaim := { program := "ytoilbeffheijeaadoor", sum := "a6ea71e361e23aa851bdc200bca7959f93bbb2b579762a3d7b3c941ac986de62", func := "loop.example/g01106/laws.FnExactLowerLevels", spec := "fnExactLowerLevels", unfollowed := true, recurses := true, named := ["math/bits.deBruijn32tab", "math/bits.deBruijn64tab"], apart := false, laid := [("math/bits.deBruijn32tab", laid_math_bits_deBruijn32tab), ("math/bits.deBruijn64tab", laid_math_bits_deBruijn64tab)] }
def FnExactLowerLevelsSaid : Prop := fnExactLowerLevelsRow.holds Tryd.pinned (OpenSpec.ofChange fnExactLowerLevelsSpec)

/-- ITS FALSE NEIGHBOUR: 'it returns false'. Refute it at one input. -/
def fnExactLowerLevelsWrong : ChangeSpec := { name := "fnExactLowerLevels", fn := fun _ => fun
  | [d] => { results := [.lit (.bool false)], args := [d] }
  | _ => none }
def FnExactLowerLevelsWrongFalsely : Prop := fnExactLowerLevelsRow.holds Tryd.pinned (OpenSpec.ofChange fnExactLowerLevelsWrong)

/-- 'laws.FnExactSetsAlong': WHATEVER THE INPUT: true; the input reads as it did. -/
def fnExactSetsAlongSpec : ChangeSpec := { name := "fnExactSetsAlong", fn := fun _ => fun
  | [d] => { results := [.lit (.bool true)], args := [d] }
  | _ => none }
def fnExactSetsAlongRow : OpenClaim := { program := "ytoilbeffheijeaadoor", sum := "a6ea71e361e23aa851bdc200bca7959f93bbb2b579762a3d7b3c941ac986de62", func := "loop.example/g01106/laws.FnExactSetsAlong", spec := "fnExactSetsAlong", unfollowed := true, recurses := true, named := ["math/bits.deBruijn32tab", "math/bits.deBruijn64tab"], apart := false, laid := [("math/bits.deBruijn32tab", laid_math_bits_deBruijn32tab), ("math/bits.deBruijn64tab", laid_math_bits_deBruijn64tab)] }
def FnExactSetsAlongSaid : Prop := fnExactSetsAlongRow.holds Tryd.pinned (OpenSpec.ofChange fnExactSetsAlongSpec)

/-- ITS FALSE NEIGHBOUR: 'it returns false'. Refute it at one input. -/
def fnExactSetsAlongWrong : ChangeSpec := { name := "fnExactSetsAlong", fn := fun _ => fun
  | [d] => { results := [.lit (.bool false)], args := [d] }
  | _ => none }
def FnExactSetsAlongWrongFalsely : Prop := fnExactSetsAlongRow.holds Tryd.pinned (OpenSpec.ofChange fnExactSetsAlongWrong)

/- THE SECOND FORM. 'bulk': how many values and letters a reading holds, each counted each time it is reached (what is shared counts as often as it is met; a slice's spare places count too). A statement '..UptoSaid' is the law's where the arguments, and the package variables that the reading takes, are together of bulk at most 1048576: NARROWER than '..Said'. Prove '..Said' where nothing that the law and all that it calls make is longer than what came in: it says more and counts as full. Else prove '..UptoSaid'. A law counts once. -/
mutual
def uptoBulk {H : Type} : DataW H → Nat
  | .lit (.string bytes) => bytes.length + 1
  | .lit _ => 1
  | .nil => 1
  | .ptr d => uptoBulk d + 1
  | .slice elems spare => uptoBulkAll elems + uptoBulkAll spare + 1
  | .agg parts => uptoBulkAll parts + 1
  | .iface _ d => uptoBulk d + 1
  | .map entries => uptoBulkEntries entries + 1
  | .held _ => 1
def uptoBulkAll {H : Type} : List (DataW H) → Nat
  | [] => 0
  | d :: r => uptoBulk d + uptoBulkAll r
def uptoBulkEntries {H : Type} : List (Lit × DataW H) → Nat
  | [] => 0
  | x :: r => uptoBulkEntry x + uptoBulkEntries r
def uptoBulkEntry {H : Type} : Lit × DataW H → Nat
  | (.string bytes, d) => bytes.length + uptoBulk d + 1
  | (_, d) => uptoBulk d + 1
 end
def uptoSmall : (H : Type) → List (DataW H) → Bool := fun _ ds => decide (uptoBulkAll ds ≤ 1048576)
def OpenSpec.upto (s : _root_.Go.ChangeSpec) : _root_.Go.OpenSpec := { _root_.Go.OpenSpec.ofChange s with cond := some uptoSmall }

/-- 'laws.FnExactEndsOf', WHERE WHAT IT READS IS OF BULK AT MOST 1048576: true; the input reads as it did. -/
def fnExactEndsOfUptoRow : OpenClaim := { program := "ytoilbeffheijeaadoor", sum := "a6ea71e361e23aa851bdc200bca7959f93bbb2b579762a3d7b3c941ac986de62", func := "loop.example/g01106/laws.FnExactEndsOf", spec := "fnExactEndsOf", unfollowed := true, recurses := true, named := ["math/bits.deBruijn32tab", "math/bits.deBruijn64tab"], apart := false, laid := [("math/bits.deBruijn32tab", laid_math_bits_deBruijn32tab), ("math/bits.deBruijn64tab", laid_math_bits_deBruijn64tab)], narrowed := true }
def FnExactEndsOfUptoSaid : Prop := fnExactEndsOfUptoRow.holds Tryd.pinned (OpenSpec.upto fnExactEndsOfSpec)

/-- 'laws.FnExactInsertInterval', WHERE WHAT IT READS IS OF BULK AT MOST 1048576: true; the input reads as it did. -/
def fnExactInsertIntervalUptoRow : OpenClaim := { program := "ytoilbeffheijeaadoor", sum := "a6ea71e361e23aa851bdc200bca7959f93bbb2b579762a3d7b3c941ac986de62", func := "loop.example/g01106/laws.FnExactInsertInterval", spec := "fnExactInsertInterval", unfollowed := true, recurses := true, named := ["math/bits.deBruijn32tab", "math/bits.deBruijn64tab"], apart := false, laid := [("math/bits.deBruijn32tab", laid_math_bits_deBruijn32tab), ("math/bits.deBruijn64tab", laid_math_bits_deBruijn64tab)], narrowed := true }
def FnExactInsertIntervalUptoSaid : Prop := fnExactInsertIntervalUptoRow.holds Tryd.pinned (OpenSpec.upto fnExactInsertIntervalSpec)

/-- 'laws.FnExactIsDemandCycle', WHERE WHAT IT READS IS OF BULK AT MOST 1048576: true; the input reads as it did. -/
def fnExactIsDemandCycleUptoRow : OpenClaim := { program := "ytoilbeffheijeaadoor", sum := "a6ea71e361e23aa851bdc200bca7959f93bbb2b579762a3d7b3c941ac986de62", func := "loop.example/g01106/laws.FnExactIsDemandCycle", spec := "fnExactIsDemandCycle", unfollowed := true, recurses := true, named := ["math/bits.deBruijn32tab", "math/bits.deBruijn64tab"], apart := false, laid := [("math/bits.deBruijn32tab", laid_math_bits_deBruijn32tab), ("math/bits.deBruijn64tab", laid_math_bits_deBruijn64tab)], narrowed := true }
def FnExactIsDemandCycleUptoSaid : Prop := fnExactIsDemandCycleUptoRow.holds Tryd.pinned (OpenSpec.upto fnExactIsDemandCycleSpec)

/-- 'laws.FnExactMagnitudeOf', WHERE WHAT IT READS IS OF BULK AT MOST 1048576: true; the input reads as it did. -/
def fnExactMagnitudeOfUptoRow : OpenClaim := { program := "ytoilbeffheijeaadoor", sum := "a6ea71e361e23aa851bdc200bca7959f93bbb2b579762a3d7b3c941ac986de62", func := "loop.example/g01106/laws.FnExactMagnitudeOf", spec := "fnExactMagnitudeOf", unfollowed := true, recurses := true, named := ["math/bits.deBruijn32tab", "math/bits.deBruijn64tab"], apart := false, laid := [("math/bits.deBruijn32tab", laid_math_bits_deBruijn32tab), ("math/bits.deBruijn64tab", laid_math_bits_deBruijn64tab)], narrowed := true }
def FnExactMagnitudeOfUptoSaid : Prop := fnExactMagnitudeOfUptoRow.holds Tryd.pinned (OpenSpec.upto fnExactMagnitudeOfSpec)

/-- 'laws.FnExactLowerLevels', WHERE WHAT IT READS IS OF BULK AT MOST 1048576: true; the input reads as it did. -/
def fnExactLowerLevelsUptoRow : OpenClaim := { program := "ytoilbeffheijeaadoor", sum := "a6ea71e361e23aa851bdc200bca7959f93bbb2b579762a3d7b3c941ac986de62", func := "loop.example/g01106/laws.FnExactLowerLevels", spec := "fnExactLowerLevels", unfollowed := true, recurses := true, named := ["math/bits.deBruijn32tab", "math/bits.deBruijn64tab"], apart := false, laid := [("math/bits.deBruijn32tab", laid_math_bits_deBruijn32tab), ("math/bits.deBruijn64tab", laid_math_bits_deBruijn64tab)], narrowed := true }
def FnExactLowerLevelsUptoSaid : Prop := fnExactLowerLevelsUptoRow.holds Tryd.pinned (OpenSpec.upto fnExactLowerLevelsSpec)

/-- 'laws.FnExactSetsAlong', WHERE WHAT IT READS IS OF BULK AT MOST 1048576: true; the input reads as it did. -/
def fnExactSetsAlongUptoRow : OpenClaim := { program := "ytoilbeffheijeaadoor", sum := "a6ea71e361e23aa851bdc200bca7959f93bbb2b579762a3d7b3c941ac986de62", func := "loop.example/g01106/laws.FnExactSetsAlong", spec := "fnExactSetsAlong", unfollowed := true, recurses := true, named := ["math/bits.deBruijn32tab", "math/bits.deBruijn64tab"], apart := false, laid := [("math/bits.deBruijn32tab", laid_math_bits_deBruijn32tab), ("math/bits.deBruijn64tab", laid_math_bits_deBruijn64tab)], narrowed := true }
def FnExactSetsAlongUptoSaid : Prop := fnExactSetsAlongUptoRow.holds Tryd.pinned (OpenSpec.upto fnExactSetsAlongSpec)

end Rows
end Go.Proofs.YtoilbeffheijeaaDoor
