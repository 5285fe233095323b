/-
  NARROWER THAN 'FOR EVERY INPUT', by the rows' own cells (each row's printed sentence says how): FnExactLeastThreshold: laid · FnExactLeastPlaces: laid · FnExactSlackOf: laid · FnExactDemandCycle: laid · FnExactTraceList: laid.
  DERIVED. THE GIVEN ROWS OF THIS SEAT. 5 by the template 'for every input the law returns true; each argument reads behind the call as it read before'; 0 by the template 'total and deterministic' (their statements: YtbodhioladafnaaDoorTotals.lean).
  GIVEN WITH THE SEED: the statements are not yours to turn. If you find one false, say at which input.
  Laid BY PROGRAM, IN A SANDBOX (cutbox-rows.mjs): the forced cells as the released guide's own fill.sh prints them over the translation c1729626f2f933e4… (all of the seat's roots in one cut). By AI agents, Wed Nov 11 2026. No macro, syntax, notation, axiom, sorry.
-/
import Derived.Test.YtbodhioladafnaaDoorChecked
import GoSem.Claim
import GoSem.ClaimJoined
import GoSem.ClaimMapViews
import Derived.JoinedTies
import Derived.KernelRfl
namespace Go.Proofs.YtbodhioladafnaaDoor
/- THE CELL 'sum', in the pinned program and in every row, IS THE sha256 OF THE DUMP (.gsa) THAT YtbodhioladafnaaDoorProg.lean LOADS. Nothing in Lean hashes anything: it is a label: what it is worth is what the hold of that sum in a sandbox is worth. -/
noncomputable def Tryd.pinned : Pinned := { name := "ytbodhioladafnaadoor", sum := "c1729626f2f933e478e3161b301dc9e0cc714d28af9c841f00f729d132937332", checked := Tryd.checked }
namespace Rows
def none {H : Type} : Left H := { results := [], args := [] }

/- WHAT THE LISTED PACKAGE-LEVEL VARIABLES READ AS WHEN THE CALL BEGINS. Each datum BY PROGRAM (the guide's laid-datum.mjs) off the statement by which the dump's own 'gosem.cut.vars' lays the variable. In a bare row this is a premise. The card (YtbodhioladafnaaDoorCards.lean) ties it to the program's text. -/
def laid_math_bits_deBruijn32tab {H : Type} : DataW H := .agg [.lit (.int .u8 0), .lit (.int .u8 1), .lit (.int .u8 28), .lit (.int .u8 2), .lit (.int .u8 29), .lit (.int .u8 14), .lit (.int .u8 24), .lit (.int .u8 3), .lit (.int .u8 30), .lit (.int .u8 22), .lit (.int .u8 20), .lit (.int .u8 15), .lit (.int .u8 25), .lit (.int .u8 17), .lit (.int .u8 4), .lit (.int .u8 8), .lit (.int .u8 31), .lit (.int .u8 27), .lit (.int .u8 13), .lit (.int .u8 23), .lit (.int .u8 21), .lit (.int .u8 19), .lit (.int .u8 16), .lit (.int .u8 7), .lit (.int .u8 26), .lit (.int .u8 12), .lit (.int .u8 18), .lit (.int .u8 6), .lit (.int .u8 11), .lit (.int .u8 5), .lit (.int .u8 10), .lit (.int .u8 9)]
def laid_math_bits_deBruijn64tab {H : Type} : DataW H := .agg [.lit (.int .u8 0), .lit (.int .u8 1), .lit (.int .u8 56), .lit (.int .u8 2), .lit (.int .u8 57), .lit (.int .u8 49), .lit (.int .u8 28), .lit (.int .u8 3), .lit (.int .u8 61), .lit (.int .u8 58), .lit (.int .u8 42), .lit (.int .u8 50), .lit (.int .u8 38), .lit (.int .u8 29), .lit (.int .u8 17), .lit (.int .u8 4), .lit (.int .u8 62), .lit (.int .u8 47), .lit (.int .u8 59), .lit (.int .u8 36), .lit (.int .u8 45), .lit (.int .u8 43), .lit (.int .u8 51), .lit (.int .u8 22), .lit (.int .u8 53), .lit (.int .u8 39), .lit (.int .u8 33), .lit (.int .u8 30), .lit (.int .u8 24), .lit (.int .u8 18), .lit (.int .u8 12), .lit (.int .u8 5), .lit (.int .u8 63), .lit (.int .u8 55), .lit (.int .u8 48), .lit (.int .u8 27), .lit (.int .u8 60), .lit (.int .u8 41), .lit (.int .u8 37), .lit (.int .u8 16), .lit (.int .u8 46), .lit (.int .u8 35), .lit (.int .u8 44), .lit (.int .u8 21), .lit (.int .u8 52), .lit (.int .u8 32), .lit (.int .u8 23), .lit (.int .u8 11), .lit (.int .u8 54), .lit (.int .u8 26), .lit (.int .u8 40), .lit (.int .u8 15), .lit (.int .u8 34), .lit (.int .u8 20), .lit (.int .u8 31), .lit (.int .u8 10), .lit (.int .u8 25), .lit (.int .u8 14), .lit (.int .u8 19), .lit (.int .u8 9), .lit (.int .u8 13), .lit (.int .u8 8), .lit (.int .u8 7), .lit (.int .u8 6)]

/-- 'laws.FnExactLeastThreshold': WHATEVER THE INPUT: true; the input reads as it did. -/
def fnExactLeastThresholdSpec : ChangeSpec := { name := "fnExactLeastThreshold", fn := fun _ => fun
  | [d] => { results := [.lit (.bool true)], args := [d] }
  | _ => none }
def fnExactLeastThresholdRow : OpenClaim := { program := "ytbodhioladafnaadoor", sum := "c1729626f2f933e478e3161b301dc9e0cc714d28af9c841f00f729d132937332", func := "loop.example/g01106/laws.FnExactLeastThreshold", spec := "fnExactLeastThreshold", named := ["math/bits.deBruijn32tab", "math/bits.deBruijn64tab"], apart := false, laid := [("math/bits.deBruijn32tab", laid_math_bits_deBruijn32tab), ("math/bits.deBruijn64tab", laid_math_bits_deBruijn64tab)] }
def FnExactLeastThresholdSaid : Prop := fnExactLeastThresholdRow.holds Tryd.pinned (OpenSpec.ofChange fnExactLeastThresholdSpec)

/-- ITS FALSE NEIGHBOUR: 'it returns false'. Refute it at one input. -/
def fnExactLeastThresholdWrong : ChangeSpec := { name := "fnExactLeastThreshold", fn := fun _ => fun
  | [d] => { results := [.lit (.bool false)], args := [d] }
  | _ => none }
def FnExactLeastThresholdWrongFalsely : Prop := fnExactLeastThresholdRow.holds Tryd.pinned (OpenSpec.ofChange fnExactLeastThresholdWrong)

/-- 'laws.FnExactLeastPlaces': WHATEVER THE INPUT: true; the input reads as it did. -/
def fnExactLeastPlacesSpec : ChangeSpec := { name := "fnExactLeastPlaces", fn := fun _ => fun
  | [d1, d2] => { results := [.lit (.bool true)], args := [d1, d2] }
  | _ => none }
def fnExactLeastPlacesRow : OpenClaim := { program := "ytbodhioladafnaadoor", sum := "c1729626f2f933e478e3161b301dc9e0cc714d28af9c841f00f729d132937332", func := "loop.example/g01106/laws.FnExactLeastPlaces", spec := "fnExactLeastPlaces", named := ["math/bits.deBruijn32tab", "math/bits.deBruijn64tab"], apart := false, laid := [("math/bits.deBruijn32tab", laid_math_bits_deBruijn32tab), ("math/bits.deBruijn64tab", laid_math_bits_deBruijn64tab)] }
def FnExactLeastPlacesSaid : Prop := fnExactLeastPlacesRow.holds Tryd.pinned (OpenSpec.ofChange fnExactLeastPlacesSpec)

/-- ITS FALSE NEIGHBOUR: 'it returns false'. Refute it at one input. -/
def fnExactLeastPlacesWrong : ChangeSpec := { name := "fnExactLeastPlaces", fn := fun _ => fun
  | [d1, d2] => { results := [.lit (.bool false)], args := [d1, d2] }
  | _ => none }
def FnExactLeastPlacesWrongFalsely : Prop := fnExactLeastPlacesRow.holds Tryd.pinned (OpenSpec.ofChange fnExactLeastPlacesWrong)

/-- 'laws.FnExactSlackOf': WHATEVER THE INPUT: true; the input reads as it did. -/
def fnExactSlackOfSpec : ChangeSpec := { name := "fnExactSlackOf", fn := fun _ => fun
  | [d1, d2, d3] => { results := [.lit (.bool true)], args := [d1, d2, d3] }
  | _ => none }
def fnExactSlackOfRow : OpenClaim := { program := "ytbodhioladafnaadoor", sum := "c1729626f2f933e478e3161b301dc9e0cc714d28af9c841f00f729d132937332", func := "loop.example/g01106/laws.FnExactSlackOf", spec := "fnExactSlackOf", unfollowed := true, recurses := true, named := ["math/bits.deBruijn32tab", "math/bits.deBruijn64tab"], apart := false, laid := [("math/bits.deBruijn32tab", laid_math_bits_deBruijn32tab), ("math/bits.deBruijn64tab", laid_math_bits_deBruijn64tab)] }
def FnExactSlackOfSaid : Prop := fnExactSlackOfRow.holds Tryd.pinned (OpenSpec.ofChange fnExactSlackOfSpec)

/-- ITS FALSE NEIGHBOUR: 'it returns false'. Refute it at one input. -/
def fnExactSlackOfWrong : ChangeSpec := { name := "fnExactSlackOf", fn := fun _ => fun
  | [d1, d2, d3] => { results := [.lit (.bool false)], args := [d1, d2, d3] }
  | _ => none }
def FnExactSlackOfWrongFalsely : Prop := fnExactSlackOfRow.holds Tryd.pinned (OpenSpec.ofChange fnExactSlackOfWrong)

/-- 'laws.FnExactDemandCycle': WHATEVER THE INPUT: true; the input reads as it did. -/
def fnExactDemandCycleSpec : ChangeSpec := { name := "fnExactDemandCycle", fn := fun _ => fun
  | [d1, d2] => { results := [.lit (.bool true)], args := [d1, d2] }
  | _ => none }
def fnExactDemandCycleRow : OpenClaim := { program := "ytbodhioladafnaadoor", sum := "c1729626f2f933e478e3161b301dc9e0cc714d28af9c841f00f729d132937332", func := "loop.example/g01106/laws.FnExactDemandCycle", spec := "fnExactDemandCycle", named := ["math/bits.deBruijn32tab", "math/bits.deBruijn64tab"], apart := false, laid := [("math/bits.deBruijn32tab", laid_math_bits_deBruijn32tab), ("math/bits.deBruijn64tab", laid_math_bits_deBruijn64tab)] }
def FnExactDemandCycleSaid : Prop := fnExactDemandCycleRow.holds Tryd.pinned (OpenSpec.ofChange fnExactDemandCycleSpec)

/-- ITS FALSE NEIGHBOUR: 'it returns false'. Refute it at one input. -/
def fnExactDemandCycleWrong : ChangeSpec := { name := "fnExactDemandCycle", fn := fun _ => fun
  | [d1, d2] => { results := [.lit (.bool false)], args := [d1, d2] }
  | _ => none }
def FnExactDemandCycleWrongFalsely : Prop := fnExactDemandCycleRow.holds Tryd.pinned (OpenSpec.ofChange fnExactDemandCycleWrong)

/-- 'laws.FnExactTraceList': WHATEVER THE INPUT: true; the input reads as it did. -/
def fnExactTraceListSpec : ChangeSpec := { name := "fnExactTraceList", fn := fun _ => fun
  | [d] => { results := [.lit (.bool true)], args := [d] }
  | _ => none }
def fnExactTraceListRow : OpenClaim := { program := "ytbodhioladafnaadoor", sum := "c1729626f2f933e478e3161b301dc9e0cc714d28af9c841f00f729d132937332", func := "loop.example/g01106/laws.FnExactTraceList", spec := "fnExactTraceList", unfollowed := true, recurses := true, named := ["math/bits.deBruijn32tab", "math/bits.deBruijn64tab"], apart := false, laid := [("math/bits.deBruijn32tab", laid_math_bits_deBruijn32tab), ("math/bits.deBruijn64tab", laid_math_bits_deBruijn64tab)] }
def FnExactTraceListSaid : Prop := fnExactTraceListRow.holds Tryd.pinned (OpenSpec.ofChange fnExactTraceListSpec)

/-- ITS FALSE NEIGHBOUR: 'it returns false'. Refute it at one input. -/
def fnExactTraceListWrong : ChangeSpec := { name := "fnExactTraceList", fn := fun _ => fun
  | [d] => { results := [.lit (.bool false)], args := [d] }
  | _ => none }
def FnExactTraceListWrongFalsely : Prop := fnExactTraceListRow.holds Tryd.pinned (OpenSpec.ofChange fnExactTraceListWrong)

/- THE SECOND FORM. 'bulk': how many values and letters a reading holds, each counted each time it is reached (what is shared counts as often as it is met; a slice's spare places count too). A statement '..UptoSaid' is the law's where the arguments, and the package variables that the reading takes, are together of bulk at most 1048576: NARROWER than '..Said'. Prove '..Said' where nothing that the law and all that it calls make is longer than what came in: it says more and counts as full. Else prove '..UptoSaid'. A law counts once. -/
mutual
def uptoBulk {H : Type} : DataW H → Nat
  | .lit (.string bytes) => bytes.length + 1
  | .lit _ => 1
  | .nil => 1
  | .ptr d => uptoBulk d + 1
  | .slice elems spare => uptoBulkAll elems + uptoBulkAll spare + 1
  | .agg parts => uptoBulkAll parts + 1
  | .iface _ d => uptoBulk d + 1
  | .map entries => uptoBulkEntries entries + 1
  | .held _ => 1
def uptoBulkAll {H : Type} : List (DataW H) → Nat
  | [] => 0
  | d :: r => uptoBulk d + uptoBulkAll r
def uptoBulkEntries {H : Type} : List (Lit × DataW H) → Nat
  | [] => 0
  | x :: r => uptoBulkEntry x + uptoBulkEntries r
def uptoBulkEntry {H : Type} : Lit × DataW H → Nat
  | (.string bytes, d) => bytes.length + uptoBulk d + 1
  | (_, d) => uptoBulk d + 1
 end
def uptoSmall : (H : Type) → List (DataW H) → Bool := fun _ ds => decide (uptoBulkAll ds ≤ 1048576)
def OpenSpec.upto (s : _root_.Go.ChangeSpec) : _root_.Go.OpenSpec := { _root_.Go.OpenSpec.ofChange s with cond := some uptoSmall }

/-- 'laws.FnExactLeastThreshold', WHERE WHAT IT READS IS OF BULK AT MOST 1048576: true; the input reads as it did. -/
def fnExactLeastThresholdUptoRow : OpenClaim := { program := "ytbodhioladafnaadoor", sum := "c1729626f2f933e478e3161b301dc9e0cc714d28af9c841f00f729d132937332", func := "loop.example/g01106/laws.FnExactLeastThreshold", spec := "fnExactLeastThreshold", named := ["math/bits.deBruijn32tab", "math/bits.deBruijn64tab"], apart := false, laid := [("math/bits.deBruijn32tab", laid_math_bits_deBruijn32tab), ("math/bits.deBruijn64tab", laid_math_bits_deBruijn64tab)], narrowed := true }
def FnExactLeastThresholdUptoSaid : Prop := fnExactLeastThresholdUptoRow.holds Tryd.pinned (OpenSpec.upto fnExactLeastThresholdSpec)

/-- 'laws.FnExactLeastPlaces', WHERE WHAT IT READS IS OF BULK AT MOST 1048576: true; the input reads as it did. -/
def fnExactLeastPlacesUptoRow : OpenClaim := { program := "ytbodhioladafnaadoor", sum := "c1729626f2f933e478e3161b301dc9e0cc714d28af9c841f00f729d132937332", func := "loop.example/g01106/laws.FnExactLeastPlaces", spec := "fnExactLeastPlaces", named := ["math/bits.deBruijn32tab", "math/bits.deBruijn64tab"], apart := false, laid := [("math/bits.deBruijn32tab", laid_math_bits_deBruijn32tab), ("math/bits.deBruijn64tab", laid_math_bits_deBruijn64tab)], narrowed := true }
def FnExactLeastPlacesUptoSaid : Prop := fnExactLeastPlacesUptoRow.holds Tryd.pinned (OpenSpec.upto fnExactLeastPlacesSpec)

/-- 'laws.FnExactSlackOf', WHERE WHAT IT READS IS OF BULK AT MOST 1048576: true; the input reads as it did. -/
def fnExactSlackOfUptoRow : OpenClaim := { program := "ytbodhioladafnaadoor", sum := "c1729626f2f933e478e3161b301dc9e0cc714d28af9c841f00f729d132937332", func := "loop.example/g01106/laws.FnExactSlackOf", spec := "fnExactSlackOf", unfollowed := true, recurses := true, named := ["math/bits.deBruijn32tab", "math/bits.deBruijn64tab"], apart := false, laid := [("math/bits.deBruijn32tab", laid_math_bits_deBruijn32tab), ("math/bits.deBruijn64tab", laid_math_bits_deBruijn64tab)], narrowed := true }
def FnExactSlackOfUptoSaid : Prop := fnExactSlackOfUptoRow.holds Tryd.pinned (OpenSpec.upto fnExactSlackOfSpec)

/-- 'laws.FnExactDemandCycle', WHERE WHAT IT READS IS OF BULK AT MOST 1048576: true; the input reads as it did. -/
def fnExactDemandCycleUptoRow : OpenClaim := { program := "ytbodhioladafnaadoor", sum := "c1729626f2f933e478e3161b301dc9e0cc714d28af9c841f00f729d132937332", func := "loop.example/g01106/laws.FnExactDemandCycle", spec := "fnExactDemandCycle", named := ["math/bits.deBruijn32tab", "math/bits.deBruijn64tab"], apart := false, laid := [("math/bits.deBruijn32tab", laid_math_bits_deBruijn32tab), ("math/bits.deBruijn64tab", laid_math_bits_deBruijn64tab)], narrowed := true }
def FnExactDemandCycleUptoSaid : Prop := fnExactDemandCycleUptoRow.holds Tryd.pinned (OpenSpec.upto fnExactDemandCycleSpec)

/-- 'laws.FnExactTraceList', WHERE WHAT IT READS IS OF BULK AT MOST 1048576: true; the input reads as it did. -/
def fnExactTraceListUptoRow : OpenClaim := { program := "ytbodhioladafnaadoor", sum := "c1729626f2f933e478e3161b301dc9e0cc714d28af9c841f00f729d132937332", func := "loop.example/g01106/laws.FnExactTraceList", spec := "fnExactTraceList", unfollowed := true, recurses := true, named := ["math/bits.deBruijn32tab", "math/bits.deBruijn64tab"], apart := false, laid := [("math/bits.deBruijn32tab", laid_math_bits_deBruijn32tab), ("math/bits.deBruijn64tab", laid_math_bits_deBruijn64tab)], narrowed := true }
def FnExactTraceListUptoSaid : Prop := fnExactTraceListUptoRow.holds Tryd.pinned (OpenSpec.upto fnExactTraceListSpec)

end Rows
end Go.Proofs.YtbodhioladafnaaDoor
