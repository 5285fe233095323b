/-
  NARROWER THAN 'FOR EVERY INPUT', by the rows' own cells (each row's printed sentence says how): FnExactRenameOf: laid · FnExactLongestChain: laid · FnExactCoversOf: laid · FnExactBesideOrders: laid · FnExactStackOrders: laid · FnExactThreeOneOf: laid · FnExactLargestAntichain: laid · FnExactChainNumbers: laid.
  DERIVED. THE GIVEN ROWS OF THIS SEAT. 8 by the template 'for every input the law returns true; each argument reads behind the call as it read before'; 0 by the template 'total and deterministic' (their statements: YtjbloapoaphgjaaDoorTotals.lean).
  GIVEN WITH THE SEED: the statements are not yours to turn. If you find one false, say at which input.
  Laid BY PROGRAM, IN A SANDBOX (cutbox-rows.mjs): the forced cells as the released guide's own fill.sh prints them over the translation cb4159a52d4d1a7a… (all of the seat's roots in one cut). By AI agents, Wed Nov 11 2026. No macro, syntax, notation, axiom, sorry.
-/
import Derived.Test.YtjbloapoaphgjaaDoorChecked
import GoSem.Claim
import GoSem.ClaimJoined
import GoSem.ClaimMapViews
import Derived.JoinedTies
import Derived.KernelRfl
namespace Go.Proofs.YtjbloapoaphgjaaDoor
/- THE CELL 'sum', in the pinned program and in every row, IS THE sha256 OF THE DUMP (.gsa) THAT YtjbloapoaphgjaaDoorProg.lean LOADS. Nothing in Lean hashes anything: it is a label: what it is worth is what the hold of that sum in a sandbox is worth. -/
noncomputable def Tryd.pinned : Pinned := { name := "ytjbloapoaphgjaadoor", sum := "cb4159a52d4d1a7ac9e1697236298b7cee3cbcb5f77d0cbabb675b19806ae35c", checked := Tryd.checked }
namespace Rows
def none {H : Type} : Left H := { results := [], args := [] }

/- WHAT THE LISTED PACKAGE-LEVEL VARIABLES READ AS WHEN THE CALL BEGINS. Each datum BY PROGRAM (the guide's laid-datum.mjs) off the statement by which the dump's own 'gosem.cut.vars' lays the variable. In a bare row this is a premise. The card (YtjbloapoaphgjaaDoorCards.lean) ties it to the program's text. -/
def laid_math_bits_deBruijn32tab {H : Type} : DataW H := .agg [.lit (.int .u8 0), .lit (.int .u8 1), .lit (.int .u8 28), .lit (.int .u8 2), .lit (.int .u8 29), .lit (.int .u8 14), .lit (.int .u8 24), .lit (.int .u8 3), .lit (.int .u8 30), .lit (.int .u8 22), .lit (.int .u8 20), .lit (.int .u8 15), .lit (.int .u8 25), .lit (.int .u8 17), .lit (.int .u8 4), .lit (.int .u8 8), .lit (.int .u8 31), .lit (.int .u8 27), .lit (.int .u8 13), .lit (.int .u8 23), .lit (.int .u8 21), .lit (.int .u8 19), .lit (.int .u8 16), .lit (.int .u8 7), .lit (.int .u8 26), .lit (.int .u8 12), .lit (.int .u8 18), .lit (.int .u8 6), .lit (.int .u8 11), .lit (.int .u8 5), .lit (.int .u8 10), .lit (.int .u8 9)]
def laid_math_bits_deBruijn64tab {H : Type} : DataW H := .agg [.lit (.int .u8 0), .lit (.int .u8 1), .lit (.int .u8 56), .lit (.int .u8 2), .lit (.int .u8 57), .lit (.int .u8 49), .lit (.int .u8 28), .lit (.int .u8 3), .lit (.int .u8 61), .lit (.int .u8 58), .lit (.int .u8 42), .lit (.int .u8 50), .lit (.int .u8 38), .lit (.int .u8 29), .lit (.int .u8 17), .lit (.int .u8 4), .lit (.int .u8 62), .lit (.int .u8 47), .lit (.int .u8 59), .lit (.int .u8 36), .lit (.int .u8 45), .lit (.int .u8 43), .lit (.int .u8 51), .lit (.int .u8 22), .lit (.int .u8 53), .lit (.int .u8 39), .lit (.int .u8 33), .lit (.int .u8 30), .lit (.int .u8 24), .lit (.int .u8 18), .lit (.int .u8 12), .lit (.int .u8 5), .lit (.int .u8 63), .lit (.int .u8 55), .lit (.int .u8 48), .lit (.int .u8 27), .lit (.int .u8 60), .lit (.int .u8 41), .lit (.int .u8 37), .lit (.int .u8 16), .lit (.int .u8 46), .lit (.int .u8 35), .lit (.int .u8 44), .lit (.int .u8 21), .lit (.int .u8 52), .lit (.int .u8 32), .lit (.int .u8 23), .lit (.int .u8 11), .lit (.int .u8 54), .lit (.int .u8 26), .lit (.int .u8 40), .lit (.int .u8 15), .lit (.int .u8 34), .lit (.int .u8 20), .lit (.int .u8 31), .lit (.int .u8 10), .lit (.int .u8 25), .lit (.int .u8 14), .lit (.int .u8 19), .lit (.int .u8 9), .lit (.int .u8 13), .lit (.int .u8 8), .lit (.int .u8 7), .lit (.int .u8 6)]

/-- 'laws.FnExactRenameOf': WHATEVER THE INPUT: true; the input reads as it did. -/
def fnExactRenameOfSpec : ChangeSpec := { name := "fnExactRenameOf", fn := fun _ => fun
  | [d1, d2] => { results := [.lit (.bool true)], args := [d1, d2] }
  | _ => none }
def fnExactRenameOfRow : OpenClaim := { program := "ytjbloapoaphgjaadoor", sum := "cb4159a52d4d1a7ac9e1697236298b7cee3cbcb5f77d0cbabb675b19806ae35c", func := "loop.example/g01106/laws.FnExactRenameOf", spec := "fnExactRenameOf", named := ["math/bits.deBruijn32tab", "math/bits.deBruijn64tab"], apart := false, laid := [("math/bits.deBruijn32tab", laid_math_bits_deBruijn32tab), ("math/bits.deBruijn64tab", laid_math_bits_deBruijn64tab)] }
def FnExactRenameOfSaid : Prop := fnExactRenameOfRow.holds Tryd.pinned (OpenSpec.ofChange fnExactRenameOfSpec)

/-- ITS FALSE NEIGHBOUR: 'it returns false'. Refute it at one input. -/
def fnExactRenameOfWrong : ChangeSpec := { name := "fnExactRenameOf", fn := fun _ => fun
  | [d1, d2] => { results := [.lit (.bool false)], args := [d1, d2] }
  | _ => none }
def FnExactRenameOfWrongFalsely : Prop := fnExactRenameOfRow.holds Tryd.pinned (OpenSpec.ofChange fnExactRenameOfWrong)

/-- 'laws.FnExactLongestChain': WHATEVER THE INPUT: true; the input reads as it did. -/
def fnExactLongestChainSpec : ChangeSpec := { name := "fnExactLongestChain", fn := fun _ => fun
  | [d] => { results := [.lit (.bool true)], args := [d] }
  | _ => none }
def fnExactLongestChainRow : OpenClaim := { program := "ytjbloapoaphgjaadoor", sum := "cb4159a52d4d1a7ac9e1697236298b7cee3cbcb5f77d0cbabb675b19806ae35c", func := "loop.example/g01106/laws.FnExactLongestChain", spec := "fnExactLongestChain", unfollowed := true, recurses := true, named := ["math/bits.deBruijn32tab", "math/bits.deBruijn64tab"], apart := false, laid := [("math/bits.deBruijn32tab", laid_math_bits_deBruijn32tab), ("math/bits.deBruijn64tab", laid_math_bits_deBruijn64tab)] }
def FnExactLongestChainSaid : Prop := fnExactLongestChainRow.holds Tryd.pinned (OpenSpec.ofChange fnExactLongestChainSpec)

/-- ITS FALSE NEIGHBOUR: 'it returns false'. Refute it at one input. -/
def fnExactLongestChainWrong : ChangeSpec := { name := "fnExactLongestChain", fn := fun _ => fun
  | [d] => { results := [.lit (.bool false)], args := [d] }
  | _ => none }
def FnExactLongestChainWrongFalsely : Prop := fnExactLongestChainRow.holds Tryd.pinned (OpenSpec.ofChange fnExactLongestChainWrong)

/-- 'laws.FnExactCoversOf': WHATEVER THE INPUT: true; the input reads as it did. -/
def fnExactCoversOfSpec : ChangeSpec := { name := "fnExactCoversOf", fn := fun _ => fun
  | [d] => { results := [.lit (.bool true)], args := [d] }
  | _ => none }
def fnExactCoversOfRow : OpenClaim := { program := "ytjbloapoaphgjaadoor", sum := "cb4159a52d4d1a7ac9e1697236298b7cee3cbcb5f77d0cbabb675b19806ae35c", func := "loop.example/g01106/laws.FnExactCoversOf", spec := "fnExactCoversOf", unfollowed := true, recurses := true, named := ["math/bits.deBruijn32tab", "math/bits.deBruijn64tab"], apart := false, laid := [("math/bits.deBruijn32tab", laid_math_bits_deBruijn32tab), ("math/bits.deBruijn64tab", laid_math_bits_deBruijn64tab)] }
def FnExactCoversOfSaid : Prop := fnExactCoversOfRow.holds Tryd.pinned (OpenSpec.ofChange fnExactCoversOfSpec)

/-- ITS FALSE NEIGHBOUR: 'it returns false'. Refute it at one input. -/
def fnExactCoversOfWrong : ChangeSpec := { name := "fnExactCoversOf", fn := fun _ => fun
  | [d] => { results := [.lit (.bool false)], args := [d] }
  | _ => none }
def FnExactCoversOfWrongFalsely : Prop := fnExactCoversOfRow.holds Tryd.pinned (OpenSpec.ofChange fnExactCoversOfWrong)

/-- 'laws.FnExactBesideOrders': WHATEVER THE INPUT: true; the input reads as it did. -/
def fnExactBesideOrdersSpec : ChangeSpec := { name := "fnExactBesideOrders", fn := fun _ => fun
  | [d1, d2] => { results := [.lit (.bool true)], args := [d1, d2] }
  | _ => none }
def fnExactBesideOrdersRow : OpenClaim := { program := "ytjbloapoaphgjaadoor", sum := "cb4159a52d4d1a7ac9e1697236298b7cee3cbcb5f77d0cbabb675b19806ae35c", func := "loop.example/g01106/laws.FnExactBesideOrders", spec := "fnExactBesideOrders", unfollowed := true, recurses := true, named := ["math/bits.deBruijn32tab", "math/bits.deBruijn64tab"], apart := false, laid := [("math/bits.deBruijn32tab", laid_math_bits_deBruijn32tab), ("math/bits.deBruijn64tab", laid_math_bits_deBruijn64tab)] }
def FnExactBesideOrdersSaid : Prop := fnExactBesideOrdersRow.holds Tryd.pinned (OpenSpec.ofChange fnExactBesideOrdersSpec)

/-- ITS FALSE NEIGHBOUR: 'it returns false'. Refute it at one input. -/
def fnExactBesideOrdersWrong : ChangeSpec := { name := "fnExactBesideOrders", fn := fun _ => fun
  | [d1, d2] => { results := [.lit (.bool false)], args := [d1, d2] }
  | _ => none }
def FnExactBesideOrdersWrongFalsely : Prop := fnExactBesideOrdersRow.holds Tryd.pinned (OpenSpec.ofChange fnExactBesideOrdersWrong)

/-- 'laws.FnExactStackOrders': WHATEVER THE INPUT: true; the input reads as it did. -/
def fnExactStackOrdersSpec : ChangeSpec := { name := "fnExactStackOrders", fn := fun _ => fun
  | [d1, d2] => { results := [.lit (.bool true)], args := [d1, d2] }
  | _ => none }
def fnExactStackOrdersRow : OpenClaim := { program := "ytjbloapoaphgjaadoor", sum := "cb4159a52d4d1a7ac9e1697236298b7cee3cbcb5f77d0cbabb675b19806ae35c", func := "loop.example/g01106/laws.FnExactStackOrders", spec := "fnExactStackOrders", unfollowed := true, recurses := true, named := ["math/bits.deBruijn32tab", "math/bits.deBruijn64tab"], apart := false, laid := [("math/bits.deBruijn32tab", laid_math_bits_deBruijn32tab), ("math/bits.deBruijn64tab", laid_math_bits_deBruijn64tab)] }
def FnExactStackOrdersSaid : Prop := fnExactStackOrdersRow.holds Tryd.pinned (OpenSpec.ofChange fnExactStackOrdersSpec)

/-- ITS FALSE NEIGHBOUR: 'it returns false'. Refute it at one input. -/
def fnExactStackOrdersWrong : ChangeSpec := { name := "fnExactStackOrders", fn := fun _ => fun
  | [d1, d2] => { results := [.lit (.bool false)], args := [d1, d2] }
  | _ => none }
def FnExactStackOrdersWrongFalsely : Prop := fnExactStackOrdersRow.holds Tryd.pinned (OpenSpec.ofChange fnExactStackOrdersWrong)

/-- 'laws.FnExactThreeOneOf': WHATEVER THE INPUT: true; the input reads as it did. -/
def fnExactThreeOneOfSpec : ChangeSpec := { name := "fnExactThreeOneOf", fn := fun _ => fun
  | [d] => { results := [.lit (.bool true)], args := [d] }
  | _ => none }
def fnExactThreeOneOfRow : OpenClaim := { program := "ytjbloapoaphgjaadoor", sum := "cb4159a52d4d1a7ac9e1697236298b7cee3cbcb5f77d0cbabb675b19806ae35c", func := "loop.example/g01106/laws.FnExactThreeOneOf", spec := "fnExactThreeOneOf", unfollowed := true, recurses := true, named := ["math/bits.deBruijn32tab", "math/bits.deBruijn64tab"], apart := false, laid := [("math/bits.deBruijn32tab", laid_math_bits_deBruijn32tab), ("math/bits.deBruijn64tab", laid_math_bits_deBruijn64tab)] }
def FnExactThreeOneOfSaid : Prop := fnExactThreeOneOfRow.holds Tryd.pinned (OpenSpec.ofChange fnExactThreeOneOfSpec)

/-- ITS FALSE NEIGHBOUR: 'it returns false'. Refute it at one input. -/
def fnExactThreeOneOfWrong : ChangeSpec := { name := "fnExactThreeOneOf", fn := fun _ => fun
  | [d] => { results := [.lit (.bool false)], args := [d] }
  | _ => none }
def FnExactThreeOneOfWrongFalsely : Prop := fnExactThreeOneOfRow.holds Tryd.pinned (OpenSpec.ofChange fnExactThreeOneOfWrong)

/-- 'laws.FnExactLargestAntichain': WHATEVER THE INPUT: true; the input reads as it did. -/
def fnExactLargestAntichainSpec : ChangeSpec := { name := "fnExactLargestAntichain", fn := fun _ => fun
  | [d] => { results := [.lit (.bool true)], args := [d] }
  | _ => none }
def fnExactLargestAntichainRow : OpenClaim := { program := "ytjbloapoaphgjaadoor", sum := "cb4159a52d4d1a7ac9e1697236298b7cee3cbcb5f77d0cbabb675b19806ae35c", func := "loop.example/g01106/laws.FnExactLargestAntichain", spec := "fnExactLargestAntichain", unfollowed := true, recurses := true, named := ["math/bits.deBruijn32tab", "math/bits.deBruijn64tab"], apart := false, laid := [("math/bits.deBruijn32tab", laid_math_bits_deBruijn32tab), ("math/bits.deBruijn64tab", laid_math_bits_deBruijn64tab)] }
def FnExactLargestAntichainSaid : Prop := fnExactLargestAntichainRow.holds Tryd.pinned (OpenSpec.ofChange fnExactLargestAntichainSpec)

/-- ITS FALSE NEIGHBOUR: 'it returns false'. Refute it at one input. -/
def fnExactLargestAntichainWrong : ChangeSpec := { name := "fnExactLargestAntichain", fn := fun _ => fun
  | [d] => { results := [.lit (.bool false)], args := [d] }
  | _ => none }
def FnExactLargestAntichainWrongFalsely : Prop := fnExactLargestAntichainRow.holds Tryd.pinned (OpenSpec.ofChange fnExactLargestAntichainWrong)

/-- 'laws.FnExactChainNumbers': WHATEVER THE INPUT: true; the input reads as it did. -/
def fnExactChainNumbersSpec : ChangeSpec := { name := "fnExactChainNumbers", fn := fun _ => fun
  | [d] => { results := [.lit (.bool true)], args := [d] }
  | _ => none }
def fnExactChainNumbersRow : OpenClaim := { program := "ytjbloapoaphgjaadoor", sum := "cb4159a52d4d1a7ac9e1697236298b7cee3cbcb5f77d0cbabb675b19806ae35c", func := "loop.example/g01106/laws.FnExactChainNumbers", spec := "fnExactChainNumbers", unfollowed := true, recurses := true, named := ["math/bits.deBruijn32tab", "math/bits.deBruijn64tab"], apart := false, laid := [("math/bits.deBruijn32tab", laid_math_bits_deBruijn32tab), ("math/bits.deBruijn64tab", laid_math_bits_deBruijn64tab)] }
def FnExactChainNumbersSaid : Prop := fnExactChainNumbersRow.holds Tryd.pinned (OpenSpec.ofChange fnExactChainNumbersSpec)

/-- ITS FALSE NEIGHBOUR: 'it returns false'. Refute it at one input. -/
def fnExactChainNumbersWrong : ChangeSpec := { name := "fnExactChainNumbers", fn := fun _ => fun
  | [d] => { results := [.lit (.bool false)], args := [d] }
  | _ => none }
def FnExactChainNumbersWrongFalsely : Prop := fnExactChainNumbersRow.holds Tryd.pinned (OpenSpec.ofChange fnExactChainNumbersWrong)

/- THE SECOND FORM. 'bulk': how many values and letters a reading holds, each counted each time it is reached (what is shared counts as often as it is met; a slice's spare places count too). A statement '..UptoSaid' is the law's where the arguments, and the package variables that the reading takes, are together of bulk at most 1048576: NARROWER than '..Said'. Prove '..Said' where nothing that the law and all that it calls make is longer than what came in: it says more and counts as full. Else prove '..UptoSaid'. A law counts once. -/
mutual
def uptoBulk {H : Type} : DataW H → Nat
  | .lit (.string bytes) => bytes.length + 1
  | .lit _ => 1
  | .nil => 1
  | .ptr d => uptoBulk d + 1
  | .slice elems spare => uptoBulkAll elems + uptoBulkAll spare + 1
  | .agg parts => uptoBulkAll parts + 1
  | .iface _ d => uptoBulk d + 1
  | .map entries => uptoBulkEntries entries + 1
  | .held _ => 1
def uptoBulkAll {H : Type} : List (DataW H) → Nat
  | [] => 0
  | d :: r => uptoBulk d + uptoBulkAll r
def uptoBulkEntries {H : Type} : List (Lit × DataW H) → Nat
  | [] => 0
  | x :: r => uptoBulkEntry x + uptoBulkEntries r
def uptoBulkEntry {H : Type} : Lit × DataW H → Nat
  | (.string bytes, d) => bytes.length + uptoBulk d + 1
  | (_, d) => uptoBulk d + 1
 end
def uptoSmall : (H : Type) → List (DataW H) → Bool := fun _ ds => decide (uptoBulkAll ds ≤ 1048576)
def OpenSpec.upto (s : _root_.Go.ChangeSpec) : _root_.Go.OpenSpec := { _root_.Go.OpenSpec.ofChange s with cond := some uptoSmall }

/-- 'laws.FnExactRenameOf', WHERE WHAT IT READS IS OF BULK AT MOST 1048576: true; the input reads as it did. -/
def fnExactRenameOfUptoRow : OpenClaim := { program := "ytjbloapoaphgjaadoor", sum := "cb4159a52d4d1a7ac9e1697236298b7cee3cbcb5f77d0cbabb675b19806ae35c", func := "loop.example/g01106/laws.FnExactRenameOf", spec := "fnExactRenameOf", named := ["math/bits.deBruijn32tab", "math/bits.deBruijn64tab"], apart := false, laid := [("math/bits.deBruijn32tab", laid_math_bits_deBruijn32tab), ("math/bits.deBruijn64tab", laid_math_bits_deBruijn64tab)], narrowed := true }
def FnExactRenameOfUptoSaid : Prop := fnExactRenameOfUptoRow.holds Tryd.pinned (OpenSpec.upto fnExactRenameOfSpec)

/-- 'laws.FnExactLongestChain', WHERE WHAT IT READS IS OF BULK AT MOST 1048576: true; the input reads as it did. -/
def fnExactLongestChainUptoRow : OpenClaim := { program := "ytjbloapoaphgjaadoor", sum := "cb4159a52d4d1a7ac9e1697236298b7cee3cbcb5f77d0cbabb675b19806ae35c", func := "loop.example/g01106/laws.FnExactLongestChain", spec := "fnExactLongestChain", unfollowed := true, recurses := true, named := ["math/bits.deBruijn32tab", "math/bits.deBruijn64tab"], apart := false, laid := [("math/bits.deBruijn32tab", laid_math_bits_deBruijn32tab), ("math/bits.deBruijn64tab", laid_math_bits_deBruijn64tab)], narrowed := true }
def FnExactLongestChainUptoSaid : Prop := fnExactLongestChainUptoRow.holds Tryd.pinned (OpenSpec.upto fnExactLongestChainSpec)

/-- 'laws.FnExactCoversOf', WHERE WHAT IT READS IS OF BULK AT MOST 1048576: true; the input reads as it did. -/
def fnExactCoversOfUptoRow : OpenClaim := { program := "ytjbloapoaphgjaadoor", sum := "cb4159a52d4d1a7ac9e1697236298b7cee3cbcb5f77d0cbabb675b19806ae35c", func := "loop.example/g01106/laws.FnExactCoversOf", spec := "fnExactCoversOf", unfollowed := true, recurses := true, named := ["math/bits.deBruijn32tab", "math/bits.deBruijn64tab"], apart := false, laid := [("math/bits.deBruijn32tab", laid_math_bits_deBruijn32tab), ("math/bits.deBruijn64tab", laid_math_bits_deBruijn64tab)], narrowed := true }
def FnExactCoversOfUptoSaid : Prop := fnExactCoversOfUptoRow.holds Tryd.pinned (OpenSpec.upto fnExactCoversOfSpec)

/-- 'laws.FnExactBesideOrders', WHERE WHAT IT READS IS OF BULK AT MOST 1048576: true; the input reads as it did. -/
def fnExactBesideOrdersUptoRow : OpenClaim := { program := "ytjbloapoaphgjaadoor", sum := "cb4159a52d4d1a7ac9e1697236298b7cee3cbcb5f77d0cbabb675b19806ae35c", func := "loop.example/g01106/laws.FnExactBesideOrders", spec := "fnExactBesideOrders", unfollowed := true, recurses := true, named := ["math/bits.deBruijn32tab", "math/bits.deBruijn64tab"], apart := false, laid := [("math/bits.deBruijn32tab", laid_math_bits_deBruijn32tab), ("math/bits.deBruijn64tab", laid_math_bits_deBruijn64tab)], narrowed := true }
def FnExactBesideOrdersUptoSaid : Prop := fnExactBesideOrdersUptoRow.holds Tryd.pinned (OpenSpec.upto fnExactBesideOrdersSpec)

/-- 'laws.FnExactStackOrders', WHERE WHAT IT READS IS OF BULK AT MOST 1048576: true; the input reads as it did. -/
def fnExactStackOrdersUptoRow : OpenClaim := { program := "ytjbloapoaphgjaadoor", sum := "cb4159a52d4d1a7ac9e1697236298b7cee3cbcb5f77d0cbabb675b19806ae35c", func := "loop.example/g01106/laws.FnExactStackOrders", spec := "fnExactStackOrders", unfollowed := true, recurses := true, named := ["math/bits.deBruijn32tab", "math/bits.deBruijn64tab"], apart := false, laid := [("math/bits.deBruijn32tab", laid_math_bits_deBruijn32tab), ("math/bits.deBruijn64tab", laid_math_bits_deBruijn64tab)], narrowed := true }
def FnExactStackOrdersUptoSaid : Prop := fnExactStackOrdersUptoRow.holds Tryd.pinned (OpenSpec.upto fnExactStackOrdersSpec)

/-- 'laws.FnExactThreeOneOf', WHERE WHAT IT READS IS OF BULK AT MOST 1048576: true; the input reads as it did. -/
def fnExactThreeOneOfUptoRow : OpenClaim := { program := "ytjbloapoaphgjaadoor", sum := "cb4159a52d4d1a7ac9e1697236298b7cee3cbcb5f77d0cbabb675b19806ae35c", func := "loop.example/g01106/laws.FnExactThreeOneOf", spec := "fnExactThreeOneOf", unfollowed := true, recurses := true, named := ["math/bits.deBruijn32tab", "math/bits.deBruijn64tab"], apart := false, laid := [("math/bits.deBruijn32tab", laid_math_bits_deBruijn32tab), ("math/bits.deBruijn64tab", laid_math_bits_deBruijn64tab)], narrowed := true }
def FnExactThreeOneOfUptoSaid : Prop := fnExactThreeOneOfUptoRow.holds Tryd.pinned (OpenSpec.upto fnExactThreeOneOfSpec)

/-- 'laws.FnExactLargestAntichain', WHERE WHAT IT READS IS OF BULK AT MOST 1048576: true; the input reads as it did. -/
def fnExactLargestAntichainUptoRow : OpenClaim := { program := "ytjbloapoaphgjaadoor", sum := "cb4159a52d4d1a7ac9e1697236298b7cee3cbcb5f77d0cbabb675b19806ae35c", func := "loop.example/g01106/laws.FnExactLargestAntichain", spec := "fnExactLargestAntichain", unfollowed := true, recurses := true, named := ["math/bits.deBruijn32tab", "math/bits.deBruijn64tab"], apart := false, laid := [("math/bits.deBruijn32tab", laid_math_bits_deBruijn32tab), ("math/bits.deBruijn64tab", laid_math_bits_deBruijn64tab)], narrowed := true }
def FnExactLargestAntichainUptoSaid : Prop := fnExactLargestAntichainUptoRow.holds Tryd.pinned (OpenSpec.upto fnExactLargestAntichainSpec)

/-- 'laws.FnExactChainNumbers', WHERE WHAT IT READS IS OF BULK AT MOST 1048576: true; the input reads as it did. -/
def fnExactChainNumbersUptoRow : OpenClaim := { program := "ytjbloapoaphgjaadoor", sum := "cb4159a52d4d1a7ac9e1697236298b7cee3cbcb5f77d0cbabb675b19806ae35c", func := "loop.example/g01106/laws.FnExactChainNumbers", spec := "fnExactChainNumbers", unfollowed := true, recurses := true, named := ["math/bits.deBruijn32tab", "math/bits.deBruijn64tab"], apart := false, laid := [("math/bits.deBruijn32tab", laid_math_bits_deBruijn32tab), ("math/bits.deBruijn64tab", laid_math_bits_deBruijn64tab)], narrowed := true }
def FnExactChainNumbersUptoSaid : Prop := fnExactChainNumbersUptoRow.holds Tryd.pinned (OpenSpec.upto fnExactChainNumbersSpec)

end Rows
end Go.Proofs.YtjbloapoaphgjaaDoor
