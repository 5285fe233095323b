/-
  DERIVED. GIVEN WITH THE SEED: THE CARDS: each row of YthfkdgecclnffaaDoorRows.lean that lists a variable, with what it lists TIED to the program's text (the seventh form; the later family's looks); each row that meets fmt, with fmt's text TOLD by the authors' own Lean function (tested against real Go, not proved from fmt's source: count such statements apart). THE CARD IS WHAT COUNTS. Prove the row's statement (the work); the ties are given (YthfkdgecclnffaaDoorTie.lean); close each card by the builder's one call (the guide's Derived/Test/ToyasCard.lean, 'card_holds'). Laid BY PROGRAM, IN A SANDBOX (cutbox-door.mjs). By AI agents, Wed Nov 11 2026. No macro, syntax, notation, axiom, sorry.
-/
import Derived.Test.YthfkdgecclnffaaDoorRows
import GoSem.ClaimSeven
namespace Go.Proofs.YthfkdgecclnffaaDoor
namespace Rows

/-- THE TIED CARD OF 'laws.FnExactParseOrder'. -/
def fnExactParseOrderCard : Claim7 := { stood := { row := fnExactParseOrderRow, standIns := [], harness := (true, "27ed69694f0066cbb5d30c3bdbfffbf51efdf04339a3437b93d3335fb2012254"), looks := true }, kinds := [], alts := [], laidByText := true, laidKinds := [.data, .data, .data, .data, .sentinel, .sentinel, .pinned], laidTests := true, laidLooks := .later }
def FnExactParseOrderCardSaid : Prop := Claim7.holds Tryd.pinned (.plain (OpenSpec.ofChange fnExactParseOrderSpec)) fnExactParseOrderCard

/-- THE TIED CARD OF 'laws.FnExactOrderText'. -/
def fnExactOrderTextCard : Claim7 := { stood := { row := fnExactOrderTextRow, standIns := [], harness := (true, "27ed69694f0066cbb5d30c3bdbfffbf51efdf04339a3437b93d3335fb2012254"), looks := true }, kinds := [], alts := [], laidByText := true, laidKinds := [.data, .data, .data], laidTests := true, laidLooks := .later }
def FnExactOrderTextCardSaid : Prop := Claim7.holds Tryd.pinned (.plain (OpenSpec.ofChange fnExactOrderTextSpec)) fnExactOrderTextCard

/-- THE SECOND FORM's CARD OF 'laws.FnExactParseOrder'. -/
def fnExactParseOrderUptoCard : Claim7 := { stood := { row := fnExactParseOrderUptoRow, standIns := [], harness := (true, "27ed69694f0066cbb5d30c3bdbfffbf51efdf04339a3437b93d3335fb2012254"), looks := true }, kinds := [], alts := [], laidByText := true, laidKinds := [.data, .data, .data, .data, .sentinel, .sentinel, .pinned], laidTests := true, laidLooks := .later }
def FnExactParseOrderUptoCardSaid : Prop := Claim7.holds Tryd.pinned (.plain (OpenSpec.upto fnExactParseOrderSpec)) fnExactParseOrderUptoCard

/-- THE SECOND FORM's CARD OF 'laws.FnExactOrderText'. -/
def fnExactOrderTextUptoCard : Claim7 := { stood := { row := fnExactOrderTextUptoRow, standIns := [], harness := (true, "27ed69694f0066cbb5d30c3bdbfffbf51efdf04339a3437b93d3335fb2012254"), looks := true }, kinds := [], alts := [], laidByText := true, laidKinds := [.data, .data, .data], laidTests := true, laidLooks := .later }
def FnExactOrderTextUptoCardSaid : Prop := Claim7.holds Tryd.pinned (.plain (OpenSpec.upto fnExactOrderTextSpec)) fnExactOrderTextUptoCard
end Rows
end Go.Proofs.YthfkdgecclnffaaDoor
