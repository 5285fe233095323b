/-
  DERIVED. GIVEN WITH THE SEED: THE CARDS: each row of YtbodhioladafnaaDoorRows.lean that lists a variable, with what it lists TIED to the program's text (the seventh form; the later family's looks); each row that meets fmt, with fmt's text TOLD by the authors' own Lean function (tested against real Go, not proved from fmt's source: count such statements apart). THE CARD IS WHAT COUNTS. Prove the row's statement (the work); the ties are given (YtbodhioladafnaaDoorTie.lean); close each card by the builder's one call (the guide's Derived/Test/ToyasCard.lean, 'card_holds'). Laid BY PROGRAM, IN A SANDBOX (cutbox-door.mjs). By AI agents, Wed Nov 11 2026. No macro, syntax, notation, axiom, sorry.
-/
import Derived.Test.YtbodhioladafnaaDoorRows
import GoSem.ClaimSeven
namespace Go.Proofs.YtbodhioladafnaaDoor
namespace Rows

/-- THE TIED CARD OF 'laws.FnExactLeastThreshold'. -/
def fnExactLeastThresholdCard : Claim7 := { stood := { row := fnExactLeastThresholdRow, standIns := [], harness := (true, "564f2aeaa2f4fcb78beb6a36af174d6b9a969504fd597ce970fe6b374bbe5f45"), looks := false }, kinds := [], alts := [], laidByText := true, laidKinds := [.data, .data], laidTests := true, laidLooks := .later }
def FnExactLeastThresholdCardSaid : Prop := Claim7.holds Tryd.pinned (.plain (OpenSpec.ofChange fnExactLeastThresholdSpec)) fnExactLeastThresholdCard

/-- THE TIED CARD OF 'laws.FnExactLeastPlaces'. -/
def fnExactLeastPlacesCard : Claim7 := { stood := { row := fnExactLeastPlacesRow, standIns := [], harness := (true, "564f2aeaa2f4fcb78beb6a36af174d6b9a969504fd597ce970fe6b374bbe5f45"), looks := false }, kinds := [], alts := [], laidByText := true, laidKinds := [.data, .data], laidTests := true, laidLooks := .later }
def FnExactLeastPlacesCardSaid : Prop := Claim7.holds Tryd.pinned (.plain (OpenSpec.ofChange fnExactLeastPlacesSpec)) fnExactLeastPlacesCard

/-- THE TIED CARD OF 'laws.FnExactSlackOf'. -/
def fnExactSlackOfCard : Claim7 := { stood := { row := fnExactSlackOfRow, standIns := [], harness := (true, "564f2aeaa2f4fcb78beb6a36af174d6b9a969504fd597ce970fe6b374bbe5f45"), looks := false }, kinds := [], alts := [], laidByText := true, laidKinds := [.data, .data], laidTests := true, laidLooks := .later }
def FnExactSlackOfCardSaid : Prop := Claim7.holds Tryd.pinned (.plain (OpenSpec.ofChange fnExactSlackOfSpec)) fnExactSlackOfCard

/-- THE TIED CARD OF 'laws.FnExactDemandCycle'. -/
def fnExactDemandCycleCard : Claim7 := { stood := { row := fnExactDemandCycleRow, standIns := [], harness := (true, "564f2aeaa2f4fcb78beb6a36af174d6b9a969504fd597ce970fe6b374bbe5f45"), looks := false }, kinds := [], alts := [], laidByText := true, laidKinds := [.data, .data], laidTests := true, laidLooks := .later }
def FnExactDemandCycleCardSaid : Prop := Claim7.holds Tryd.pinned (.plain (OpenSpec.ofChange fnExactDemandCycleSpec)) fnExactDemandCycleCard

/-- THE TIED CARD OF 'laws.FnExactTraceList'. -/
def fnExactTraceListCard : Claim7 := { stood := { row := fnExactTraceListRow, standIns := [], harness := (true, "564f2aeaa2f4fcb78beb6a36af174d6b9a969504fd597ce970fe6b374bbe5f45"), looks := false }, kinds := [], alts := [], laidByText := true, laidKinds := [.data, .data], laidTests := true, laidLooks := .later }
def FnExactTraceListCardSaid : Prop := Claim7.holds Tryd.pinned (.plain (OpenSpec.ofChange fnExactTraceListSpec)) fnExactTraceListCard

/-- THE SECOND FORM's CARD OF 'laws.FnExactLeastThreshold'. -/
def fnExactLeastThresholdUptoCard : Claim7 := { stood := { row := fnExactLeastThresholdUptoRow, standIns := [], harness := (true, "564f2aeaa2f4fcb78beb6a36af174d6b9a969504fd597ce970fe6b374bbe5f45"), looks := false }, kinds := [], alts := [], laidByText := true, laidKinds := [.data, .data], laidTests := true, laidLooks := .later }
def FnExactLeastThresholdUptoCardSaid : Prop := Claim7.holds Tryd.pinned (.plain (OpenSpec.upto fnExactLeastThresholdSpec)) fnExactLeastThresholdUptoCard

/-- THE SECOND FORM's CARD OF 'laws.FnExactLeastPlaces'. -/
def fnExactLeastPlacesUptoCard : Claim7 := { stood := { row := fnExactLeastPlacesUptoRow, standIns := [], harness := (true, "564f2aeaa2f4fcb78beb6a36af174d6b9a969504fd597ce970fe6b374bbe5f45"), looks := false }, kinds := [], alts := [], laidByText := true, laidKinds := [.data, .data], laidTests := true, laidLooks := .later }
def FnExactLeastPlacesUptoCardSaid : Prop := Claim7.holds Tryd.pinned (.plain (OpenSpec.upto fnExactLeastPlacesSpec)) fnExactLeastPlacesUptoCard

/-- THE SECOND FORM's CARD OF 'laws.FnExactSlackOf'. -/
def fnExactSlackOfUptoCard : Claim7 := { stood := { row := fnExactSlackOfUptoRow, standIns := [], harness := (true, "564f2aeaa2f4fcb78beb6a36af174d6b9a969504fd597ce970fe6b374bbe5f45"), looks := false }, kinds := [], alts := [], laidByText := true, laidKinds := [.data, .data], laidTests := true, laidLooks := .later }
def FnExactSlackOfUptoCardSaid : Prop := Claim7.holds Tryd.pinned (.plain (OpenSpec.upto fnExactSlackOfSpec)) fnExactSlackOfUptoCard

/-- THE SECOND FORM's CARD OF 'laws.FnExactDemandCycle'. -/
def fnExactDemandCycleUptoCard : Claim7 := { stood := { row := fnExactDemandCycleUptoRow, standIns := [], harness := (true, "564f2aeaa2f4fcb78beb6a36af174d6b9a969504fd597ce970fe6b374bbe5f45"), looks := false }, kinds := [], alts := [], laidByText := true, laidKinds := [.data, .data], laidTests := true, laidLooks := .later }
def FnExactDemandCycleUptoCardSaid : Prop := Claim7.holds Tryd.pinned (.plain (OpenSpec.upto fnExactDemandCycleSpec)) fnExactDemandCycleUptoCard

/-- THE SECOND FORM's CARD OF 'laws.FnExactTraceList'. -/
def fnExactTraceListUptoCard : Claim7 := { stood := { row := fnExactTraceListUptoRow, standIns := [], harness := (true, "564f2aeaa2f4fcb78beb6a36af174d6b9a969504fd597ce970fe6b374bbe5f45"), looks := false }, kinds := [], alts := [], laidByText := true, laidKinds := [.data, .data], laidTests := true, laidLooks := .later }
def FnExactTraceListUptoCardSaid : Prop := Claim7.holds Tryd.pinned (.plain (OpenSpec.upto fnExactTraceListSpec)) fnExactTraceListUptoCard
end Rows
end Go.Proofs.YtbodhioladafnaaDoor
