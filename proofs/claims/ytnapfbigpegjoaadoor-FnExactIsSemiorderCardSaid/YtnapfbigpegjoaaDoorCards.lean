/-
  DERIVED. GIVEN WITH THE SEED: THE CARDS: each row of YtnapfbigpegjoaaDoorRows.lean that lists a variable, with what it lists TIED to the program's text (the seventh form; the later family's looks); each row that meets fmt, with fmt's text TOLD by the authors' own Lean function (tested against real Go, not proved from fmt's source: count such statements apart). THE CARD IS WHAT COUNTS. Prove the row's statement (the work); the ties are given (YtnapfbigpegjoaaDoorTie.lean); close each card by the builder's one call (the guide's Derived/Test/ToyasCard.lean, 'card_holds'). Laid BY PROGRAM, IN A SANDBOX (cutbox-door.mjs). By AI agents, Wed Nov 11 2026. No macro, syntax, notation, axiom, sorry.
-/
import Derived.Test.YtnapfbigpegjoaaDoorRows
import GoSem.ClaimSeven
namespace Go.Proofs.YtnapfbigpegjoaaDoor
namespace Rows

/-- THE TIED CARD OF 'laws.FnExactFirstExtension'. -/
def fnExactFirstExtensionCard : Claim7 := { stood := { row := fnExactFirstExtensionRow, standIns := [], harness := (true, "c3141eb859c6ed7270edb2451243983950a6e06422ae040f4b8e2d6fca744f73"), looks := false }, kinds := [], alts := [], laidByText := true, laidKinds := [.data, .data], laidTests := true, laidLooks := .later }
def FnExactFirstExtensionCardSaid : Prop := Claim7.holds Tryd.pinned (.plain (OpenSpec.ofChange fnExactFirstExtensionSpec)) fnExactFirstExtensionCard

/-- THE TIED CARD OF 'laws.FnExactLeastThreshold'. -/
def fnExactLeastThresholdCard : Claim7 := { stood := { row := fnExactLeastThresholdRow, standIns := [], harness := (true, "c3141eb859c6ed7270edb2451243983950a6e06422ae040f4b8e2d6fca744f73"), looks := false }, kinds := [], alts := [], laidByText := true, laidKinds := [.data, .data], laidTests := true, laidLooks := .later }
def FnExactLeastThresholdCardSaid : Prop := Claim7.holds Tryd.pinned (.plain (OpenSpec.ofChange fnExactLeastThresholdSpec)) fnExactLeastThresholdCard

/-- THE TIED CARD OF 'laws.FnExactIsSemiorder'. -/
def fnExactIsSemiorderCard : Claim7 := { stood := { row := fnExactIsSemiorderRow, standIns := [], harness := (true, "c3141eb859c6ed7270edb2451243983950a6e06422ae040f4b8e2d6fca744f73"), looks := false }, kinds := [], alts := [], laidByText := true, laidKinds := [.data, .data], laidTests := true, laidLooks := .later }
def FnExactIsSemiorderCardSaid : Prop := Claim7.holds Tryd.pinned (.plain (OpenSpec.ofChange fnExactIsSemiorderSpec)) fnExactIsSemiorderCard

/-- THE TIED CARD OF 'laws.FnExactLeastPlaces'. -/
def fnExactLeastPlacesCard : Claim7 := { stood := { row := fnExactLeastPlacesRow, standIns := [], harness := (true, "c3141eb859c6ed7270edb2451243983950a6e06422ae040f4b8e2d6fca744f73"), looks := false }, kinds := [], alts := [], laidByText := true, laidKinds := [.data, .data], laidTests := true, laidLooks := .later }
def FnExactLeastPlacesCardSaid : Prop := Claim7.holds Tryd.pinned (.plain (OpenSpec.ofChange fnExactLeastPlacesSpec)) fnExactLeastPlacesCard

/-- THE TIED CARD OF 'laws.FnExactDoRepresent'. -/
def fnExactDoRepresentCard : Claim7 := { stood := { row := fnExactDoRepresentRow, standIns := [], harness := (true, "c3141eb859c6ed7270edb2451243983950a6e06422ae040f4b8e2d6fca744f73"), looks := false }, kinds := [], alts := [], laidByText := true, laidKinds := [.data, .data], laidTests := true, laidLooks := .later }
def FnExactDoRepresentCardSaid : Prop := Claim7.holds Tryd.pinned (.plain (OpenSpec.ofChange fnExactDoRepresentSpec)) fnExactDoRepresentCard

/-- THE TIED CARD OF 'laws.FnExactSlackOf'. -/
def fnExactSlackOfCard : Claim7 := { stood := { row := fnExactSlackOfRow, standIns := [], harness := (true, "c3141eb859c6ed7270edb2451243983950a6e06422ae040f4b8e2d6fca744f73"), looks := false }, kinds := [], alts := [], laidByText := true, laidKinds := [.data, .data], laidTests := true, laidLooks := .later }
def FnExactSlackOfCardSaid : Prop := Claim7.holds Tryd.pinned (.plain (OpenSpec.ofChange fnExactSlackOfSpec)) fnExactSlackOfCard

/-- THE TIED CARD OF 'laws.FnExactLargestAntichain'. -/
def fnExactLargestAntichainCard : Claim7 := { stood := { row := fnExactLargestAntichainRow, standIns := [], harness := (true, "c3141eb859c6ed7270edb2451243983950a6e06422ae040f4b8e2d6fca744f73"), looks := false }, kinds := [], alts := [], laidByText := true, laidKinds := [.data, .data], laidTests := true, laidLooks := .later }
def FnExactLargestAntichainCardSaid : Prop := Claim7.holds Tryd.pinned (.plain (OpenSpec.ofChange fnExactLargestAntichainSpec)) fnExactLargestAntichainCard

/-- THE TIED CARD OF 'laws.FnExactChainNumbers'. -/
def fnExactChainNumbersCard : Claim7 := { stood := { row := fnExactChainNumbersRow, standIns := [], harness := (true, "c3141eb859c6ed7270edb2451243983950a6e06422ae040f4b8e2d6fca744f73"), looks := false }, kinds := [], alts := [], laidByText := true, laidKinds := [.data, .data], laidTests := true, laidLooks := .later }
def FnExactChainNumbersCardSaid : Prop := Claim7.holds Tryd.pinned (.plain (OpenSpec.ofChange fnExactChainNumbersSpec)) fnExactChainNumbersCard

/-- THE TIED CARD OF 'laws.FnExactDemandCycle'. -/
def fnExactDemandCycleCard : Claim7 := { stood := { row := fnExactDemandCycleRow, standIns := [], harness := (true, "c3141eb859c6ed7270edb2451243983950a6e06422ae040f4b8e2d6fca744f73"), looks := false }, kinds := [], alts := [], laidByText := true, laidKinds := [.data, .data], laidTests := true, laidLooks := .later }
def FnExactDemandCycleCardSaid : Prop := Claim7.holds Tryd.pinned (.plain (OpenSpec.ofChange fnExactDemandCycleSpec)) fnExactDemandCycleCard

/-- THE TIED CARD OF 'laws.FnExactTraceList'. -/
def fnExactTraceListCard : Claim7 := { stood := { row := fnExactTraceListRow, standIns := [], harness := (true, "c3141eb859c6ed7270edb2451243983950a6e06422ae040f4b8e2d6fca744f73"), looks := false }, kinds := [], alts := [], laidByText := true, laidKinds := [.data, .data], laidTests := true, laidLooks := .later }
def FnExactTraceListCardSaid : Prop := Claim7.holds Tryd.pinned (.plain (OpenSpec.ofChange fnExactTraceListSpec)) fnExactTraceListCard

/-- THE TIED CARD OF 'laws.FnExactIsDemandCycle'. -/
def fnExactIsDemandCycleCard : Claim7 := { stood := { row := fnExactIsDemandCycleRow, standIns := [], harness := (true, "c3141eb859c6ed7270edb2451243983950a6e06422ae040f4b8e2d6fca744f73"), looks := false }, kinds := [], alts := [], laidByText := true, laidKinds := [.data, .data], laidTests := true, laidLooks := .later }
def FnExactIsDemandCycleCardSaid : Prop := Claim7.holds Tryd.pinned (.plain (OpenSpec.ofChange fnExactIsDemandCycleSpec)) fnExactIsDemandCycleCard

/-- THE SECOND FORM's CARD OF 'laws.FnExactFirstExtension'. -/
def fnExactFirstExtensionUptoCard : Claim7 := { stood := { row := fnExactFirstExtensionUptoRow, standIns := [], harness := (true, "c3141eb859c6ed7270edb2451243983950a6e06422ae040f4b8e2d6fca744f73"), looks := false }, kinds := [], alts := [], laidByText := true, laidKinds := [.data, .data], laidTests := true, laidLooks := .later }
def FnExactFirstExtensionUptoCardSaid : Prop := Claim7.holds Tryd.pinned (.plain (OpenSpec.upto fnExactFirstExtensionSpec)) fnExactFirstExtensionUptoCard

/-- THE SECOND FORM's CARD OF 'laws.FnExactLeastThreshold'. -/
def fnExactLeastThresholdUptoCard : Claim7 := { stood := { row := fnExactLeastThresholdUptoRow, standIns := [], harness := (true, "c3141eb859c6ed7270edb2451243983950a6e06422ae040f4b8e2d6fca744f73"), looks := false }, kinds := [], alts := [], laidByText := true, laidKinds := [.data, .data], laidTests := true, laidLooks := .later }
def FnExactLeastThresholdUptoCardSaid : Prop := Claim7.holds Tryd.pinned (.plain (OpenSpec.upto fnExactLeastThresholdSpec)) fnExactLeastThresholdUptoCard

/-- THE SECOND FORM's CARD OF 'laws.FnExactIsSemiorder'. -/
def fnExactIsSemiorderUptoCard : Claim7 := { stood := { row := fnExactIsSemiorderUptoRow, standIns := [], harness := (true, "c3141eb859c6ed7270edb2451243983950a6e06422ae040f4b8e2d6fca744f73"), looks := false }, kinds := [], alts := [], laidByText := true, laidKinds := [.data, .data], laidTests := true, laidLooks := .later }
def FnExactIsSemiorderUptoCardSaid : Prop := Claim7.holds Tryd.pinned (.plain (OpenSpec.upto fnExactIsSemiorderSpec)) fnExactIsSemiorderUptoCard

/-- THE SECOND FORM's CARD OF 'laws.FnExactLeastPlaces'. -/
def fnExactLeastPlacesUptoCard : Claim7 := { stood := { row := fnExactLeastPlacesUptoRow, standIns := [], harness := (true, "c3141eb859c6ed7270edb2451243983950a6e06422ae040f4b8e2d6fca744f73"), looks := false }, kinds := [], alts := [], laidByText := true, laidKinds := [.data, .data], laidTests := true, laidLooks := .later }
def FnExactLeastPlacesUptoCardSaid : Prop := Claim7.holds Tryd.pinned (.plain (OpenSpec.upto fnExactLeastPlacesSpec)) fnExactLeastPlacesUptoCard

/-- THE SECOND FORM's CARD OF 'laws.FnExactDoRepresent'. -/
def fnExactDoRepresentUptoCard : Claim7 := { stood := { row := fnExactDoRepresentUptoRow, standIns := [], harness := (true, "c3141eb859c6ed7270edb2451243983950a6e06422ae040f4b8e2d6fca744f73"), looks := false }, kinds := [], alts := [], laidByText := true, laidKinds := [.data, .data], laidTests := true, laidLooks := .later }
def FnExactDoRepresentUptoCardSaid : Prop := Claim7.holds Tryd.pinned (.plain (OpenSpec.upto fnExactDoRepresentSpec)) fnExactDoRepresentUptoCard

/-- THE SECOND FORM's CARD OF 'laws.FnExactSlackOf'. -/
def fnExactSlackOfUptoCard : Claim7 := { stood := { row := fnExactSlackOfUptoRow, standIns := [], harness := (true, "c3141eb859c6ed7270edb2451243983950a6e06422ae040f4b8e2d6fca744f73"), looks := false }, kinds := [], alts := [], laidByText := true, laidKinds := [.data, .data], laidTests := true, laidLooks := .later }
def FnExactSlackOfUptoCardSaid : Prop := Claim7.holds Tryd.pinned (.plain (OpenSpec.upto fnExactSlackOfSpec)) fnExactSlackOfUptoCard

/-- THE SECOND FORM's CARD OF 'laws.FnExactLargestAntichain'. -/
def fnExactLargestAntichainUptoCard : Claim7 := { stood := { row := fnExactLargestAntichainUptoRow, standIns := [], harness := (true, "c3141eb859c6ed7270edb2451243983950a6e06422ae040f4b8e2d6fca744f73"), looks := false }, kinds := [], alts := [], laidByText := true, laidKinds := [.data, .data], laidTests := true, laidLooks := .later }
def FnExactLargestAntichainUptoCardSaid : Prop := Claim7.holds Tryd.pinned (.plain (OpenSpec.upto fnExactLargestAntichainSpec)) fnExactLargestAntichainUptoCard

/-- THE SECOND FORM's CARD OF 'laws.FnExactChainNumbers'. -/
def fnExactChainNumbersUptoCard : Claim7 := { stood := { row := fnExactChainNumbersUptoRow, standIns := [], harness := (true, "c3141eb859c6ed7270edb2451243983950a6e06422ae040f4b8e2d6fca744f73"), looks := false }, kinds := [], alts := [], laidByText := true, laidKinds := [.data, .data], laidTests := true, laidLooks := .later }
def FnExactChainNumbersUptoCardSaid : Prop := Claim7.holds Tryd.pinned (.plain (OpenSpec.upto fnExactChainNumbersSpec)) fnExactChainNumbersUptoCard

/-- THE SECOND FORM's CARD OF 'laws.FnExactDemandCycle'. -/
def fnExactDemandCycleUptoCard : Claim7 := { stood := { row := fnExactDemandCycleUptoRow, standIns := [], harness := (true, "c3141eb859c6ed7270edb2451243983950a6e06422ae040f4b8e2d6fca744f73"), looks := false }, kinds := [], alts := [], laidByText := true, laidKinds := [.data, .data], laidTests := true, laidLooks := .later }
def FnExactDemandCycleUptoCardSaid : Prop := Claim7.holds Tryd.pinned (.plain (OpenSpec.upto fnExactDemandCycleSpec)) fnExactDemandCycleUptoCard

/-- THE SECOND FORM's CARD OF 'laws.FnExactTraceList'. -/
def fnExactTraceListUptoCard : Claim7 := { stood := { row := fnExactTraceListUptoRow, standIns := [], harness := (true, "c3141eb859c6ed7270edb2451243983950a6e06422ae040f4b8e2d6fca744f73"), looks := false }, kinds := [], alts := [], laidByText := true, laidKinds := [.data, .data], laidTests := true, laidLooks := .later }
def FnExactTraceListUptoCardSaid : Prop := Claim7.holds Tryd.pinned (.plain (OpenSpec.upto fnExactTraceListSpec)) fnExactTraceListUptoCard

/-- THE SECOND FORM's CARD OF 'laws.FnExactIsDemandCycle'. -/
def fnExactIsDemandCycleUptoCard : Claim7 := { stood := { row := fnExactIsDemandCycleUptoRow, standIns := [], harness := (true, "c3141eb859c6ed7270edb2451243983950a6e06422ae040f4b8e2d6fca744f73"), looks := false }, kinds := [], alts := [], laidByText := true, laidKinds := [.data, .data], laidTests := true, laidLooks := .later }
def FnExactIsDemandCycleUptoCardSaid : Prop := Claim7.holds Tryd.pinned (.plain (OpenSpec.upto fnExactIsDemandCycleSpec)) fnExactIsDemandCycleUptoCard
end Rows
end Go.Proofs.YtnapfbigpegjoaaDoor
