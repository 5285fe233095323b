/-
  DERIVED. GIVEN WITH THE SEED: THE CARDS: each row of YtoilbeffheijeaaDoorRows.lean that lists a variable, with what it lists TIED to the program's text (the seventh form; the later family's looks); each row that meets fmt, with fmt's text TOLD by the authors' own Lean function (tested against real Go, not proved from fmt's source: count such statements apart). THE CARD IS WHAT COUNTS. Prove the row's statement (the work); the ties are given (YtoilbeffheijeaaDoorTie.lean); close each card by the builder's one call (the guide's Derived/Test/ToyasCard.lean, 'card_holds'). Laid BY PROGRAM, IN A SANDBOX (cutbox-door.mjs). By AI agents, Wed Nov 11 2026. No macro, syntax, notation, axiom, sorry.
-/
import Derived.Test.YtoilbeffheijeaaDoorRows
import GoSem.ClaimSeven
namespace Go.Proofs.YtoilbeffheijeaaDoor
namespace Rows

/-- THE TIED CARD OF 'laws.FnExactEndsOf'. -/
def fnExactEndsOfCard : Claim7 := { stood := { row := fnExactEndsOfRow, standIns := [], harness := (true, "7efa886f8d7ffbfe54efcefca3218f8ceb463c22770e245965b41fcfbd7ce3c1"), looks := false }, kinds := [], alts := [], laidByText := true, laidKinds := [.data, .data], laidTests := true, laidLooks := .later }
def FnExactEndsOfCardSaid : Prop := Claim7.holds Tryd.pinned (.plain (OpenSpec.ofChange fnExactEndsOfSpec)) fnExactEndsOfCard

/-- THE TIED CARD OF 'laws.FnExactInsertInterval'. -/
def fnExactInsertIntervalCard : Claim7 := { stood := { row := fnExactInsertIntervalRow, standIns := [], harness := (true, "7efa886f8d7ffbfe54efcefca3218f8ceb463c22770e245965b41fcfbd7ce3c1"), looks := false }, kinds := [], alts := [], laidByText := true, laidKinds := [.data, .data], laidTests := true, laidLooks := .later }
def FnExactInsertIntervalCardSaid : Prop := Claim7.holds Tryd.pinned (.plain (OpenSpec.ofChange fnExactInsertIntervalSpec)) fnExactInsertIntervalCard

/-- THE TIED CARD OF 'laws.FnExactIsDemandCycle'. -/
def fnExactIsDemandCycleCard : Claim7 := { stood := { row := fnExactIsDemandCycleRow, standIns := [], harness := (true, "7efa886f8d7ffbfe54efcefca3218f8ceb463c22770e245965b41fcfbd7ce3c1"), looks := false }, kinds := [], alts := [], laidByText := true, laidKinds := [.data, .data], laidTests := true, laidLooks := .later }
def FnExactIsDemandCycleCardSaid : Prop := Claim7.holds Tryd.pinned (.plain (OpenSpec.ofChange fnExactIsDemandCycleSpec)) fnExactIsDemandCycleCard

/-- THE TIED CARD OF 'laws.FnExactMagnitudeOf'. -/
def fnExactMagnitudeOfCard : Claim7 := { stood := { row := fnExactMagnitudeOfRow, standIns := [], harness := (true, "7efa886f8d7ffbfe54efcefca3218f8ceb463c22770e245965b41fcfbd7ce3c1"), looks := false }, kinds := [], alts := [], laidByText := true, laidKinds := [.data, .data], laidTests := true, laidLooks := .later }
def FnExactMagnitudeOfCardSaid : Prop := Claim7.holds Tryd.pinned (.plain (OpenSpec.ofChange fnExactMagnitudeOfSpec)) fnExactMagnitudeOfCard

/-- THE TIED CARD OF 'laws.FnExactLowerLevels'. -/
def fnExactLowerLevelsCard : Claim7 := { stood := { row := fnExactLowerLevelsRow, standIns := [], harness := (true, "7efa886f8d7ffbfe54efcefca3218f8ceb463c22770e245965b41fcfbd7ce3c1"), looks := false }, kinds := [], alts := [], laidByText := true, laidKinds := [.data, .data], laidTests := true, laidLooks := .later }
def FnExactLowerLevelsCardSaid : Prop := Claim7.holds Tryd.pinned (.plain (OpenSpec.ofChange fnExactLowerLevelsSpec)) fnExactLowerLevelsCard

/-- THE TIED CARD OF 'laws.FnExactSetsAlong'. -/
def fnExactSetsAlongCard : Claim7 := { stood := { row := fnExactSetsAlongRow, standIns := [], harness := (true, "7efa886f8d7ffbfe54efcefca3218f8ceb463c22770e245965b41fcfbd7ce3c1"), looks := false }, kinds := [], alts := [], laidByText := true, laidKinds := [.data, .data], laidTests := true, laidLooks := .later }
def FnExactSetsAlongCardSaid : Prop := Claim7.holds Tryd.pinned (.plain (OpenSpec.ofChange fnExactSetsAlongSpec)) fnExactSetsAlongCard

/-- THE SECOND FORM's CARD OF 'laws.FnExactEndsOf'. -/
def fnExactEndsOfUptoCard : Claim7 := { stood := { row := fnExactEndsOfUptoRow, standIns := [], harness := (true, "7efa886f8d7ffbfe54efcefca3218f8ceb463c22770e245965b41fcfbd7ce3c1"), looks := false }, kinds := [], alts := [], laidByText := true, laidKinds := [.data, .data], laidTests := true, laidLooks := .later }
def FnExactEndsOfUptoCardSaid : Prop := Claim7.holds Tryd.pinned (.plain (OpenSpec.upto fnExactEndsOfSpec)) fnExactEndsOfUptoCard

/-- THE SECOND FORM's CARD OF 'laws.FnExactInsertInterval'. -/
def fnExactInsertIntervalUptoCard : Claim7 := { stood := { row := fnExactInsertIntervalUptoRow, standIns := [], harness := (true, "7efa886f8d7ffbfe54efcefca3218f8ceb463c22770e245965b41fcfbd7ce3c1"), looks := false }, kinds := [], alts := [], laidByText := true, laidKinds := [.data, .data], laidTests := true, laidLooks := .later }
def FnExactInsertIntervalUptoCardSaid : Prop := Claim7.holds Tryd.pinned (.plain (OpenSpec.upto fnExactInsertIntervalSpec)) fnExactInsertIntervalUptoCard

/-- THE SECOND FORM's CARD OF 'laws.FnExactIsDemandCycle'. -/
def fnExactIsDemandCycleUptoCard : Claim7 := { stood := { row := fnExactIsDemandCycleUptoRow, standIns := [], harness := (true, "7efa886f8d7ffbfe54efcefca3218f8ceb463c22770e245965b41fcfbd7ce3c1"), looks := false }, kinds := [], alts := [], laidByText := true, laidKinds := [.data, .data], laidTests := true, laidLooks := .later }
def FnExactIsDemandCycleUptoCardSaid : Prop := Claim7.holds Tryd.pinned (.plain (OpenSpec.upto fnExactIsDemandCycleSpec)) fnExactIsDemandCycleUptoCard

/-- THE SECOND FORM's CARD OF 'laws.FnExactMagnitudeOf'. -/
def fnExactMagnitudeOfUptoCard : Claim7 := { stood := { row := fnExactMagnitudeOfUptoRow, standIns := [], harness := (true, "7efa886f8d7ffbfe54efcefca3218f8ceb463c22770e245965b41fcfbd7ce3c1"), looks := false }, kinds := [], alts := [], laidByText := true, laidKinds := [.data, .data], laidTests := true, laidLooks := .later }
def FnExactMagnitudeOfUptoCardSaid : Prop := Claim7.holds Tryd.pinned (.plain (OpenSpec.upto fnExactMagnitudeOfSpec)) fnExactMagnitudeOfUptoCard

/-- THE SECOND FORM's CARD OF 'laws.FnExactLowerLevels'. -/
def fnExactLowerLevelsUptoCard : Claim7 := { stood := { row := fnExactLowerLevelsUptoRow, standIns := [], harness := (true, "7efa886f8d7ffbfe54efcefca3218f8ceb463c22770e245965b41fcfbd7ce3c1"), looks := false }, kinds := [], alts := [], laidByText := true, laidKinds := [.data, .data], laidTests := true, laidLooks := .later }
def FnExactLowerLevelsUptoCardSaid : Prop := Claim7.holds Tryd.pinned (.plain (OpenSpec.upto fnExactLowerLevelsSpec)) fnExactLowerLevelsUptoCard

/-- THE SECOND FORM's CARD OF 'laws.FnExactSetsAlong'. -/
def fnExactSetsAlongUptoCard : Claim7 := { stood := { row := fnExactSetsAlongUptoRow, standIns := [], harness := (true, "7efa886f8d7ffbfe54efcefca3218f8ceb463c22770e245965b41fcfbd7ce3c1"), looks := false }, kinds := [], alts := [], laidByText := true, laidKinds := [.data, .data], laidTests := true, laidLooks := .later }
def FnExactSetsAlongUptoCardSaid : Prop := Claim7.holds Tryd.pinned (.plain (OpenSpec.upto fnExactSetsAlongSpec)) fnExactSetsAlongUptoCard
end Rows
end Go.Proofs.YtoilbeffheijeaaDoor
