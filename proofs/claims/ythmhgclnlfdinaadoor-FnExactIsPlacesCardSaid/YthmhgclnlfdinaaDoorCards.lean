/-
  DERIVED. GIVEN WITH THE SEED: THE CARDS: each row of YthmhgclnlfdinaaDoorRows.lean that lists a variable, with what it lists TIED to the program's text (the seventh form; the later family's looks); each row that meets fmt, with fmt's text TOLD by the authors' own Lean function (tested against real Go, not proved from fmt's source: count such statements apart). THE CARD IS WHAT COUNTS. Prove the row's statement (the work); the ties are given (YthmhgclnlfdinaaDoorTie.lean); close each card by the builder's one call (the guide's Derived/Test/ToyasCard.lean, 'card_holds'). Laid BY PROGRAM, IN A SANDBOX (cutbox-door.mjs). By AI agents, Wed Nov 11 2026. No macro, syntax, notation, axiom, sorry.
-/
import Derived.Test.YthmhgclnlfdinaaDoorRows
import GoSem.ClaimSeven
namespace Go.Proofs.YthmhgclnlfdinaaDoor
namespace Rows

/-- THE TIED CARD OF 'laws.FnExactIsOrder'. -/
def fnExactIsOrderCard : Claim7 := { stood := { row := fnExactIsOrderRow, standIns := [], harness := (true, "e7cd28143c9d4737f03473ddf3554f1772bdeafc5f75c12f568ef97726d7cda2"), looks := false }, kinds := [], alts := [], laidByText := true, laidKinds := [.data, .data], laidTests := true, laidLooks := .later }
def FnExactIsOrderCardSaid : Prop := Claim7.holds Tryd.pinned (.plain (OpenSpec.ofChange fnExactIsOrderSpec)) fnExactIsOrderCard

/-- THE TIED CARD OF 'laws.FnExactIsIntervalOrder'. -/
def fnExactIsIntervalOrderCard : Claim7 := { stood := { row := fnExactIsIntervalOrderRow, standIns := [], harness := (true, "e7cd28143c9d4737f03473ddf3554f1772bdeafc5f75c12f568ef97726d7cda2"), looks := false }, kinds := [], alts := [], laidByText := true, laidKinds := [.data, .data], laidTests := true, laidLooks := .later }
def FnExactIsIntervalOrderCardSaid : Prop := Claim7.holds Tryd.pinned (.plain (OpenSpec.ofChange fnExactIsIntervalOrderSpec)) fnExactIsIntervalOrderCard

/-- THE TIED CARD OF 'laws.FnExactRenameOf'. -/
def fnExactRenameOfCard : Claim7 := { stood := { row := fnExactRenameOfRow, standIns := [], harness := (true, "e7cd28143c9d4737f03473ddf3554f1772bdeafc5f75c12f568ef97726d7cda2"), looks := false }, kinds := [], alts := [], laidByText := true, laidKinds := [.data, .data], laidTests := true, laidLooks := .later }
def FnExactRenameOfCardSaid : Prop := Claim7.holds Tryd.pinned (.plain (OpenSpec.ofChange fnExactRenameOfSpec)) fnExactRenameOfCard

/-- THE TIED CARD OF 'laws.FnExactLongestChain'. -/
def fnExactLongestChainCard : Claim7 := { stood := { row := fnExactLongestChainRow, standIns := [], harness := (true, "e7cd28143c9d4737f03473ddf3554f1772bdeafc5f75c12f568ef97726d7cda2"), looks := false }, kinds := [], alts := [], laidByText := true, laidKinds := [.data, .data], laidTests := true, laidLooks := .later }
def FnExactLongestChainCardSaid : Prop := Claim7.holds Tryd.pinned (.plain (OpenSpec.ofChange fnExactLongestChainSpec)) fnExactLongestChainCard

/-- THE TIED CARD OF 'laws.FnExactCountExtensions'. -/
def fnExactCountExtensionsCard : Claim7 := { stood := { row := fnExactCountExtensionsRow, standIns := [], harness := (true, "e7cd28143c9d4737f03473ddf3554f1772bdeafc5f75c12f568ef97726d7cda2"), looks := false }, kinds := [], alts := [], laidByText := true, laidKinds := [.data, .data], laidTests := true, laidLooks := .later }
def FnExactCountExtensionsCardSaid : Prop := Claim7.holds Tryd.pinned (.plain (OpenSpec.ofChange fnExactCountExtensionsSpec)) fnExactCountExtensionsCard

/-- THE TIED CARD OF 'laws.FnExactIsPlaces'. -/
def fnExactIsPlacesCard : Claim7 := { stood := { row := fnExactIsPlacesRow, standIns := [], harness := (true, "e7cd28143c9d4737f03473ddf3554f1772bdeafc5f75c12f568ef97726d7cda2"), looks := false }, kinds := [], alts := [], laidByText := true, laidKinds := [.data, .data], laidTests := true, laidLooks := .later }
def FnExactIsPlacesCardSaid : Prop := Claim7.holds Tryd.pinned (.plain (OpenSpec.ofChange fnExactIsPlacesSpec)) fnExactIsPlacesCard

/-- THE TIED CARD OF 'laws.FnExactCoversOf'. -/
def fnExactCoversOfCard : Claim7 := { stood := { row := fnExactCoversOfRow, standIns := [], harness := (true, "e7cd28143c9d4737f03473ddf3554f1772bdeafc5f75c12f568ef97726d7cda2"), looks := false }, kinds := [], alts := [], laidByText := true, laidKinds := [.data, .data], laidTests := true, laidLooks := .later }
def FnExactCoversOfCardSaid : Prop := Claim7.holds Tryd.pinned (.plain (OpenSpec.ofChange fnExactCoversOfSpec)) fnExactCoversOfCard

/-- THE TIED CARD OF 'laws.FnExactTwoTwoOf'. -/
def fnExactTwoTwoOfCard : Claim7 := { stood := { row := fnExactTwoTwoOfRow, standIns := [], harness := (true, "e7cd28143c9d4737f03473ddf3554f1772bdeafc5f75c12f568ef97726d7cda2"), looks := false }, kinds := [], alts := [], laidByText := true, laidKinds := [.data, .data], laidTests := true, laidLooks := .later }
def FnExactTwoTwoOfCardSaid : Prop := Claim7.holds Tryd.pinned (.plain (OpenSpec.ofChange fnExactTwoTwoOfSpec)) fnExactTwoTwoOfCard

/-- THE TIED CARD OF 'laws.FnExactBesideOrders'. -/
def fnExactBesideOrdersCard : Claim7 := { stood := { row := fnExactBesideOrdersRow, standIns := [], harness := (true, "e7cd28143c9d4737f03473ddf3554f1772bdeafc5f75c12f568ef97726d7cda2"), looks := false }, kinds := [], alts := [], laidByText := true, laidKinds := [.data, .data], laidTests := true, laidLooks := .later }
def FnExactBesideOrdersCardSaid : Prop := Claim7.holds Tryd.pinned (.plain (OpenSpec.ofChange fnExactBesideOrdersSpec)) fnExactBesideOrdersCard

/-- THE TIED CARD OF 'laws.FnExactStackOrders'. -/
def fnExactStackOrdersCard : Claim7 := { stood := { row := fnExactStackOrdersRow, standIns := [], harness := (true, "e7cd28143c9d4737f03473ddf3554f1772bdeafc5f75c12f568ef97726d7cda2"), looks := false }, kinds := [], alts := [], laidByText := true, laidKinds := [.data, .data], laidTests := true, laidLooks := .later }
def FnExactStackOrdersCardSaid : Prop := Claim7.holds Tryd.pinned (.plain (OpenSpec.ofChange fnExactStackOrdersSpec)) fnExactStackOrdersCard

/-- THE TIED CARD OF 'laws.FnExactIsExtension'. -/
def fnExactIsExtensionCard : Claim7 := { stood := { row := fnExactIsExtensionRow, standIns := [], harness := (true, "e7cd28143c9d4737f03473ddf3554f1772bdeafc5f75c12f568ef97726d7cda2"), looks := false }, kinds := [], alts := [], laidByText := true, laidKinds := [.data, .data], laidTests := true, laidLooks := .later }
def FnExactIsExtensionCardSaid : Prop := Claim7.holds Tryd.pinned (.plain (OpenSpec.ofChange fnExactIsExtensionSpec)) fnExactIsExtensionCard

/-- THE TIED CARD OF 'laws.FnExactThreeOneOf'. -/
def fnExactThreeOneOfCard : Claim7 := { stood := { row := fnExactThreeOneOfRow, standIns := [], harness := (true, "e7cd28143c9d4737f03473ddf3554f1772bdeafc5f75c12f568ef97726d7cda2"), looks := false }, kinds := [], alts := [], laidByText := true, laidKinds := [.data, .data], laidTests := true, laidLooks := .later }
def FnExactThreeOneOfCardSaid : Prop := Claim7.holds Tryd.pinned (.plain (OpenSpec.ofChange fnExactThreeOneOfSpec)) fnExactThreeOneOfCard

/-- THE SECOND FORM's CARD OF 'laws.FnExactIsOrder'. -/
def fnExactIsOrderUptoCard : Claim7 := { stood := { row := fnExactIsOrderUptoRow, standIns := [], harness := (true, "e7cd28143c9d4737f03473ddf3554f1772bdeafc5f75c12f568ef97726d7cda2"), looks := false }, kinds := [], alts := [], laidByText := true, laidKinds := [.data, .data], laidTests := true, laidLooks := .later }
def FnExactIsOrderUptoCardSaid : Prop := Claim7.holds Tryd.pinned (.plain (OpenSpec.upto fnExactIsOrderSpec)) fnExactIsOrderUptoCard

/-- THE SECOND FORM's CARD OF 'laws.FnExactIsIntervalOrder'. -/
def fnExactIsIntervalOrderUptoCard : Claim7 := { stood := { row := fnExactIsIntervalOrderUptoRow, standIns := [], harness := (true, "e7cd28143c9d4737f03473ddf3554f1772bdeafc5f75c12f568ef97726d7cda2"), looks := false }, kinds := [], alts := [], laidByText := true, laidKinds := [.data, .data], laidTests := true, laidLooks := .later }
def FnExactIsIntervalOrderUptoCardSaid : Prop := Claim7.holds Tryd.pinned (.plain (OpenSpec.upto fnExactIsIntervalOrderSpec)) fnExactIsIntervalOrderUptoCard

/-- THE SECOND FORM's CARD OF 'laws.FnExactRenameOf'. -/
def fnExactRenameOfUptoCard : Claim7 := { stood := { row := fnExactRenameOfUptoRow, standIns := [], harness := (true, "e7cd28143c9d4737f03473ddf3554f1772bdeafc5f75c12f568ef97726d7cda2"), looks := false }, kinds := [], alts := [], laidByText := true, laidKinds := [.data, .data], laidTests := true, laidLooks := .later }
def FnExactRenameOfUptoCardSaid : Prop := Claim7.holds Tryd.pinned (.plain (OpenSpec.upto fnExactRenameOfSpec)) fnExactRenameOfUptoCard

/-- THE SECOND FORM's CARD OF 'laws.FnExactLongestChain'. -/
def fnExactLongestChainUptoCard : Claim7 := { stood := { row := fnExactLongestChainUptoRow, standIns := [], harness := (true, "e7cd28143c9d4737f03473ddf3554f1772bdeafc5f75c12f568ef97726d7cda2"), looks := false }, kinds := [], alts := [], laidByText := true, laidKinds := [.data, .data], laidTests := true, laidLooks := .later }
def FnExactLongestChainUptoCardSaid : Prop := Claim7.holds Tryd.pinned (.plain (OpenSpec.upto fnExactLongestChainSpec)) fnExactLongestChainUptoCard

/-- THE SECOND FORM's CARD OF 'laws.FnExactCountExtensions'. -/
def fnExactCountExtensionsUptoCard : Claim7 := { stood := { row := fnExactCountExtensionsUptoRow, standIns := [], harness := (true, "e7cd28143c9d4737f03473ddf3554f1772bdeafc5f75c12f568ef97726d7cda2"), looks := false }, kinds := [], alts := [], laidByText := true, laidKinds := [.data, .data], laidTests := true, laidLooks := .later }
def FnExactCountExtensionsUptoCardSaid : Prop := Claim7.holds Tryd.pinned (.plain (OpenSpec.upto fnExactCountExtensionsSpec)) fnExactCountExtensionsUptoCard

/-- THE SECOND FORM's CARD OF 'laws.FnExactIsPlaces'. -/
def fnExactIsPlacesUptoCard : Claim7 := { stood := { row := fnExactIsPlacesUptoRow, standIns := [], harness := (true, "e7cd28143c9d4737f03473ddf3554f1772bdeafc5f75c12f568ef97726d7cda2"), looks := false }, kinds := [], alts := [], laidByText := true, laidKinds := [.data, .data], laidTests := true, laidLooks := .later }
def FnExactIsPlacesUptoCardSaid : Prop := Claim7.holds Tryd.pinned (.plain (OpenSpec.upto fnExactIsPlacesSpec)) fnExactIsPlacesUptoCard

/-- THE SECOND FORM's CARD OF 'laws.FnExactCoversOf'. -/
def fnExactCoversOfUptoCard : Claim7 := { stood := { row := fnExactCoversOfUptoRow, standIns := [], harness := (true, "e7cd28143c9d4737f03473ddf3554f1772bdeafc5f75c12f568ef97726d7cda2"), looks := false }, kinds := [], alts := [], laidByText := true, laidKinds := [.data, .data], laidTests := true, laidLooks := .later }
def FnExactCoversOfUptoCardSaid : Prop := Claim7.holds Tryd.pinned (.plain (OpenSpec.upto fnExactCoversOfSpec)) fnExactCoversOfUptoCard

/-- THE SECOND FORM's CARD OF 'laws.FnExactTwoTwoOf'. -/
def fnExactTwoTwoOfUptoCard : Claim7 := { stood := { row := fnExactTwoTwoOfUptoRow, standIns := [], harness := (true, "e7cd28143c9d4737f03473ddf3554f1772bdeafc5f75c12f568ef97726d7cda2"), looks := false }, kinds := [], alts := [], laidByText := true, laidKinds := [.data, .data], laidTests := true, laidLooks := .later }
def FnExactTwoTwoOfUptoCardSaid : Prop := Claim7.holds Tryd.pinned (.plain (OpenSpec.upto fnExactTwoTwoOfSpec)) fnExactTwoTwoOfUptoCard

/-- THE SECOND FORM's CARD OF 'laws.FnExactBesideOrders'. -/
def fnExactBesideOrdersUptoCard : Claim7 := { stood := { row := fnExactBesideOrdersUptoRow, standIns := [], harness := (true, "e7cd28143c9d4737f03473ddf3554f1772bdeafc5f75c12f568ef97726d7cda2"), looks := false }, kinds := [], alts := [], laidByText := true, laidKinds := [.data, .data], laidTests := true, laidLooks := .later }
def FnExactBesideOrdersUptoCardSaid : Prop := Claim7.holds Tryd.pinned (.plain (OpenSpec.upto fnExactBesideOrdersSpec)) fnExactBesideOrdersUptoCard

/-- THE SECOND FORM's CARD OF 'laws.FnExactStackOrders'. -/
def fnExactStackOrdersUptoCard : Claim7 := { stood := { row := fnExactStackOrdersUptoRow, standIns := [], harness := (true, "e7cd28143c9d4737f03473ddf3554f1772bdeafc5f75c12f568ef97726d7cda2"), looks := false }, kinds := [], alts := [], laidByText := true, laidKinds := [.data, .data], laidTests := true, laidLooks := .later }
def FnExactStackOrdersUptoCardSaid : Prop := Claim7.holds Tryd.pinned (.plain (OpenSpec.upto fnExactStackOrdersSpec)) fnExactStackOrdersUptoCard

/-- THE SECOND FORM's CARD OF 'laws.FnExactIsExtension'. -/
def fnExactIsExtensionUptoCard : Claim7 := { stood := { row := fnExactIsExtensionUptoRow, standIns := [], harness := (true, "e7cd28143c9d4737f03473ddf3554f1772bdeafc5f75c12f568ef97726d7cda2"), looks := false }, kinds := [], alts := [], laidByText := true, laidKinds := [.data, .data], laidTests := true, laidLooks := .later }
def FnExactIsExtensionUptoCardSaid : Prop := Claim7.holds Tryd.pinned (.plain (OpenSpec.upto fnExactIsExtensionSpec)) fnExactIsExtensionUptoCard

/-- THE SECOND FORM's CARD OF 'laws.FnExactThreeOneOf'. -/
def fnExactThreeOneOfUptoCard : Claim7 := { stood := { row := fnExactThreeOneOfUptoRow, standIns := [], harness := (true, "e7cd28143c9d4737f03473ddf3554f1772bdeafc5f75c12f568ef97726d7cda2"), looks := false }, kinds := [], alts := [], laidByText := true, laidKinds := [.data, .data], laidTests := true, laidLooks := .later }
def FnExactThreeOneOfUptoCardSaid : Prop := Claim7.holds Tryd.pinned (.plain (OpenSpec.upto fnExactThreeOneOfSpec)) fnExactThreeOneOfUptoCard
end Rows
end Go.Proofs.YthmhgclnlfdinaaDoor
