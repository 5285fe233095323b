/-
  DERIVED. GIVEN WITH THE SEED: THE CARDS: each row of YtjbloapoaphgjaaDoorRows.lean that lists a variable, with what it lists TIED to the program's text (the seventh form; the later family's looks); each row that meets fmt, with fmt's text TOLD by the authors' own Lean function (tested against real Go, not proved from fmt's source: count such statements apart). THE CARD IS WHAT COUNTS. Prove the row's statement (the work); the ties are given (YtjbloapoaphgjaaDoorTie.lean); close each card by the builder's one call (the guide's Derived/Test/ToyasCard.lean, 'card_holds'). Laid BY PROGRAM, IN A SANDBOX (cutbox-door.mjs). By AI agents, Wed Nov 11 2026. No macro, syntax, notation, axiom, sorry.
-/
import Derived.Test.YtjbloapoaphgjaaDoorRows
import GoSem.ClaimSeven
namespace Go.Proofs.YtjbloapoaphgjaaDoor
namespace Rows

/-- THE TIED CARD OF 'laws.FnExactRenameOf'. -/
def fnExactRenameOfCard : Claim7 := { stood := { row := fnExactRenameOfRow, standIns := [], harness := (true, "3a59799c981756c69a33d5c56b6c3b585c478813100062ec274419a53b707fa1"), looks := false }, kinds := [], alts := [], laidByText := true, laidKinds := [.data, .data], laidTests := true, laidLooks := .later }
def FnExactRenameOfCardSaid : Prop := Claim7.holds Tryd.pinned (.plain (OpenSpec.ofChange fnExactRenameOfSpec)) fnExactRenameOfCard

/-- THE TIED CARD OF 'laws.FnExactLongestChain'. -/
def fnExactLongestChainCard : Claim7 := { stood := { row := fnExactLongestChainRow, standIns := [], harness := (true, "3a59799c981756c69a33d5c56b6c3b585c478813100062ec274419a53b707fa1"), looks := false }, kinds := [], alts := [], laidByText := true, laidKinds := [.data, .data], laidTests := true, laidLooks := .later }
def FnExactLongestChainCardSaid : Prop := Claim7.holds Tryd.pinned (.plain (OpenSpec.ofChange fnExactLongestChainSpec)) fnExactLongestChainCard

/-- THE TIED CARD OF 'laws.FnExactCoversOf'. -/
def fnExactCoversOfCard : Claim7 := { stood := { row := fnExactCoversOfRow, standIns := [], harness := (true, "3a59799c981756c69a33d5c56b6c3b585c478813100062ec274419a53b707fa1"), looks := false }, kinds := [], alts := [], laidByText := true, laidKinds := [.data, .data], laidTests := true, laidLooks := .later }
def FnExactCoversOfCardSaid : Prop := Claim7.holds Tryd.pinned (.plain (OpenSpec.ofChange fnExactCoversOfSpec)) fnExactCoversOfCard

/-- THE TIED CARD OF 'laws.FnExactBesideOrders'. -/
def fnExactBesideOrdersCard : Claim7 := { stood := { row := fnExactBesideOrdersRow, standIns := [], harness := (true, "3a59799c981756c69a33d5c56b6c3b585c478813100062ec274419a53b707fa1"), looks := false }, kinds := [], alts := [], laidByText := true, laidKinds := [.data, .data], laidTests := true, laidLooks := .later }
def FnExactBesideOrdersCardSaid : Prop := Claim7.holds Tryd.pinned (.plain (OpenSpec.ofChange fnExactBesideOrdersSpec)) fnExactBesideOrdersCard

/-- THE TIED CARD OF 'laws.FnExactStackOrders'. -/
def fnExactStackOrdersCard : Claim7 := { stood := { row := fnExactStackOrdersRow, standIns := [], harness := (true, "3a59799c981756c69a33d5c56b6c3b585c478813100062ec274419a53b707fa1"), looks := false }, kinds := [], alts := [], laidByText := true, laidKinds := [.data, .data], laidTests := true, laidLooks := .later }
def FnExactStackOrdersCardSaid : Prop := Claim7.holds Tryd.pinned (.plain (OpenSpec.ofChange fnExactStackOrdersSpec)) fnExactStackOrdersCard

/-- THE TIED CARD OF 'laws.FnExactThreeOneOf'. -/
def fnExactThreeOneOfCard : Claim7 := { stood := { row := fnExactThreeOneOfRow, standIns := [], harness := (true, "3a59799c981756c69a33d5c56b6c3b585c478813100062ec274419a53b707fa1"), looks := false }, kinds := [], alts := [], laidByText := true, laidKinds := [.data, .data], laidTests := true, laidLooks := .later }
def FnExactThreeOneOfCardSaid : Prop := Claim7.holds Tryd.pinned (.plain (OpenSpec.ofChange fnExactThreeOneOfSpec)) fnExactThreeOneOfCard

/-- THE TIED CARD OF 'laws.FnExactLargestAntichain'. -/
def fnExactLargestAntichainCard : Claim7 := { stood := { row := fnExactLargestAntichainRow, standIns := [], harness := (true, "3a59799c981756c69a33d5c56b6c3b585c478813100062ec274419a53b707fa1"), looks := false }, kinds := [], alts := [], laidByText := true, laidKinds := [.data, .data], laidTests := true, laidLooks := .later }
def FnExactLargestAntichainCardSaid : Prop := Claim7.holds Tryd.pinned (.plain (OpenSpec.ofChange fnExactLargestAntichainSpec)) fnExactLargestAntichainCard

/-- THE TIED CARD OF 'laws.FnExactChainNumbers'. -/
def fnExactChainNumbersCard : Claim7 := { stood := { row := fnExactChainNumbersRow, standIns := [], harness := (true, "3a59799c981756c69a33d5c56b6c3b585c478813100062ec274419a53b707fa1"), looks := false }, kinds := [], alts := [], laidByText := true, laidKinds := [.data, .data], laidTests := true, laidLooks := .later }
def FnExactChainNumbersCardSaid : Prop := Claim7.holds Tryd.pinned (.plain (OpenSpec.ofChange fnExactChainNumbersSpec)) fnExactChainNumbersCard

/-- THE SECOND FORM's CARD OF 'laws.FnExactRenameOf'. -/
def fnExactRenameOfUptoCard : Claim7 := { stood := { row := fnExactRenameOfUptoRow, standIns := [], harness := (true, "3a59799c981756c69a33d5c56b6c3b585c478813100062ec274419a53b707fa1"), looks := false }, kinds := [], alts := [], laidByText := true, laidKinds := [.data, .data], laidTests := true, laidLooks := .later }
def FnExactRenameOfUptoCardSaid : Prop := Claim7.holds Tryd.pinned (.plain (OpenSpec.upto fnExactRenameOfSpec)) fnExactRenameOfUptoCard

/-- THE SECOND FORM's CARD OF 'laws.FnExactLongestChain'. -/
def fnExactLongestChainUptoCard : Claim7 := { stood := { row := fnExactLongestChainUptoRow, standIns := [], harness := (true, "3a59799c981756c69a33d5c56b6c3b585c478813100062ec274419a53b707fa1"), looks := false }, kinds := [], alts := [], laidByText := true, laidKinds := [.data, .data], laidTests := true, laidLooks := .later }
def FnExactLongestChainUptoCardSaid : Prop := Claim7.holds Tryd.pinned (.plain (OpenSpec.upto fnExactLongestChainSpec)) fnExactLongestChainUptoCard

/-- THE SECOND FORM's CARD OF 'laws.FnExactCoversOf'. -/
def fnExactCoversOfUptoCard : Claim7 := { stood := { row := fnExactCoversOfUptoRow, standIns := [], harness := (true, "3a59799c981756c69a33d5c56b6c3b585c478813100062ec274419a53b707fa1"), looks := false }, kinds := [], alts := [], laidByText := true, laidKinds := [.data, .data], laidTests := true, laidLooks := .later }
def FnExactCoversOfUptoCardSaid : Prop := Claim7.holds Tryd.pinned (.plain (OpenSpec.upto fnExactCoversOfSpec)) fnExactCoversOfUptoCard

/-- THE SECOND FORM's CARD OF 'laws.FnExactBesideOrders'. -/
def fnExactBesideOrdersUptoCard : Claim7 := { stood := { row := fnExactBesideOrdersUptoRow, standIns := [], harness := (true, "3a59799c981756c69a33d5c56b6c3b585c478813100062ec274419a53b707fa1"), looks := false }, kinds := [], alts := [], laidByText := true, laidKinds := [.data, .data], laidTests := true, laidLooks := .later }
def FnExactBesideOrdersUptoCardSaid : Prop := Claim7.holds Tryd.pinned (.plain (OpenSpec.upto fnExactBesideOrdersSpec)) fnExactBesideOrdersUptoCard

/-- THE SECOND FORM's CARD OF 'laws.FnExactStackOrders'. -/
def fnExactStackOrdersUptoCard : Claim7 := { stood := { row := fnExactStackOrdersUptoRow, standIns := [], harness := (true, "3a59799c981756c69a33d5c56b6c3b585c478813100062ec274419a53b707fa1"), looks := false }, kinds := [], alts := [], laidByText := true, laidKinds := [.data, .data], laidTests := true, laidLooks := .later }
def FnExactStackOrdersUptoCardSaid : Prop := Claim7.holds Tryd.pinned (.plain (OpenSpec.upto fnExactStackOrdersSpec)) fnExactStackOrdersUptoCard

/-- THE SECOND FORM's CARD OF 'laws.FnExactThreeOneOf'. -/
def fnExactThreeOneOfUptoCard : Claim7 := { stood := { row := fnExactThreeOneOfUptoRow, standIns := [], harness := (true, "3a59799c981756c69a33d5c56b6c3b585c478813100062ec274419a53b707fa1"), looks := false }, kinds := [], alts := [], laidByText := true, laidKinds := [.data, .data], laidTests := true, laidLooks := .later }
def FnExactThreeOneOfUptoCardSaid : Prop := Claim7.holds Tryd.pinned (.plain (OpenSpec.upto fnExactThreeOneOfSpec)) fnExactThreeOneOfUptoCard

/-- THE SECOND FORM's CARD OF 'laws.FnExactLargestAntichain'. -/
def fnExactLargestAntichainUptoCard : Claim7 := { stood := { row := fnExactLargestAntichainUptoRow, standIns := [], harness := (true, "3a59799c981756c69a33d5c56b6c3b585c478813100062ec274419a53b707fa1"), looks := false }, kinds := [], alts := [], laidByText := true, laidKinds := [.data, .data], laidTests := true, laidLooks := .later }
def FnExactLargestAntichainUptoCardSaid : Prop := Claim7.holds Tryd.pinned (.plain (OpenSpec.upto fnExactLargestAntichainSpec)) fnExactLargestAntichainUptoCard

/-- THE SECOND FORM's CARD OF 'laws.FnExactChainNumbers'. -/
def fnExactChainNumbersUptoCard : Claim7 := { stood := { row := fnExactChainNumbersUptoRow, standIns := [], harness := (true, "3a59799c981756c69a33d5c56b6c3b585c478813100062ec274419a53b707fa1"), looks := false }, kinds := [], alts := [], laidByText := true, laidKinds := [.data, .data], laidTests := true, laidLooks := .later }
def FnExactChainNumbersUptoCardSaid : Prop := Claim7.holds Tryd.pinned (.plain (OpenSpec.upto fnExactChainNumbersSpec)) fnExactChainNumbersUptoCard
end Rows
end Go.Proofs.YtjbloapoaphgjaaDoor
