/-
  DERIVED. GIVEN WITH THE SEED: THE CARDS: each row of YtedkbdkbbnemlaaGreatDoorRows.lean that lists a variable, with what it lists TIED to the program's text (the seventh form; the later family's looks); each row that meets fmt, with fmt's text TOLD by the authors' own Lean function (tested against real Go, not proved from fmt's source: count such statements apart). THE CARD IS WHAT COUNTS. Prove the row's statement (the work); the ties are given (YtedkbdkbbnemlaaGreatDoorTie.lean); close each card by the builder's one call (the guide's Derived/Test/ToyasCard.lean, 'card_holds'). Laid BY PROGRAM, IN A SANDBOX (cutbox-door.mjs). By AI agents, Wed Nov 11 2026. No macro, syntax, notation, axiom, sorry.
-/
import Derived.Test.YtedkbdkbbnemlaaGreatDoorRows
import GoSem.ClaimSeven
namespace Go.Proofs.YtedkbdkbbnemlaaGreatDoor
namespace Rows

/-- THE TIED CARD OF 'nocklaw01.ArrowMatches'. -/
def arrowMatchesCard : Claim7 := { stood := { row := arrowMatchesRow, standIns := [], harness := (true, "0e1059176c690520e63ed0d32383d6ff1680ebd08dcb3a61820afc84c46f7b58"), looks := false }, kinds := [], alts := [], goes := true, laidByText := true, laidKinds := [.data, .data, .data, .funcs], laidTests := true, laidLooks := .later }
def ArrowMatchesCardSaid : Prop := Claim7.holds Tryz.pinned (.plain (OpenSpec.ofChange arrowMatchesSpec)) arrowMatchesCard

/-- THE TIED CARD OF 'nocklaw01.ArrowTrue'. -/
def arrowTrueCard : Claim7 := { stood := { row := arrowTrueRow, standIns := [], harness := (true, "0e1059176c690520e63ed0d32383d6ff1680ebd08dcb3a61820afc84c46f7b58"), looks := false }, kinds := [], alts := [], goes := true, laidByText := true, laidKinds := [.data, .data, .data, .funcs], laidTests := true, laidLooks := .later }
def ArrowTrueCardSaid : Prop := Claim7.holds Tryz.pinned (.plain (OpenSpec.ofChange arrowTrueSpec)) arrowTrueCard

/-- THE TIED CARD OF 'nocklaw01.ArrowPairs'. -/
def arrowPairsCard : Claim7 := { stood := { row := arrowPairsRow, standIns := [], harness := (true, "0e1059176c690520e63ed0d32383d6ff1680ebd08dcb3a61820afc84c46f7b58"), looks := false }, kinds := [], alts := [], goes := true, laidByText := true, laidKinds := [.data, .data, .data, .funcs], laidTests := true, laidLooks := .later }
def ArrowPairsCardSaid : Prop := Claim7.holds Tryz.pinned (.plain (OpenSpec.ofChange arrowPairsSpec)) arrowPairsCard

/-- THE TIED CARD OF 'nocklaw01.ArrowMost'. -/
def arrowMostCard : Claim7 := { stood := { row := arrowMostRow, standIns := [], harness := (true, "0e1059176c690520e63ed0d32383d6ff1680ebd08dcb3a61820afc84c46f7b58"), looks := false }, kinds := [], alts := [], goes := true, laidByText := true, laidKinds := [.data, .data, .data, .funcs], laidTests := true, laidLooks := .later }
def ArrowMostCardSaid : Prop := Claim7.holds Tryz.pinned (.plain (OpenSpec.ofChange arrowMostSpec)) arrowMostCard

/-- THE TIED CARD OF 'nocklaw01.ArrowAnyOrder'. -/
def arrowAnyOrderCard : Claim7 := { stood := { row := arrowAnyOrderRow, standIns := [], harness := (true, "0e1059176c690520e63ed0d32383d6ff1680ebd08dcb3a61820afc84c46f7b58"), looks := false }, kinds := [], alts := [], goes := true, laidByText := true, laidKinds := [.data, .data, .data, .funcs], laidTests := true, laidLooks := .later }
def ArrowAnyOrderCardSaid : Prop := Claim7.holds Tryz.pinned (.plain (OpenSpec.ofChange arrowAnyOrderSpec)) arrowAnyOrderCard

/-- THE TIED CARD OF 'nocklaw01.ArrowEach'. -/
def arrowEachCard : Claim7 := { stood := { row := arrowEachRow, standIns := [], harness := (true, "0e1059176c690520e63ed0d32383d6ff1680ebd08dcb3a61820afc84c46f7b58"), looks := false }, kinds := [], alts := [], goes := true, laidByText := true, laidKinds := [.data, .data, .data, .funcs], laidTests := true, laidLooks := .later }
def ArrowEachCardSaid : Prop := Claim7.holds Tryz.pinned (.plain (OpenSpec.ofChange arrowEachSpec)) arrowEachCard

/-- THE TIED CARD OF 'nocklaw01.ArrowGrows'. -/
def arrowGrowsCard : Claim7 := { stood := { row := arrowGrowsRow, standIns := [], harness := (true, "0e1059176c690520e63ed0d32383d6ff1680ebd08dcb3a61820afc84c46f7b58"), looks := false }, kinds := [], alts := [], goes := true, laidByText := true, laidKinds := [.data, .data, .data, .funcs], laidTests := true, laidLooks := .later }
def ArrowGrowsCardSaid : Prop := Claim7.holds Tryz.pinned (.plain (OpenSpec.ofChange arrowGrowsSpec)) arrowGrowsCard

/-- THE TIED CARD OF 'nocklaw01.ArrowBest'. -/
def arrowBestCard : Claim7 := { stood := { row := arrowBestRow, standIns := [], harness := (true, "0e1059176c690520e63ed0d32383d6ff1680ebd08dcb3a61820afc84c46f7b58"), looks := false }, kinds := [], alts := [], goes := true, laidByText := true, laidKinds := [.data, .data, .data, .funcs], laidTests := true, laidLooks := .later }
def ArrowBestCardSaid : Prop := Claim7.holds Tryz.pinned (.plain (OpenSpec.ofChange arrowBestSpec)) arrowBestCard

/-- THE TIED CARD OF 'nocklaw01.ArrowSets'. -/
def arrowSetsCard : Claim7 := { stood := { row := arrowSetsRow, standIns := [], harness := (true, "0e1059176c690520e63ed0d32383d6ff1680ebd08dcb3a61820afc84c46f7b58"), looks := false }, kinds := [], alts := [], goes := true, laidByText := true, laidKinds := [.data, .data, .data, .funcs], laidTests := true, laidLooks := .later }
def ArrowSetsCardSaid : Prop := Claim7.holds Tryz.pinned (.plain (OpenSpec.ofChange arrowSetsSpec)) arrowSetsCard

/-- THE TIED CARD OF 'nocklaw01.ArrowShots'. -/
def arrowShotsCard : Claim7 := { stood := { row := arrowShotsRow, standIns := [], harness := (true, "0e1059176c690520e63ed0d32383d6ff1680ebd08dcb3a61820afc84c46f7b58"), looks := false }, kinds := [], alts := [], goes := true, laidByText := true, laidKinds := [.data, .data, .data, .funcs], laidTests := true, laidLooks := .later }
def ArrowShotsCardSaid : Prop := Claim7.holds Tryz.pinned (.plain (OpenSpec.ofChange arrowShotsSpec)) arrowShotsCard

/-- THE TIED CARD OF 'nocklaw01.ArrowListed'. -/
def arrowListedCard : Claim7 := { stood := { row := arrowListedRow, standIns := [], harness := (true, "0e1059176c690520e63ed0d32383d6ff1680ebd08dcb3a61820afc84c46f7b58"), looks := false }, kinds := [], alts := [], goes := true, laidByText := true, laidKinds := [.data, .data, .data, .funcs], laidTests := true, laidLooks := .later }
def ArrowListedCardSaid : Prop := Claim7.holds Tryz.pinned (.plain (OpenSpec.ofChange arrowListedSpec)) arrowListedCard

/-- THE TIED CARD OF 'nocklaw01.ArrowReal'. -/
def arrowRealCard : Claim7 := { stood := { row := arrowRealRow, standIns := [], harness := (true, "0e1059176c690520e63ed0d32383d6ff1680ebd08dcb3a61820afc84c46f7b58"), looks := false }, kinds := [], alts := [], goes := true, laidByText := true, laidKinds := [.data, .data, .data, .funcs], laidTests := true, laidLooks := .later }
def ArrowRealCardSaid : Prop := Claim7.holds Tryz.pinned (.plain (OpenSpec.ofChange arrowRealSpec)) arrowRealCard

/-- THE TIED CARD OF 'nocklaw01.ArrowClashes'. -/
def arrowClashesCard : Claim7 := { stood := { row := arrowClashesRow, standIns := [], harness := (true, "0e1059176c690520e63ed0d32383d6ff1680ebd08dcb3a61820afc84c46f7b58"), looks := false }, kinds := [], alts := [], goes := true, laidByText := true, laidKinds := [.data, .data, .data, .funcs], laidTests := true, laidLooks := .later }
def ArrowClashesCardSaid : Prop := Claim7.holds Tryz.pinned (.plain (OpenSpec.ofChange arrowClashesSpec)) arrowClashesCard

/-- THE TIED CARD OF 'nocklaw01.ArrowMeasures'. -/
def arrowMeasuresCard : Claim7 := { stood := { row := arrowMeasuresRow, standIns := [], harness := (true, "0e1059176c690520e63ed0d32383d6ff1680ebd08dcb3a61820afc84c46f7b58"), looks := false }, kinds := [], alts := [], goes := true, laidByText := true, laidKinds := [.data, .data, .data, .funcs], laidTests := true, laidLooks := .later }
def ArrowMeasuresCardSaid : Prop := Claim7.holds Tryz.pinned (.plain (OpenSpec.ofChange arrowMeasuresSpec)) arrowMeasuresCard

/-- THE TIED CARD OF 'nocklaw01.ArrowKnown'. -/
def arrowKnownCard : Claim7 := { stood := { row := arrowKnownRow, standIns := [], harness := (true, "0e1059176c690520e63ed0d32383d6ff1680ebd08dcb3a61820afc84c46f7b58"), looks := false }, kinds := [], alts := [], goes := true, laidByText := true, laidKinds := [.data, .data, .data, .funcs], laidTests := true, laidLooks := .later }
def ArrowKnownCardSaid : Prop := Claim7.holds Tryz.pinned (.plain (OpenSpec.ofChange arrowKnownSpec)) arrowKnownCard

/-- THE TIED CARD OF 'nocklaw01.ArrowStocks'. -/
def arrowStocksCard : Claim7 := { stood := { row := arrowStocksRow, standIns := [], harness := (true, "0e1059176c690520e63ed0d32383d6ff1680ebd08dcb3a61820afc84c46f7b58"), looks := false }, kinds := [], alts := [], goes := true, laidByText := true, laidKinds := [.data, .data, .data, .funcs], laidTests := true, laidLooks := .later }
def ArrowStocksCardSaid : Prop := Claim7.holds Tryz.pinned (.plain (OpenSpec.ofChange arrowStocksSpec)) arrowStocksCard

/-- THE TIED CARD OF 'nocklaw01.ArrowMarks'. -/
def arrowMarksCard : Claim7 := { stood := { row := arrowMarksRow, standIns := [], harness := (true, "0e1059176c690520e63ed0d32383d6ff1680ebd08dcb3a61820afc84c46f7b58"), looks := false }, kinds := [], alts := [], goes := true, laidByText := true, laidKinds := [.data, .data, .data, .funcs], laidTests := true, laidLooks := .later }
def ArrowMarksCardSaid : Prop := Claim7.holds Tryz.pinned (.plain (OpenSpec.ofChange arrowMarksSpec)) arrowMarksCard

/-- THE TIED CARD OF 'nocklaw01.ArrowOrder'. -/
def arrowOrderCard : Claim7 := { stood := { row := arrowOrderRow, standIns := [], harness := (true, "0e1059176c690520e63ed0d32383d6ff1680ebd08dcb3a61820afc84c46f7b58"), looks := false }, kinds := [], alts := [], goes := true, laidByText := true, laidKinds := [.data, .data, .data, .funcs], laidTests := true, laidLooks := .later }
def ArrowOrderCardSaid : Prop := Claim7.holds Tryz.pinned (.plain (OpenSpec.ofChange arrowOrderSpec)) arrowOrderCard

/-- THE SECOND FORM's CARD OF 'nocklaw01.ArrowMatches'. -/
def arrowMatchesUptoCard : Claim7 := { stood := { row := arrowMatchesUptoRow, standIns := [], harness := (true, "0e1059176c690520e63ed0d32383d6ff1680ebd08dcb3a61820afc84c46f7b58"), looks := false }, kinds := [], alts := [], goes := true, laidByText := true, laidKinds := [.data, .data, .data, .funcs], laidTests := true, laidLooks := .later }
def ArrowMatchesUptoCardSaid : Prop := Claim7.holds Tryz.pinned (.plain (OpenSpec.upto arrowMatchesSpec)) arrowMatchesUptoCard

/-- THE SECOND FORM's CARD OF 'nocklaw01.ArrowTrue'. -/
def arrowTrueUptoCard : Claim7 := { stood := { row := arrowTrueUptoRow, standIns := [], harness := (true, "0e1059176c690520e63ed0d32383d6ff1680ebd08dcb3a61820afc84c46f7b58"), looks := false }, kinds := [], alts := [], goes := true, laidByText := true, laidKinds := [.data, .data, .data, .funcs], laidTests := true, laidLooks := .later }
def ArrowTrueUptoCardSaid : Prop := Claim7.holds Tryz.pinned (.plain (OpenSpec.upto arrowTrueSpec)) arrowTrueUptoCard

/-- THE SECOND FORM's CARD OF 'nocklaw01.ArrowPairs'. -/
def arrowPairsUptoCard : Claim7 := { stood := { row := arrowPairsUptoRow, standIns := [], harness := (true, "0e1059176c690520e63ed0d32383d6ff1680ebd08dcb3a61820afc84c46f7b58"), looks := false }, kinds := [], alts := [], goes := true, laidByText := true, laidKinds := [.data, .data, .data, .funcs], laidTests := true, laidLooks := .later }
def ArrowPairsUptoCardSaid : Prop := Claim7.holds Tryz.pinned (.plain (OpenSpec.upto arrowPairsSpec)) arrowPairsUptoCard

/-- THE SECOND FORM's CARD OF 'nocklaw01.ArrowMost'. -/
def arrowMostUptoCard : Claim7 := { stood := { row := arrowMostUptoRow, standIns := [], harness := (true, "0e1059176c690520e63ed0d32383d6ff1680ebd08dcb3a61820afc84c46f7b58"), looks := false }, kinds := [], alts := [], goes := true, laidByText := true, laidKinds := [.data, .data, .data, .funcs], laidTests := true, laidLooks := .later }
def ArrowMostUptoCardSaid : Prop := Claim7.holds Tryz.pinned (.plain (OpenSpec.upto arrowMostSpec)) arrowMostUptoCard

/-- THE SECOND FORM's CARD OF 'nocklaw01.ArrowAnyOrder'. -/
def arrowAnyOrderUptoCard : Claim7 := { stood := { row := arrowAnyOrderUptoRow, standIns := [], harness := (true, "0e1059176c690520e63ed0d32383d6ff1680ebd08dcb3a61820afc84c46f7b58"), looks := false }, kinds := [], alts := [], goes := true, laidByText := true, laidKinds := [.data, .data, .data, .funcs], laidTests := true, laidLooks := .later }
def ArrowAnyOrderUptoCardSaid : Prop := Claim7.holds Tryz.pinned (.plain (OpenSpec.upto arrowAnyOrderSpec)) arrowAnyOrderUptoCard

/-- THE SECOND FORM's CARD OF 'nocklaw01.ArrowEach'. -/
def arrowEachUptoCard : Claim7 := { stood := { row := arrowEachUptoRow, standIns := [], harness := (true, "0e1059176c690520e63ed0d32383d6ff1680ebd08dcb3a61820afc84c46f7b58"), looks := false }, kinds := [], alts := [], goes := true, laidByText := true, laidKinds := [.data, .data, .data, .funcs], laidTests := true, laidLooks := .later }
def ArrowEachUptoCardSaid : Prop := Claim7.holds Tryz.pinned (.plain (OpenSpec.upto arrowEachSpec)) arrowEachUptoCard

/-- THE SECOND FORM's CARD OF 'nocklaw01.ArrowGrows'. -/
def arrowGrowsUptoCard : Claim7 := { stood := { row := arrowGrowsUptoRow, standIns := [], harness := (true, "0e1059176c690520e63ed0d32383d6ff1680ebd08dcb3a61820afc84c46f7b58"), looks := false }, kinds := [], alts := [], goes := true, laidByText := true, laidKinds := [.data, .data, .data, .funcs], laidTests := true, laidLooks := .later }
def ArrowGrowsUptoCardSaid : Prop := Claim7.holds Tryz.pinned (.plain (OpenSpec.upto arrowGrowsSpec)) arrowGrowsUptoCard

/-- THE SECOND FORM's CARD OF 'nocklaw01.ArrowBest'. -/
def arrowBestUptoCard : Claim7 := { stood := { row := arrowBestUptoRow, standIns := [], harness := (true, "0e1059176c690520e63ed0d32383d6ff1680ebd08dcb3a61820afc84c46f7b58"), looks := false }, kinds := [], alts := [], goes := true, laidByText := true, laidKinds := [.data, .data, .data, .funcs], laidTests := true, laidLooks := .later }
def ArrowBestUptoCardSaid : Prop := Claim7.holds Tryz.pinned (.plain (OpenSpec.upto arrowBestSpec)) arrowBestUptoCard

/-- THE SECOND FORM's CARD OF 'nocklaw01.ArrowSets'. -/
def arrowSetsUptoCard : Claim7 := { stood := { row := arrowSetsUptoRow, standIns := [], harness := (true, "0e1059176c690520e63ed0d32383d6ff1680ebd08dcb3a61820afc84c46f7b58"), looks := false }, kinds := [], alts := [], goes := true, laidByText := true, laidKinds := [.data, .data, .data, .funcs], laidTests := true, laidLooks := .later }
def ArrowSetsUptoCardSaid : Prop := Claim7.holds Tryz.pinned (.plain (OpenSpec.upto arrowSetsSpec)) arrowSetsUptoCard

/-- THE SECOND FORM's CARD OF 'nocklaw01.ArrowShots'. -/
def arrowShotsUptoCard : Claim7 := { stood := { row := arrowShotsUptoRow, standIns := [], harness := (true, "0e1059176c690520e63ed0d32383d6ff1680ebd08dcb3a61820afc84c46f7b58"), looks := false }, kinds := [], alts := [], goes := true, laidByText := true, laidKinds := [.data, .data, .data, .funcs], laidTests := true, laidLooks := .later }
def ArrowShotsUptoCardSaid : Prop := Claim7.holds Tryz.pinned (.plain (OpenSpec.upto arrowShotsSpec)) arrowShotsUptoCard

/-- THE SECOND FORM's CARD OF 'nocklaw01.ArrowListed'. -/
def arrowListedUptoCard : Claim7 := { stood := { row := arrowListedUptoRow, standIns := [], harness := (true, "0e1059176c690520e63ed0d32383d6ff1680ebd08dcb3a61820afc84c46f7b58"), looks := false }, kinds := [], alts := [], goes := true, laidByText := true, laidKinds := [.data, .data, .data, .funcs], laidTests := true, laidLooks := .later }
def ArrowListedUptoCardSaid : Prop := Claim7.holds Tryz.pinned (.plain (OpenSpec.upto arrowListedSpec)) arrowListedUptoCard

/-- THE SECOND FORM's CARD OF 'nocklaw01.ArrowReal'. -/
def arrowRealUptoCard : Claim7 := { stood := { row := arrowRealUptoRow, standIns := [], harness := (true, "0e1059176c690520e63ed0d32383d6ff1680ebd08dcb3a61820afc84c46f7b58"), looks := false }, kinds := [], alts := [], goes := true, laidByText := true, laidKinds := [.data, .data, .data, .funcs], laidTests := true, laidLooks := .later }
def ArrowRealUptoCardSaid : Prop := Claim7.holds Tryz.pinned (.plain (OpenSpec.upto arrowRealSpec)) arrowRealUptoCard

/-- THE SECOND FORM's CARD OF 'nocklaw01.ArrowClashes'. -/
def arrowClashesUptoCard : Claim7 := { stood := { row := arrowClashesUptoRow, standIns := [], harness := (true, "0e1059176c690520e63ed0d32383d6ff1680ebd08dcb3a61820afc84c46f7b58"), looks := false }, kinds := [], alts := [], goes := true, laidByText := true, laidKinds := [.data, .data, .data, .funcs], laidTests := true, laidLooks := .later }
def ArrowClashesUptoCardSaid : Prop := Claim7.holds Tryz.pinned (.plain (OpenSpec.upto arrowClashesSpec)) arrowClashesUptoCard

/-- THE SECOND FORM's CARD OF 'nocklaw01.ArrowMeasures'. -/
def arrowMeasuresUptoCard : Claim7 := { stood := { row := arrowMeasuresUptoRow, standIns := [], harness := (true, "0e1059176c690520e63ed0d32383d6ff1680ebd08dcb3a61820afc84c46f7b58"), looks := false }, kinds := [], alts := [], goes := true, laidByText := true, laidKinds := [.data, .data, .data, .funcs], laidTests := true, laidLooks := .later }
def ArrowMeasuresUptoCardSaid : Prop := Claim7.holds Tryz.pinned (.plain (OpenSpec.upto arrowMeasuresSpec)) arrowMeasuresUptoCard

/-- THE SECOND FORM's CARD OF 'nocklaw01.ArrowKnown'. -/
def arrowKnownUptoCard : Claim7 := { stood := { row := arrowKnownUptoRow, standIns := [], harness := (true, "0e1059176c690520e63ed0d32383d6ff1680ebd08dcb3a61820afc84c46f7b58"), looks := false }, kinds := [], alts := [], goes := true, laidByText := true, laidKinds := [.data, .data, .data, .funcs], laidTests := true, laidLooks := .later }
def ArrowKnownUptoCardSaid : Prop := Claim7.holds Tryz.pinned (.plain (OpenSpec.upto arrowKnownSpec)) arrowKnownUptoCard

/-- THE SECOND FORM's CARD OF 'nocklaw01.ArrowStocks'. -/
def arrowStocksUptoCard : Claim7 := { stood := { row := arrowStocksUptoRow, standIns := [], harness := (true, "0e1059176c690520e63ed0d32383d6ff1680ebd08dcb3a61820afc84c46f7b58"), looks := false }, kinds := [], alts := [], goes := true, laidByText := true, laidKinds := [.data, .data, .data, .funcs], laidTests := true, laidLooks := .later }
def ArrowStocksUptoCardSaid : Prop := Claim7.holds Tryz.pinned (.plain (OpenSpec.upto arrowStocksSpec)) arrowStocksUptoCard

/-- THE SECOND FORM's CARD OF 'nocklaw01.ArrowMarks'. -/
def arrowMarksUptoCard : Claim7 := { stood := { row := arrowMarksUptoRow, standIns := [], harness := (true, "0e1059176c690520e63ed0d32383d6ff1680ebd08dcb3a61820afc84c46f7b58"), looks := false }, kinds := [], alts := [], goes := true, laidByText := true, laidKinds := [.data, .data, .data, .funcs], laidTests := true, laidLooks := .later }
def ArrowMarksUptoCardSaid : Prop := Claim7.holds Tryz.pinned (.plain (OpenSpec.upto arrowMarksSpec)) arrowMarksUptoCard

/-- THE SECOND FORM's CARD OF 'nocklaw01.ArrowOrder'. -/
def arrowOrderUptoCard : Claim7 := { stood := { row := arrowOrderUptoRow, standIns := [], harness := (true, "0e1059176c690520e63ed0d32383d6ff1680ebd08dcb3a61820afc84c46f7b58"), looks := false }, kinds := [], alts := [], goes := true, laidByText := true, laidKinds := [.data, .data, .data, .funcs], laidTests := true, laidLooks := .later }
def ArrowOrderUptoCardSaid : Prop := Claim7.holds Tryz.pinned (.plain (OpenSpec.upto arrowOrderSpec)) arrowOrderUptoCard
end Rows
end Go.Proofs.YtedkbdkbbnemlaaGreatDoor
