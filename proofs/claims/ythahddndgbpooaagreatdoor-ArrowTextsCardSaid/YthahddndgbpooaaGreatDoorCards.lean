/-
  DERIVED. GIVEN WITH THE SEED: THE CARDS: each row of YthahddndgbpooaaGreatDoorRows.lean that lists a variable, with what it lists TIED to the program's text (the seventh form; the later family's looks); each row that meets fmt, with fmt's text TOLD by the authors' own Lean function (tested against real Go, not proved from fmt's source: count such statements apart). THE CARD IS WHAT COUNTS. Prove the row's statement (the work); the ties are given (YthahddndgbpooaaGreatDoorTie.lean); close each card by the builder's one call (the guide's Derived/Test/ToyasCard.lean, 'card_holds'). Laid BY PROGRAM, IN A SANDBOX (cutbox-door.mjs). By AI agents, Wed Nov 11 2026. No macro, syntax, notation, axiom, sorry.
-/
import Derived.Test.YthahddndgbpooaaGreatDoorRows
import GoSem.ClaimSeven
namespace Go.Proofs.YthahddndgbpooaaGreatDoor
namespace Rows

/-- THE TIED CARD OF 'nocklaw01.ArrowTexts'. -/
def arrowTextsCard : Claim7 := { stood := { row := arrowTextsRow, standIns := [], harness := (true, "0da3e65f66aa73cdfcf1444b1f86cc6896551a7d24507d09c3f5bae850b9b7d4"), looks := true }, kinds := [], alts := [], goes := true, laidByText := true, laidKinds := [.data, .data, .data, .data, .handle, .sentinel, .sentinel, .data, .funcs, .sentinel, .pinned], laidTests := true, laidLooks := .later }
def ArrowTextsCardSaid : Prop := Claim7.holds Tryz.pinned (.plain (OpenSpec.ofChange arrowTextsSpec)) arrowTextsCard

/-- THE TIED CARD OF 'nocklaw01.ArrowBack'. -/
def arrowBackCard : Claim7 := { stood := { row := arrowBackRow, standIns := [], harness := (true, "0da3e65f66aa73cdfcf1444b1f86cc6896551a7d24507d09c3f5bae850b9b7d4"), looks := true }, kinds := [], alts := [], goes := true, laidByText := true, laidKinds := [.data, .data, .data, .data, .handle, .sentinel, .sentinel, .data, .funcs, .sentinel, .pinned], laidTests := true, laidLooks := .later }
def ArrowBackCardSaid : Prop := Claim7.holds Tryz.pinned (.plain (OpenSpec.ofChange arrowBackSpec)) arrowBackCard

/-- THE SECOND FORM's CARD OF 'nocklaw01.ArrowTexts'. -/
def arrowTextsUptoCard : Claim7 := { stood := { row := arrowTextsUptoRow, standIns := [], harness := (true, "0da3e65f66aa73cdfcf1444b1f86cc6896551a7d24507d09c3f5bae850b9b7d4"), looks := true }, kinds := [], alts := [], goes := true, laidByText := true, laidKinds := [.data, .data, .data, .data, .handle, .sentinel, .sentinel, .data, .funcs, .sentinel, .pinned], laidTests := true, laidLooks := .later }
def ArrowTextsUptoCardSaid : Prop := Claim7.holds Tryz.pinned (.plain (OpenSpec.upto arrowTextsSpec)) arrowTextsUptoCard

/-- THE SECOND FORM's CARD OF 'nocklaw01.ArrowBack'. -/
def arrowBackUptoCard : Claim7 := { stood := { row := arrowBackUptoRow, standIns := [], harness := (true, "0da3e65f66aa73cdfcf1444b1f86cc6896551a7d24507d09c3f5bae850b9b7d4"), looks := true }, kinds := [], alts := [], goes := true, laidByText := true, laidKinds := [.data, .data, .data, .data, .handle, .sentinel, .sentinel, .data, .funcs, .sentinel, .pinned], laidTests := true, laidLooks := .later }
def ArrowBackUptoCardSaid : Prop := Claim7.holds Tryz.pinned (.plain (OpenSpec.upto arrowBackSpec)) arrowBackUptoCard
end Rows
end Go.Proofs.YthahddndgbpooaaGreatDoor
