/-
  DERIVED. GIVEN WITH THE SEED: THE CARDS: each row of YtghjhampigbbkaaGreatDoorRows.lean that lists a variable, with what it lists TIED to the program's text (the seventh form; the later family's looks); each row that meets fmt, with fmt's text TOLD by the authors' own Lean function (tested against real Go, not proved from fmt's source: count such statements apart). THE CARD IS WHAT COUNTS. Prove the row's statement (the work); the ties are given (YtghjhampigbbkaaGreatDoorTie.lean); close each card by the builder's one call (the guide's Derived/Test/ToyasCard.lean, 'card_holds'). Laid BY PROGRAM, IN A SANDBOX (cutbox-door.mjs). By AI agents, Wed Nov 11 2026. No macro, syntax, notation, axiom, sorry.
-/
import Derived.Test.YtghjhampigbbkaaGreatDoorRows
import GoSem.ClaimSeven
namespace Go.Proofs.YtghjhampigbbkaaGreatDoor
namespace Rows

/-- THE TIED CARD OF 'casebooklaw13.ImportsWrites'. -/
def importsWritesCard : Claim7 := { stood := { row := importsWritesRow, standIns := [], harness := (true, "3d1ad05edf3b8d610dd4a257faf82e880b1236aad83bfc75db197adc04b0ee8b"), looks := true }, kinds := [], alts := [], laidByText := true, laidKinds := [.data, .data, .data, .data, .sentinel, .sentinel, .pinned], laidTests := true, laidLooks := .later }
def ImportsWritesCardSaid : Prop := Claim7.holds Tryz.pinned (.plain (OpenSpec.ofChange importsWritesSpec)) importsWritesCard

/-- THE TIED CARD OF 'casebooklaw13.ImportsLogs'. -/
def importsLogsCard : Claim7 := { stood := { row := importsLogsRow, standIns := [], harness := (true, "3d1ad05edf3b8d610dd4a257faf82e880b1236aad83bfc75db197adc04b0ee8b"), looks := true }, kinds := [], alts := [], laidByText := true, laidKinds := [.data, .data, .data, .data, .sentinel, .sentinel, .pinned], laidTests := true, laidLooks := .later }
def ImportsLogsCardSaid : Prop := Claim7.holds Tryz.pinned (.plain (OpenSpec.ofChange importsLogsSpec)) importsLogsCard

/-- THE TIED CARD OF 'casebooklaw13.ImportsRound'. -/
def importsRoundCard : Claim7 := { stood := { row := importsRoundRow, standIns := [], harness := (true, "3d1ad05edf3b8d610dd4a257faf82e880b1236aad83bfc75db197adc04b0ee8b"), looks := true }, kinds := [], alts := [], laidByText := true, laidKinds := [.data, .data, .data, .data, .sentinel, .sentinel, .pinned], laidTests := true, laidLooks := .later }
def ImportsRoundCardSaid : Prop := Claim7.holds Tryz.pinned (.plain (OpenSpec.ofChange importsRoundSpec)) importsRoundCard

/-- THE TIED CARD OF 'casebooklaw13.ImportsColumns'. -/
def importsColumnsCard : Claim7 := { stood := { row := importsColumnsRow, standIns := [], harness := (true, "3d1ad05edf3b8d610dd4a257faf82e880b1236aad83bfc75db197adc04b0ee8b"), looks := true }, kinds := [], alts := [], laidByText := true, laidKinds := [.data, .data, .data, .data, .sentinel, .sentinel, .pinned], laidTests := true, laidLooks := .later }
def ImportsColumnsCardSaid : Prop := Claim7.holds Tryz.pinned (.plain (OpenSpec.ofChange importsColumnsSpec)) importsColumnsCard

/-- THE TIED CARD OF 'casebooklaw13.ImportsGuesses'. -/
def importsGuessesCard : Claim7 := { stood := { row := importsGuessesRow, standIns := [], harness := (true, "3d1ad05edf3b8d610dd4a257faf82e880b1236aad83bfc75db197adc04b0ee8b"), looks := true }, kinds := [], alts := [], laidByText := true, laidKinds := [.data, .data, .data, .data, .sentinel, .sentinel, .pinned], laidTests := true, laidLooks := .later }
def ImportsGuessesCardSaid : Prop := Claim7.holds Tryz.pinned (.plain (OpenSpec.ofChange importsGuessesSpec)) importsGuessesCard

/-- THE TIED CARD OF 'casebooklaw13.ImportsExports'. -/
def importsExportsCard : Claim7 := { stood := { row := importsExportsRow, standIns := [], harness := (true, "3d1ad05edf3b8d610dd4a257faf82e880b1236aad83bfc75db197adc04b0ee8b"), looks := true }, kinds := [], alts := [], laidByText := true, laidKinds := [.data, .data, .data, .data, .sentinel, .sentinel, .pinned], laidTests := true, laidLooks := .later }
def ImportsExportsCardSaid : Prop := Claim7.holds Tryz.pinned (.plain (OpenSpec.ofChange importsExportsSpec)) importsExportsCard

/-- THE TIED CARD OF 'casebooklaw13.ImportsBack'. -/
def importsBackCard : Claim7 := { stood := { row := importsBackRow, standIns := [], harness := (true, "3d1ad05edf3b8d610dd4a257faf82e880b1236aad83bfc75db197adc04b0ee8b"), looks := true }, kinds := [], alts := [], laidByText := true, laidKinds := [.data, .data, .data, .data, .sentinel, .sentinel, .pinned], laidTests := true, laidLooks := .later }
def ImportsBackCardSaid : Prop := Claim7.holds Tryz.pinned (.plain (OpenSpec.ofChange importsBackSpec)) importsBackCard

/-- THE SECOND FORM's CARD OF 'casebooklaw13.ImportsWrites'. -/
def importsWritesUptoCard : Claim7 := { stood := { row := importsWritesUptoRow, standIns := [], harness := (true, "3d1ad05edf3b8d610dd4a257faf82e880b1236aad83bfc75db197adc04b0ee8b"), looks := true }, kinds := [], alts := [], laidByText := true, laidKinds := [.data, .data, .data, .data, .sentinel, .sentinel, .pinned], laidTests := true, laidLooks := .later }
def ImportsWritesUptoCardSaid : Prop := Claim7.holds Tryz.pinned (.plain (OpenSpec.upto importsWritesSpec)) importsWritesUptoCard

/-- THE SECOND FORM's CARD OF 'casebooklaw13.ImportsLogs'. -/
def importsLogsUptoCard : Claim7 := { stood := { row := importsLogsUptoRow, standIns := [], harness := (true, "3d1ad05edf3b8d610dd4a257faf82e880b1236aad83bfc75db197adc04b0ee8b"), looks := true }, kinds := [], alts := [], laidByText := true, laidKinds := [.data, .data, .data, .data, .sentinel, .sentinel, .pinned], laidTests := true, laidLooks := .later }
def ImportsLogsUptoCardSaid : Prop := Claim7.holds Tryz.pinned (.plain (OpenSpec.upto importsLogsSpec)) importsLogsUptoCard

/-- THE SECOND FORM's CARD OF 'casebooklaw13.ImportsRound'. -/
def importsRoundUptoCard : Claim7 := { stood := { row := importsRoundUptoRow, standIns := [], harness := (true, "3d1ad05edf3b8d610dd4a257faf82e880b1236aad83bfc75db197adc04b0ee8b"), looks := true }, kinds := [], alts := [], laidByText := true, laidKinds := [.data, .data, .data, .data, .sentinel, .sentinel, .pinned], laidTests := true, laidLooks := .later }
def ImportsRoundUptoCardSaid : Prop := Claim7.holds Tryz.pinned (.plain (OpenSpec.upto importsRoundSpec)) importsRoundUptoCard

/-- THE SECOND FORM's CARD OF 'casebooklaw13.ImportsColumns'. -/
def importsColumnsUptoCard : Claim7 := { stood := { row := importsColumnsUptoRow, standIns := [], harness := (true, "3d1ad05edf3b8d610dd4a257faf82e880b1236aad83bfc75db197adc04b0ee8b"), looks := true }, kinds := [], alts := [], laidByText := true, laidKinds := [.data, .data, .data, .data, .sentinel, .sentinel, .pinned], laidTests := true, laidLooks := .later }
def ImportsColumnsUptoCardSaid : Prop := Claim7.holds Tryz.pinned (.plain (OpenSpec.upto importsColumnsSpec)) importsColumnsUptoCard

/-- THE SECOND FORM's CARD OF 'casebooklaw13.ImportsGuesses'. -/
def importsGuessesUptoCard : Claim7 := { stood := { row := importsGuessesUptoRow, standIns := [], harness := (true, "3d1ad05edf3b8d610dd4a257faf82e880b1236aad83bfc75db197adc04b0ee8b"), looks := true }, kinds := [], alts := [], laidByText := true, laidKinds := [.data, .data, .data, .data, .sentinel, .sentinel, .pinned], laidTests := true, laidLooks := .later }
def ImportsGuessesUptoCardSaid : Prop := Claim7.holds Tryz.pinned (.plain (OpenSpec.upto importsGuessesSpec)) importsGuessesUptoCard

/-- THE SECOND FORM's CARD OF 'casebooklaw13.ImportsExports'. -/
def importsExportsUptoCard : Claim7 := { stood := { row := importsExportsUptoRow, standIns := [], harness := (true, "3d1ad05edf3b8d610dd4a257faf82e880b1236aad83bfc75db197adc04b0ee8b"), looks := true }, kinds := [], alts := [], laidByText := true, laidKinds := [.data, .data, .data, .data, .sentinel, .sentinel, .pinned], laidTests := true, laidLooks := .later }
def ImportsExportsUptoCardSaid : Prop := Claim7.holds Tryz.pinned (.plain (OpenSpec.upto importsExportsSpec)) importsExportsUptoCard

/-- THE SECOND FORM's CARD OF 'casebooklaw13.ImportsBack'. -/
def importsBackUptoCard : Claim7 := { stood := { row := importsBackUptoRow, standIns := [], harness := (true, "3d1ad05edf3b8d610dd4a257faf82e880b1236aad83bfc75db197adc04b0ee8b"), looks := true }, kinds := [], alts := [], laidByText := true, laidKinds := [.data, .data, .data, .data, .sentinel, .sentinel, .pinned], laidTests := true, laidLooks := .later }
def ImportsBackUptoCardSaid : Prop := Claim7.holds Tryz.pinned (.plain (OpenSpec.upto importsBackSpec)) importsBackUptoCard
end Rows
end Go.Proofs.YtghjhampigbbkaaGreatDoor
