/-
  DERIVED. GIVEN WITH THE SEED: THE CARDS: each row of YtdcphpbimeoioaaGreatDoorRows.lean that lists a variable, with what it lists TIED to the program's text (the seventh form; the later family's looks); each row that meets fmt, with fmt's text TOLD by the authors' own Lean function (tested against real Go, not proved from fmt's source: count such statements apart). THE CARD IS WHAT COUNTS. Prove the row's statement (the work); the ties are given (YtdcphpbimeoioaaGreatDoorTie.lean); close each card by the builder's one call (the guide's Derived/Test/ToyasCard.lean, 'card_holds'). Laid BY PROGRAM, IN A SANDBOX (cutbox-door.mjs). By AI agents, Wed Nov 11 2026. No macro, syntax, notation, axiom, sorry.
-/
import Derived.Test.YtdcphpbimeoioaaGreatDoorRows
import GoSem.ClaimSeven
namespace Go.Proofs.YtdcphpbimeoioaaGreatDoor
namespace Rows

/-- THE TIED CARD OF 'ebbtidelaw16.ScanSteps'. -/
def scanStepsCard : Claim7 := { stood := { row := scanStepsRow, standIns := [], harness := (true, "0d20d307793b7e91d58ed3327789f58a2aed54e72930e40b02d1b65ca5753312"), looks := true }, kinds := [], alts := [], laidByText := true, laidKinds := [.data, .pinned], laidTests := true, laidLooks := .later }
def ScanStepsCardSaid : Prop := Claim7.holds Tryz.pinned (.plain (OpenSpec.ofChange scanStepsSpec)) scanStepsCard

/-- THE TIED CARD OF 'ebbtidelaw16.ScanAll'. -/
def scanAllCard : Claim7 := { stood := { row := scanAllRow, standIns := [], harness := (true, "0d20d307793b7e91d58ed3327789f58a2aed54e72930e40b02d1b65ca5753312"), looks := true }, kinds := [], alts := [], laidByText := true, laidKinds := [.data, .pinned], laidTests := true, laidLooks := .later }
def ScanAllCardSaid : Prop := Claim7.holds Tryz.pinned (.plain (OpenSpec.ofChange scanAllSpec)) scanAllCard

/-- THE TIED CARD OF 'ebbtidelaw16.ScanStays'. -/
def scanStaysCard : Claim7 := { stood := { row := scanStaysRow, standIns := [], harness := (true, "0d20d307793b7e91d58ed3327789f58a2aed54e72930e40b02d1b65ca5753312"), looks := true }, kinds := [], alts := [], laidByText := true, laidKinds := [.data, .pinned], laidTests := true, laidLooks := .later }
def ScanStaysCardSaid : Prop := Claim7.holds Tryz.pinned (.plain (OpenSpec.ofChange scanStaysSpec)) scanStaysCard

/-- THE TIED CARD OF 'ebbtidelaw16.ScanTurned'. -/
def scanTurnedCard : Claim7 := { stood := { row := scanTurnedRow, standIns := [], harness := (true, "0d20d307793b7e91d58ed3327789f58a2aed54e72930e40b02d1b65ca5753312"), looks := true }, kinds := [], alts := [], laidByText := true, laidKinds := [.data, .pinned], laidTests := true, laidLooks := .later }
def ScanTurnedCardSaid : Prop := Claim7.holds Tryz.pinned (.plain (OpenSpec.ofChange scanTurnedSpec)) scanTurnedCard

/-- THE TIED CARD OF 'ebbtidelaw22.CommandTells'. -/
def commandTellsCard : Claim7 := { stood := { row := commandTellsRow, standIns := [], harness := (true, "0d20d307793b7e91d58ed3327789f58a2aed54e72930e40b02d1b65ca5753312"), looks := true }, kinds := [], alts := [], laidByText := true, laidKinds := [.data, .data, .data, .data, .sentinel, .sentinel, .pinned], laidTests := true, laidLooks := .later }
def CommandTellsCardSaid : Prop := Claim7.holds Tryz.pinned (.plain (OpenSpec.ofChange commandTellsSpec)) commandTellsCard

/-- THE TIED CARD OF 'ebbtidelaw22.CommandParses'. -/
def commandParsesCard : Claim7 := { stood := { row := commandParsesRow, standIns := [], harness := (true, "0d20d307793b7e91d58ed3327789f58a2aed54e72930e40b02d1b65ca5753312"), looks := true }, kinds := [], alts := [], laidByText := true, laidKinds := [.data, .data, .data, .data, .sentinel, .sentinel, .pinned], laidTests := true, laidLooks := .later }
def CommandParsesCardSaid : Prop := Claim7.holds Tryz.pinned (.plain (OpenSpec.ofChange commandParsesSpec)) commandParsesCard

/-- THE TIED CARD OF 'ebbtidelaw22.CommandBack'. -/
def commandBackCard : Claim7 := { stood := { row := commandBackRow, standIns := [], harness := (true, "0d20d307793b7e91d58ed3327789f58a2aed54e72930e40b02d1b65ca5753312"), looks := true }, kinds := [], alts := [], laidByText := true, laidKinds := [.data, .data, .data, .data, .sentinel, .sentinel, .pinned], laidTests := true, laidLooks := .later }
def CommandBackCardSaid : Prop := Claim7.holds Tryz.pinned (.plain (OpenSpec.ofChange commandBackSpec)) commandBackCard

/-- THE TIED CARD OF 'ebbtidelaw22.CommandBlanks'. -/
def commandBlanksCard : Claim7 := { stood := { row := commandBlanksRow, standIns := [], harness := (true, "0d20d307793b7e91d58ed3327789f58a2aed54e72930e40b02d1b65ca5753312"), looks := true }, kinds := [], alts := [], laidByText := true, laidKinds := [.data, .data, .data, .data, .sentinel, .sentinel, .pinned], laidTests := true, laidLooks := .later }
def CommandBlanksCardSaid : Prop := Claim7.holds Tryz.pinned (.plain (OpenSpec.ofChange commandBlanksSpec)) commandBlanksCard

/-- THE TIED CARD OF 'ebbtidelaw08.RowTells'. -/
def rowTellsCard : Claim7 := { stood := { row := rowTellsRow, standIns := [], harness := (true, "0d20d307793b7e91d58ed3327789f58a2aed54e72930e40b02d1b65ca5753312"), looks := true }, kinds := [], alts := [], laidByText := true, laidKinds := [.data, .data, .data, .data, .sentinel, .sentinel, .pinned], laidTests := true, laidLooks := .later }
def RowTellsCardSaid : Prop := Claim7.holds Tryz.pinned (.plain (OpenSpec.ofChange rowTellsSpec)) rowTellsCard

/-- THE TIED CARD OF 'ebbtidelaw08.RowParses'. -/
def rowParsesCard : Claim7 := { stood := { row := rowParsesRow, standIns := [], harness := (true, "0d20d307793b7e91d58ed3327789f58a2aed54e72930e40b02d1b65ca5753312"), looks := true }, kinds := [], alts := [], laidByText := true, laidKinds := [.data, .data, .data, .data, .sentinel, .sentinel, .pinned], laidTests := true, laidLooks := .later }
def RowParsesCardSaid : Prop := Claim7.holds Tryz.pinned (.plain (OpenSpec.ofChange rowParsesSpec)) rowParsesCard

/-- THE TIED CARD OF 'ebbtidelaw08.RowAnswers'. -/
def rowAnswersCard : Claim7 := { stood := { row := rowAnswersRow, standIns := [], harness := (true, "0d20d307793b7e91d58ed3327789f58a2aed54e72930e40b02d1b65ca5753312"), looks := true }, kinds := [], alts := [], laidByText := true, laidKinds := [.data, .data, .data, .data, .sentinel, .sentinel, .pinned], laidTests := true, laidLooks := .later }
def RowAnswersCardSaid : Prop := Claim7.holds Tryz.pinned (.plain (OpenSpec.ofChange rowAnswersSpec)) rowAnswersCard

/-- THE TIED CARD OF 'ebbtidelaw08.RowOrder'. -/
def rowOrderCard : Claim7 := { stood := { row := rowOrderRow, standIns := [], harness := (true, "0d20d307793b7e91d58ed3327789f58a2aed54e72930e40b02d1b65ca5753312"), looks := true }, kinds := [], alts := [], laidByText := true, laidKinds := [.data, .data, .data, .data, .sentinel, .sentinel, .pinned], laidTests := true, laidLooks := .later }
def RowOrderCardSaid : Prop := Claim7.holds Tryz.pinned (.plain (OpenSpec.ofChange rowOrderSpec)) rowOrderCard

/-- THE TIED CARD OF 'ebbtidelaw08.RowBack'. -/
def rowBackCard : Claim7 := { stood := { row := rowBackRow, standIns := [], harness := (true, "0d20d307793b7e91d58ed3327789f58a2aed54e72930e40b02d1b65ca5753312"), looks := true }, kinds := [], alts := [], laidByText := true, laidKinds := [.data, .data, .data, .data, .sentinel, .sentinel, .pinned], laidTests := true, laidLooks := .later }
def RowBackCardSaid : Prop := Claim7.holds Tryz.pinned (.plain (OpenSpec.ofChange rowBackSpec)) rowBackCard

/-- THE TIED CARD OF 'ebbtidelaw08.RowCounts'. -/
def rowCountsCard : Claim7 := { stood := { row := rowCountsRow, standIns := [], harness := (true, "0d20d307793b7e91d58ed3327789f58a2aed54e72930e40b02d1b65ca5753312"), looks := true }, kinds := [], alts := [], laidByText := true, laidKinds := [.data, .data, .data, .data, .sentinel, .sentinel, .pinned], laidTests := true, laidLooks := .later }
def RowCountsCardSaid : Prop := Claim7.holds Tryz.pinned (.plain (OpenSpec.ofChange rowCountsSpec)) rowCountsCard

/-- THE SECOND FORM's CARD OF 'ebbtidelaw16.ScanSteps'. -/
def scanStepsUptoCard : Claim7 := { stood := { row := scanStepsUptoRow, standIns := [], harness := (true, "0d20d307793b7e91d58ed3327789f58a2aed54e72930e40b02d1b65ca5753312"), looks := true }, kinds := [], alts := [], laidByText := true, laidKinds := [.data, .pinned], laidTests := true, laidLooks := .later }
def ScanStepsUptoCardSaid : Prop := Claim7.holds Tryz.pinned (.plain (OpenSpec.upto scanStepsSpec)) scanStepsUptoCard

/-- THE SECOND FORM's CARD OF 'ebbtidelaw16.ScanAll'. -/
def scanAllUptoCard : Claim7 := { stood := { row := scanAllUptoRow, standIns := [], harness := (true, "0d20d307793b7e91d58ed3327789f58a2aed54e72930e40b02d1b65ca5753312"), looks := true }, kinds := [], alts := [], laidByText := true, laidKinds := [.data, .pinned], laidTests := true, laidLooks := .later }
def ScanAllUptoCardSaid : Prop := Claim7.holds Tryz.pinned (.plain (OpenSpec.upto scanAllSpec)) scanAllUptoCard

/-- THE SECOND FORM's CARD OF 'ebbtidelaw16.ScanStays'. -/
def scanStaysUptoCard : Claim7 := { stood := { row := scanStaysUptoRow, standIns := [], harness := (true, "0d20d307793b7e91d58ed3327789f58a2aed54e72930e40b02d1b65ca5753312"), looks := true }, kinds := [], alts := [], laidByText := true, laidKinds := [.data, .pinned], laidTests := true, laidLooks := .later }
def ScanStaysUptoCardSaid : Prop := Claim7.holds Tryz.pinned (.plain (OpenSpec.upto scanStaysSpec)) scanStaysUptoCard

/-- THE SECOND FORM's CARD OF 'ebbtidelaw16.ScanTurned'. -/
def scanTurnedUptoCard : Claim7 := { stood := { row := scanTurnedUptoRow, standIns := [], harness := (true, "0d20d307793b7e91d58ed3327789f58a2aed54e72930e40b02d1b65ca5753312"), looks := true }, kinds := [], alts := [], laidByText := true, laidKinds := [.data, .pinned], laidTests := true, laidLooks := .later }
def ScanTurnedUptoCardSaid : Prop := Claim7.holds Tryz.pinned (.plain (OpenSpec.upto scanTurnedSpec)) scanTurnedUptoCard

/-- THE SECOND FORM's CARD OF 'ebbtidelaw22.CommandTells'. -/
def commandTellsUptoCard : Claim7 := { stood := { row := commandTellsUptoRow, standIns := [], harness := (true, "0d20d307793b7e91d58ed3327789f58a2aed54e72930e40b02d1b65ca5753312"), looks := true }, kinds := [], alts := [], laidByText := true, laidKinds := [.data, .data, .data, .data, .sentinel, .sentinel, .pinned], laidTests := true, laidLooks := .later }
def CommandTellsUptoCardSaid : Prop := Claim7.holds Tryz.pinned (.plain (OpenSpec.upto commandTellsSpec)) commandTellsUptoCard

/-- THE SECOND FORM's CARD OF 'ebbtidelaw22.CommandParses'. -/
def commandParsesUptoCard : Claim7 := { stood := { row := commandParsesUptoRow, standIns := [], harness := (true, "0d20d307793b7e91d58ed3327789f58a2aed54e72930e40b02d1b65ca5753312"), looks := true }, kinds := [], alts := [], laidByText := true, laidKinds := [.data, .data, .data, .data, .sentinel, .sentinel, .pinned], laidTests := true, laidLooks := .later }
def CommandParsesUptoCardSaid : Prop := Claim7.holds Tryz.pinned (.plain (OpenSpec.upto commandParsesSpec)) commandParsesUptoCard

/-- THE SECOND FORM's CARD OF 'ebbtidelaw22.CommandBack'. -/
def commandBackUptoCard : Claim7 := { stood := { row := commandBackUptoRow, standIns := [], harness := (true, "0d20d307793b7e91d58ed3327789f58a2aed54e72930e40b02d1b65ca5753312"), looks := true }, kinds := [], alts := [], laidByText := true, laidKinds := [.data, .data, .data, .data, .sentinel, .sentinel, .pinned], laidTests := true, laidLooks := .later }
def CommandBackUptoCardSaid : Prop := Claim7.holds Tryz.pinned (.plain (OpenSpec.upto commandBackSpec)) commandBackUptoCard

/-- THE SECOND FORM's CARD OF 'ebbtidelaw22.CommandBlanks'. -/
def commandBlanksUptoCard : Claim7 := { stood := { row := commandBlanksUptoRow, standIns := [], harness := (true, "0d20d307793b7e91d58ed3327789f58a2aed54e72930e40b02d1b65ca5753312"), looks := true }, kinds := [], alts := [], laidByText := true, laidKinds := [.data, .data, .data, .data, .sentinel, .sentinel, .pinned], laidTests := true, laidLooks := .later }
def CommandBlanksUptoCardSaid : Prop := Claim7.holds Tryz.pinned (.plain (OpenSpec.upto commandBlanksSpec)) commandBlanksUptoCard

/-- THE SECOND FORM's CARD OF 'ebbtidelaw08.RowTells'. -/
def rowTellsUptoCard : Claim7 := { stood := { row := rowTellsUptoRow, standIns := [], harness := (true, "0d20d307793b7e91d58ed3327789f58a2aed54e72930e40b02d1b65ca5753312"), looks := true }, kinds := [], alts := [], laidByText := true, laidKinds := [.data, .data, .data, .data, .sentinel, .sentinel, .pinned], laidTests := true, laidLooks := .later }
def RowTellsUptoCardSaid : Prop := Claim7.holds Tryz.pinned (.plain (OpenSpec.upto rowTellsSpec)) rowTellsUptoCard

/-- THE SECOND FORM's CARD OF 'ebbtidelaw08.RowParses'. -/
def rowParsesUptoCard : Claim7 := { stood := { row := rowParsesUptoRow, standIns := [], harness := (true, "0d20d307793b7e91d58ed3327789f58a2aed54e72930e40b02d1b65ca5753312"), looks := true }, kinds := [], alts := [], laidByText := true, laidKinds := [.data, .data, .data, .data, .sentinel, .sentinel, .pinned], laidTests := true, laidLooks := .later }
def RowParsesUptoCardSaid : Prop := Claim7.holds Tryz.pinned (.plain (OpenSpec.upto rowParsesSpec)) rowParsesUptoCard

/-- THE SECOND FORM's CARD OF 'ebbtidelaw08.RowAnswers'. -/
def rowAnswersUptoCard : Claim7 := { stood := { row := rowAnswersUptoRow, standIns := [], harness := (true, "0d20d307793b7e91d58ed3327789f58a2aed54e72930e40b02d1b65ca5753312"), looks := true }, kinds := [], alts := [], laidByText := true, laidKinds := [.data, .data, .data, .data, .sentinel, .sentinel, .pinned], laidTests := true, laidLooks := .later }
def RowAnswersUptoCardSaid : Prop := Claim7.holds Tryz.pinned (.plain (OpenSpec.upto rowAnswersSpec)) rowAnswersUptoCard

/-- THE SECOND FORM's CARD OF 'ebbtidelaw08.RowOrder'. -/
def rowOrderUptoCard : Claim7 := { stood := { row := rowOrderUptoRow, standIns := [], harness := (true, "0d20d307793b7e91d58ed3327789f58a2aed54e72930e40b02d1b65ca5753312"), looks := true }, kinds := [], alts := [], laidByText := true, laidKinds := [.data, .data, .data, .data, .sentinel, .sentinel, .pinned], laidTests := true, laidLooks := .later }
def RowOrderUptoCardSaid : Prop := Claim7.holds Tryz.pinned (.plain (OpenSpec.upto rowOrderSpec)) rowOrderUptoCard

/-- THE SECOND FORM's CARD OF 'ebbtidelaw08.RowBack'. -/
def rowBackUptoCard : Claim7 := { stood := { row := rowBackUptoRow, standIns := [], harness := (true, "0d20d307793b7e91d58ed3327789f58a2aed54e72930e40b02d1b65ca5753312"), looks := true }, kinds := [], alts := [], laidByText := true, laidKinds := [.data, .data, .data, .data, .sentinel, .sentinel, .pinned], laidTests := true, laidLooks := .later }
def RowBackUptoCardSaid : Prop := Claim7.holds Tryz.pinned (.plain (OpenSpec.upto rowBackSpec)) rowBackUptoCard

/-- THE SECOND FORM's CARD OF 'ebbtidelaw08.RowCounts'. -/
def rowCountsUptoCard : Claim7 := { stood := { row := rowCountsUptoRow, standIns := [], harness := (true, "0d20d307793b7e91d58ed3327789f58a2aed54e72930e40b02d1b65ca5753312"), looks := true }, kinds := [], alts := [], laidByText := true, laidKinds := [.data, .data, .data, .data, .sentinel, .sentinel, .pinned], laidTests := true, laidLooks := .later }
def RowCountsUptoCardSaid : Prop := Claim7.holds Tryz.pinned (.plain (OpenSpec.upto rowCountsSpec)) rowCountsUptoCard
end Rows
end Go.Proofs.YtdcphpbimeoioaaGreatDoor
