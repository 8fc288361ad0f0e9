/-
  DERIVED. GIVEN WITH THE SEED: THE CARDS: each row of YteaadaaghhojfaaGreatDoorRows.lean that lists a variable, with what it lists TIED to the program's text (the seventh form; the later family's looks); each row that meets fmt, with fmt's text TOLD by the authors' own Lean function (tested against real Go, not proved from fmt's source: count such statements apart). THE CARD IS WHAT COUNTS. Prove the row's statement (the work); the ties are given (YteaadaaghhojfaaGreatDoorTie.lean); close each card by the builder's one call (the guide's Derived/Test/ToyasCard.lean, 'card_holds'). Laid BY PROGRAM, IN A SANDBOX (cutbox-door.mjs). By AI agents, Wed Nov 11 2026. No macro, syntax, notation, axiom, sorry.
-/
import Derived.Test.YteaadaaghhojfaaGreatDoorRows
import GoSem.ClaimSeven
namespace Go.Proofs.YteaadaaghhojfaaGreatDoor
namespace Rows

/-- THE TIED CARD OF 'ebbtidelaw07.QueryTells'. -/
def queryTellsCard : Claim7 := { stood := { row := queryTellsRow, standIns := [], harness := (true, "244b3aae5f44b3dcd7060912abc3488b158df543db9dd80b9764967f80614c69"), looks := false }, kinds := [], alts := [], laidByText := true, laidKinds := [.data, .pinned], laidTests := true, laidLooks := .later }
def QueryTellsCardSaid : Prop := Claim7.holds Tryz.pinned (.plain (OpenSpec.ofChange queryTellsSpec)) queryTellsCard

/-- THE TIED CARD OF 'ebbtidelaw07.QueryParses'. -/
def queryParsesCard : Claim7 := { stood := { row := queryParsesRow, standIns := [], harness := (true, "244b3aae5f44b3dcd7060912abc3488b158df543db9dd80b9764967f80614c69"), looks := false }, kinds := [], alts := [], laidByText := true, laidKinds := [.data, .pinned], laidTests := true, laidLooks := .later }
def QueryParsesCardSaid : Prop := Claim7.holds Tryz.pinned (.plain (OpenSpec.ofChange queryParsesSpec)) queryParsesCard

/-- THE TIED CARD OF 'ebbtidelaw07.QueryFits'. -/
def queryFitsCard : Claim7 := { stood := { row := queryFitsRow, standIns := [], harness := (true, "244b3aae5f44b3dcd7060912abc3488b158df543db9dd80b9764967f80614c69"), looks := false }, kinds := [], alts := [], laidByText := true, laidKinds := [.data, .pinned], laidTests := true, laidLooks := .later }
def QueryFitsCardSaid : Prop := Claim7.holds Tryz.pinned (.plain (OpenSpec.ofChange queryFitsSpec)) queryFitsCard

/-- THE TIED CARD OF 'ebbtidelaw07.QueryBack'. -/
def queryBackCard : Claim7 := { stood := { row := queryBackRow, standIns := [], harness := (true, "244b3aae5f44b3dcd7060912abc3488b158df543db9dd80b9764967f80614c69"), looks := false }, kinds := [], alts := [], laidByText := true, laidKinds := [.data, .pinned], laidTests := true, laidLooks := .later }
def QueryBackCardSaid : Prop := Claim7.holds Tryz.pinned (.plain (OpenSpec.ofChange queryBackSpec)) queryBackCard

/-- THE TIED CARD OF 'ebbtidelaw19.SubPushes'. -/
def subPushesCard : Claim7 := { stood := { row := subPushesRow, standIns := [], harness := (true, "244b3aae5f44b3dcd7060912abc3488b158df543db9dd80b9764967f80614c69"), looks := false }, kinds := [], alts := [], laidByText := true, laidKinds := [.data, .pinned], laidTests := true, laidLooks := .later }
def SubPushesCardSaid : Prop := Claim7.holds Tryz.pinned (.plain (OpenSpec.ofChange subPushesSpec)) subPushesCard

/-- THE TIED CARD OF 'ebbtidelaw19.SubSends'. -/
def subSendsCard : Claim7 := { stood := { row := subSendsRow, standIns := [], harness := (true, "244b3aae5f44b3dcd7060912abc3488b158df543db9dd80b9764967f80614c69"), looks := false }, kinds := [], alts := [], laidByText := true, laidKinds := [.data, .pinned], laidTests := true, laidLooks := .later }
def SubSendsCardSaid : Prop := Claim7.holds Tryz.pinned (.plain (OpenSpec.ofChange subSendsSpec)) subSendsCard

/-- THE TIED CARD OF 'ebbtidelaw19.SubReplays'. -/
def subReplaysCard : Claim7 := { stood := { row := subReplaysRow, standIns := [], harness := (true, "244b3aae5f44b3dcd7060912abc3488b158df543db9dd80b9764967f80614c69"), looks := false }, kinds := [], alts := [], laidByText := true, laidKinds := [.data, .pinned], laidTests := true, laidLooks := .later }
def SubReplaysCardSaid : Prop := Claim7.holds Tryz.pinned (.plain (OpenSpec.ofChange subReplaysSpec)) subReplaysCard

/-- THE TIED CARD OF 'ebbtidelaw19.SubTells'. -/
def subTellsCard : Claim7 := { stood := { row := subTellsRow, standIns := [], harness := (true, "244b3aae5f44b3dcd7060912abc3488b158df543db9dd80b9764967f80614c69"), looks := false }, kinds := [], alts := [], laidByText := true, laidKinds := [.data, .pinned], laidTests := true, laidLooks := .later }
def SubTellsCardSaid : Prop := Claim7.holds Tryz.pinned (.plain (OpenSpec.ofChange subTellsSpec)) subTellsCard

/-- THE TIED CARD OF 'ebbtidelaw19.SubLoses'. -/
def subLosesCard : Claim7 := { stood := { row := subLosesRow, standIns := [], harness := (true, "244b3aae5f44b3dcd7060912abc3488b158df543db9dd80b9764967f80614c69"), looks := false }, kinds := [], alts := [], laidByText := true, laidKinds := [.data, .pinned], laidTests := true, laidLooks := .later }
def SubLosesCardSaid : Prop := Claim7.holds Tryz.pinned (.plain (OpenSpec.ofChange subLosesSpec)) subLosesCard

/-- THE SECOND FORM's CARD OF 'ebbtidelaw07.QueryTells'. -/
def queryTellsUptoCard : Claim7 := { stood := { row := queryTellsUptoRow, standIns := [], harness := (true, "244b3aae5f44b3dcd7060912abc3488b158df543db9dd80b9764967f80614c69"), looks := false }, kinds := [], alts := [], laidByText := true, laidKinds := [.data, .pinned], laidTests := true, laidLooks := .later }
def QueryTellsUptoCardSaid : Prop := Claim7.holds Tryz.pinned (.plain (OpenSpec.upto queryTellsSpec)) queryTellsUptoCard

/-- THE SECOND FORM's CARD OF 'ebbtidelaw07.QueryParses'. -/
def queryParsesUptoCard : Claim7 := { stood := { row := queryParsesUptoRow, standIns := [], harness := (true, "244b3aae5f44b3dcd7060912abc3488b158df543db9dd80b9764967f80614c69"), looks := false }, kinds := [], alts := [], laidByText := true, laidKinds := [.data, .pinned], laidTests := true, laidLooks := .later }
def QueryParsesUptoCardSaid : Prop := Claim7.holds Tryz.pinned (.plain (OpenSpec.upto queryParsesSpec)) queryParsesUptoCard

/-- THE SECOND FORM's CARD OF 'ebbtidelaw07.QueryFits'. -/
def queryFitsUptoCard : Claim7 := { stood := { row := queryFitsUptoRow, standIns := [], harness := (true, "244b3aae5f44b3dcd7060912abc3488b158df543db9dd80b9764967f80614c69"), looks := false }, kinds := [], alts := [], laidByText := true, laidKinds := [.data, .pinned], laidTests := true, laidLooks := .later }
def QueryFitsUptoCardSaid : Prop := Claim7.holds Tryz.pinned (.plain (OpenSpec.upto queryFitsSpec)) queryFitsUptoCard

/-- THE SECOND FORM's CARD OF 'ebbtidelaw07.QueryBack'. -/
def queryBackUptoCard : Claim7 := { stood := { row := queryBackUptoRow, standIns := [], harness := (true, "244b3aae5f44b3dcd7060912abc3488b158df543db9dd80b9764967f80614c69"), looks := false }, kinds := [], alts := [], laidByText := true, laidKinds := [.data, .pinned], laidTests := true, laidLooks := .later }
def QueryBackUptoCardSaid : Prop := Claim7.holds Tryz.pinned (.plain (OpenSpec.upto queryBackSpec)) queryBackUptoCard

/-- THE SECOND FORM's CARD OF 'ebbtidelaw19.SubPushes'. -/
def subPushesUptoCard : Claim7 := { stood := { row := subPushesUptoRow, standIns := [], harness := (true, "244b3aae5f44b3dcd7060912abc3488b158df543db9dd80b9764967f80614c69"), looks := false }, kinds := [], alts := [], laidByText := true, laidKinds := [.data, .pinned], laidTests := true, laidLooks := .later }
def SubPushesUptoCardSaid : Prop := Claim7.holds Tryz.pinned (.plain (OpenSpec.upto subPushesSpec)) subPushesUptoCard

/-- THE SECOND FORM's CARD OF 'ebbtidelaw19.SubSends'. -/
def subSendsUptoCard : Claim7 := { stood := { row := subSendsUptoRow, standIns := [], harness := (true, "244b3aae5f44b3dcd7060912abc3488b158df543db9dd80b9764967f80614c69"), looks := false }, kinds := [], alts := [], laidByText := true, laidKinds := [.data, .pinned], laidTests := true, laidLooks := .later }
def SubSendsUptoCardSaid : Prop := Claim7.holds Tryz.pinned (.plain (OpenSpec.upto subSendsSpec)) subSendsUptoCard

/-- THE SECOND FORM's CARD OF 'ebbtidelaw19.SubReplays'. -/
def subReplaysUptoCard : Claim7 := { stood := { row := subReplaysUptoRow, standIns := [], harness := (true, "244b3aae5f44b3dcd7060912abc3488b158df543db9dd80b9764967f80614c69"), looks := false }, kinds := [], alts := [], laidByText := true, laidKinds := [.data, .pinned], laidTests := true, laidLooks := .later }
def SubReplaysUptoCardSaid : Prop := Claim7.holds Tryz.pinned (.plain (OpenSpec.upto subReplaysSpec)) subReplaysUptoCard

/-- THE SECOND FORM's CARD OF 'ebbtidelaw19.SubTells'. -/
def subTellsUptoCard : Claim7 := { stood := { row := subTellsUptoRow, standIns := [], harness := (true, "244b3aae5f44b3dcd7060912abc3488b158df543db9dd80b9764967f80614c69"), looks := false }, kinds := [], alts := [], laidByText := true, laidKinds := [.data, .pinned], laidTests := true, laidLooks := .later }
def SubTellsUptoCardSaid : Prop := Claim7.holds Tryz.pinned (.plain (OpenSpec.upto subTellsSpec)) subTellsUptoCard

/-- THE SECOND FORM's CARD OF 'ebbtidelaw19.SubLoses'. -/
def subLosesUptoCard : Claim7 := { stood := { row := subLosesUptoRow, standIns := [], harness := (true, "244b3aae5f44b3dcd7060912abc3488b158df543db9dd80b9764967f80614c69"), looks := false }, kinds := [], alts := [], laidByText := true, laidKinds := [.data, .pinned], laidTests := true, laidLooks := .later }
def SubLosesUptoCardSaid : Prop := Claim7.holds Tryz.pinned (.plain (OpenSpec.upto subLosesSpec)) subLosesUptoCard
end Rows
end Go.Proofs.YteaadaaghhojfaaGreatDoor
