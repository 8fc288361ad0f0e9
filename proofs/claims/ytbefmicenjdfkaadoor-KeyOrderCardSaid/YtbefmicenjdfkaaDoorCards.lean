/-
  DERIVED. GIVEN WITH THE SEED: THE CARDS: each row of YtbefmicenjdfkaaDoorRows.lean that lists a variable, with what it lists TIED to the program's text (the seventh form; the later family's looks); each row that meets fmt, with fmt's text TOLD by the authors' own Lean function (tested against real Go, not proved from fmt's source: count such statements apart). THE CARD IS WHAT COUNTS. Prove the row's statement (the work); the ties are given (YtbefmicenjdfkaaDoorTie.lean); close each card by the builder's one call (the guide's Derived/Test/ToyasCard.lean, 'card_holds'). Laid BY PROGRAM, IN A SANDBOX (cutbox-door.mjs). By AI agents, Wed Nov 11 2026. No macro, syntax, notation, axiom, sorry.
-/
import Derived.Test.YtbefmicenjdfkaaDoorRows
import GoSem.ClaimSeven
namespace Go.Proofs.YtbefmicenjdfkaaDoor
namespace Rows

/-- THE TIED CARD OF 'ebbtidelaw03.TagTells'. -/
def tagTellsCard : Claim7 := { stood := { row := tagTellsRow, standIns := [], harness := (true, "a6b1caa922020f1a8f814adf53b984ca0391799840cdcb75f27cb830a8d22da1"), looks := false }, kinds := [], alts := [], laidByText := true, laidKinds := [.data, .pinned], laidTests := true, laidLooks := .later }
def TagTellsCardSaid : Prop := Claim7.holds Tryd.pinned (.plain (OpenSpec.ofChange tagTellsSpec)) tagTellsCard

/-- THE TIED CARD OF 'ebbtidelaw03.TagParses'. -/
def tagParsesCard : Claim7 := { stood := { row := tagParsesRow, standIns := [], harness := (true, "a6b1caa922020f1a8f814adf53b984ca0391799840cdcb75f27cb830a8d22da1"), looks := false }, kinds := [], alts := [], laidByText := true, laidKinds := [.data, .pinned], laidTests := true, laidLooks := .later }
def TagParsesCardSaid : Prop := Claim7.holds Tryd.pinned (.plain (OpenSpec.ofChange tagParsesSpec)) tagParsesCard

/-- THE TIED CARD OF 'ebbtidelaw03.TagBack'. -/
def tagBackCard : Claim7 := { stood := { row := tagBackRow, standIns := [], harness := (true, "a6b1caa922020f1a8f814adf53b984ca0391799840cdcb75f27cb830a8d22da1"), looks := false }, kinds := [], alts := [], laidByText := true, laidKinds := [.data, .pinned], laidTests := true, laidLooks := .later }
def TagBackCardSaid : Prop := Claim7.holds Tryd.pinned (.plain (OpenSpec.ofChange tagBackSpec)) tagBackCard

/-- THE TIED CARD OF 'ebbtidelaw03.TagOrder'. -/
def tagOrderCard : Claim7 := { stood := { row := tagOrderRow, standIns := [], harness := (true, "a6b1caa922020f1a8f814adf53b984ca0391799840cdcb75f27cb830a8d22da1"), looks := false }, kinds := [], alts := [], laidByText := true, laidKinds := [.data, .pinned], laidTests := true, laidLooks := .later }
def TagOrderCardSaid : Prop := Claim7.holds Tryd.pinned (.plain (OpenSpec.ofChange tagOrderSpec)) tagOrderCard

/-- THE TIED CARD OF 'ebbtidelaw04.KeyTells'. -/
def keyTellsCard : Claim7 := { stood := { row := keyTellsRow, standIns := [], harness := (true, "a6b1caa922020f1a8f814adf53b984ca0391799840cdcb75f27cb830a8d22da1"), looks := false }, kinds := [], alts := [], laidByText := true, laidKinds := [.data, .pinned], laidTests := true, laidLooks := .later }
def KeyTellsCardSaid : Prop := Claim7.holds Tryd.pinned (.plain (OpenSpec.ofChange keyTellsSpec)) keyTellsCard

/-- THE TIED CARD OF 'ebbtidelaw04.KeyParses'. -/
def keyParsesCard : Claim7 := { stood := { row := keyParsesRow, standIns := [], harness := (true, "a6b1caa922020f1a8f814adf53b984ca0391799840cdcb75f27cb830a8d22da1"), looks := false }, kinds := [], alts := [], laidByText := true, laidKinds := [.data, .pinned], laidTests := true, laidLooks := .later }
def KeyParsesCardSaid : Prop := Claim7.holds Tryd.pinned (.plain (OpenSpec.ofChange keyParsesSpec)) keyParsesCard

/-- THE TIED CARD OF 'ebbtidelaw04.KeyBack'. -/
def keyBackCard : Claim7 := { stood := { row := keyBackRow, standIns := [], harness := (true, "a6b1caa922020f1a8f814adf53b984ca0391799840cdcb75f27cb830a8d22da1"), looks := false }, kinds := [], alts := [], laidByText := true, laidKinds := [.data, .pinned], laidTests := true, laidLooks := .later }
def KeyBackCardSaid : Prop := Claim7.holds Tryd.pinned (.plain (OpenSpec.ofChange keyBackSpec)) keyBackCard

/-- THE TIED CARD OF 'ebbtidelaw04.KeyApart'. -/
def keyApartCard : Claim7 := { stood := { row := keyApartRow, standIns := [], harness := (true, "a6b1caa922020f1a8f814adf53b984ca0391799840cdcb75f27cb830a8d22da1"), looks := false }, kinds := [], alts := [], laidByText := true, laidKinds := [.data, .pinned], laidTests := true, laidLooks := .later }
def KeyApartCardSaid : Prop := Claim7.holds Tryd.pinned (.plain (OpenSpec.ofChange keyApartSpec)) keyApartCard

/-- THE TIED CARD OF 'ebbtidelaw04.KeyOrder'. -/
def keyOrderCard : Claim7 := { stood := { row := keyOrderRow, standIns := [], harness := (true, "a6b1caa922020f1a8f814adf53b984ca0391799840cdcb75f27cb830a8d22da1"), looks := false }, kinds := [], alts := [], laidByText := true, laidKinds := [.data, .pinned], laidTests := true, laidLooks := .later }
def KeyOrderCardSaid : Prop := Claim7.holds Tryd.pinned (.plain (OpenSpec.ofChange keyOrderSpec)) keyOrderCard

/-- THE SECOND FORM's CARD OF 'ebbtidelaw03.TagTells'. -/
def tagTellsUptoCard : Claim7 := { stood := { row := tagTellsUptoRow, standIns := [], harness := (true, "a6b1caa922020f1a8f814adf53b984ca0391799840cdcb75f27cb830a8d22da1"), looks := false }, kinds := [], alts := [], laidByText := true, laidKinds := [.data, .pinned], laidTests := true, laidLooks := .later }
def TagTellsUptoCardSaid : Prop := Claim7.holds Tryd.pinned (.plain (OpenSpec.upto tagTellsSpec)) tagTellsUptoCard

/-- THE SECOND FORM's CARD OF 'ebbtidelaw03.TagParses'. -/
def tagParsesUptoCard : Claim7 := { stood := { row := tagParsesUptoRow, standIns := [], harness := (true, "a6b1caa922020f1a8f814adf53b984ca0391799840cdcb75f27cb830a8d22da1"), looks := false }, kinds := [], alts := [], laidByText := true, laidKinds := [.data, .pinned], laidTests := true, laidLooks := .later }
def TagParsesUptoCardSaid : Prop := Claim7.holds Tryd.pinned (.plain (OpenSpec.upto tagParsesSpec)) tagParsesUptoCard

/-- THE SECOND FORM's CARD OF 'ebbtidelaw03.TagBack'. -/
def tagBackUptoCard : Claim7 := { stood := { row := tagBackUptoRow, standIns := [], harness := (true, "a6b1caa922020f1a8f814adf53b984ca0391799840cdcb75f27cb830a8d22da1"), looks := false }, kinds := [], alts := [], laidByText := true, laidKinds := [.data, .pinned], laidTests := true, laidLooks := .later }
def TagBackUptoCardSaid : Prop := Claim7.holds Tryd.pinned (.plain (OpenSpec.upto tagBackSpec)) tagBackUptoCard

/-- THE SECOND FORM's CARD OF 'ebbtidelaw03.TagOrder'. -/
def tagOrderUptoCard : Claim7 := { stood := { row := tagOrderUptoRow, standIns := [], harness := (true, "a6b1caa922020f1a8f814adf53b984ca0391799840cdcb75f27cb830a8d22da1"), looks := false }, kinds := [], alts := [], laidByText := true, laidKinds := [.data, .pinned], laidTests := true, laidLooks := .later }
def TagOrderUptoCardSaid : Prop := Claim7.holds Tryd.pinned (.plain (OpenSpec.upto tagOrderSpec)) tagOrderUptoCard

/-- THE SECOND FORM's CARD OF 'ebbtidelaw04.KeyTells'. -/
def keyTellsUptoCard : Claim7 := { stood := { row := keyTellsUptoRow, standIns := [], harness := (true, "a6b1caa922020f1a8f814adf53b984ca0391799840cdcb75f27cb830a8d22da1"), looks := false }, kinds := [], alts := [], laidByText := true, laidKinds := [.data, .pinned], laidTests := true, laidLooks := .later }
def KeyTellsUptoCardSaid : Prop := Claim7.holds Tryd.pinned (.plain (OpenSpec.upto keyTellsSpec)) keyTellsUptoCard

/-- THE SECOND FORM's CARD OF 'ebbtidelaw04.KeyParses'. -/
def keyParsesUptoCard : Claim7 := { stood := { row := keyParsesUptoRow, standIns := [], harness := (true, "a6b1caa922020f1a8f814adf53b984ca0391799840cdcb75f27cb830a8d22da1"), looks := false }, kinds := [], alts := [], laidByText := true, laidKinds := [.data, .pinned], laidTests := true, laidLooks := .later }
def KeyParsesUptoCardSaid : Prop := Claim7.holds Tryd.pinned (.plain (OpenSpec.upto keyParsesSpec)) keyParsesUptoCard

/-- THE SECOND FORM's CARD OF 'ebbtidelaw04.KeyBack'. -/
def keyBackUptoCard : Claim7 := { stood := { row := keyBackUptoRow, standIns := [], harness := (true, "a6b1caa922020f1a8f814adf53b984ca0391799840cdcb75f27cb830a8d22da1"), looks := false }, kinds := [], alts := [], laidByText := true, laidKinds := [.data, .pinned], laidTests := true, laidLooks := .later }
def KeyBackUptoCardSaid : Prop := Claim7.holds Tryd.pinned (.plain (OpenSpec.upto keyBackSpec)) keyBackUptoCard

/-- THE SECOND FORM's CARD OF 'ebbtidelaw04.KeyApart'. -/
def keyApartUptoCard : Claim7 := { stood := { row := keyApartUptoRow, standIns := [], harness := (true, "a6b1caa922020f1a8f814adf53b984ca0391799840cdcb75f27cb830a8d22da1"), looks := false }, kinds := [], alts := [], laidByText := true, laidKinds := [.data, .pinned], laidTests := true, laidLooks := .later }
def KeyApartUptoCardSaid : Prop := Claim7.holds Tryd.pinned (.plain (OpenSpec.upto keyApartSpec)) keyApartUptoCard

/-- THE SECOND FORM's CARD OF 'ebbtidelaw04.KeyOrder'. -/
def keyOrderUptoCard : Claim7 := { stood := { row := keyOrderUptoRow, standIns := [], harness := (true, "a6b1caa922020f1a8f814adf53b984ca0391799840cdcb75f27cb830a8d22da1"), looks := false }, kinds := [], alts := [], laidByText := true, laidKinds := [.data, .pinned], laidTests := true, laidLooks := .later }
def KeyOrderUptoCardSaid : Prop := Claim7.holds Tryd.pinned (.plain (OpenSpec.upto keyOrderSpec)) keyOrderUptoCard
end Rows
end Go.Proofs.YtbefmicenjdfkaaDoor
