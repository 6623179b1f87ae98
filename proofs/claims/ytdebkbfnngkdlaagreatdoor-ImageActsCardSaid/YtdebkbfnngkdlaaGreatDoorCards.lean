/-
  DERIVED. GIVEN WITH THE SEED: THE CARDS: each row of YtdebkbfnngkdlaaGreatDoorRows.lean that lists a variable, with what it lists TIED to the program's text (the seventh form; the later family's looks); each row that meets fmt, with fmt's text TOLD by the authors' own Lean function (tested against real Go, not proved from fmt's source: count such statements apart). THE CARD IS WHAT COUNTS. Prove the row's statement (the work); the ties are given (YtdebkbfnngkdlaaGreatDoorTie.lean); close each card by the builder's one call (the guide's Derived/Test/ToyasCard.lean, 'card_holds'). Laid BY PROGRAM, IN A SANDBOX (cutbox-door.mjs). By AI agents, Wed Nov 11 2026. No macro, syntax, notation, axiom, sorry.
-/
import Derived.Test.YtdebkbfnngkdlaaGreatDoorRows
import GoSem.ClaimSeven
namespace Go.Proofs.YtdebkbfnngkdlaaGreatDoor
namespace Rows

/-- THE TIED CARD OF 'millpondlaw09.ImageTexts'. -/
def imageTextsCard : Claim7 := { stood := { row := imageTextsRow, standIns := [], harness := (true, "90431bf99d4966120025c1fc4bcc6ffbb0bdb5c474f5e6468baa5c242739b5c8"), looks := true }, kinds := [], alts := [], laidByText := true, laidKinds := [.data, .data, .data, .data, .sentinel, .sentinel, .pinned], laidTests := true, laidLooks := .later }
def ImageTextsCardSaid : Prop := Claim7.holds Tryz.pinned (.plain (OpenSpec.ofChange imageTextsSpec)) imageTextsCard

/-- THE TIED CARD OF 'millpondlaw09.ImageForms'. -/
def imageFormsCard : Claim7 := { stood := { row := imageFormsRow, standIns := [], harness := (true, "90431bf99d4966120025c1fc4bcc6ffbb0bdb5c474f5e6468baa5c242739b5c8"), looks := true }, kinds := [], alts := [], laidByText := true, laidKinds := [.data, .data, .data, .data, .sentinel, .sentinel, .pinned], laidTests := true, laidLooks := .later }
def ImageFormsCardSaid : Prop := Claim7.holds Tryz.pinned (.plain (OpenSpec.ofChange imageFormsSpec)) imageFormsCard

/-- THE TIED CARD OF 'millpondlaw09.ImagePut'. -/
def imagePutCard : Claim7 := { stood := { row := imagePutRow, standIns := [], harness := (true, "90431bf99d4966120025c1fc4bcc6ffbb0bdb5c474f5e6468baa5c242739b5c8"), looks := true }, kinds := [], alts := [], laidByText := true, laidKinds := [.data, .data, .data, .data, .sentinel, .sentinel, .pinned], laidTests := true, laidLooks := .later }
def ImagePutCardSaid : Prop := Claim7.holds Tryz.pinned (.plain (OpenSpec.ofChange imagePutSpec)) imagePutCard

/-- THE TIED CARD OF 'millpondlaw09.ImageActs'. -/
def imageActsCard : Claim7 := { stood := { row := imageActsRow, standIns := [], harness := (true, "90431bf99d4966120025c1fc4bcc6ffbb0bdb5c474f5e6468baa5c242739b5c8"), looks := true }, kinds := [], alts := [], laidByText := true, laidKinds := [.data, .data, .data, .data, .sentinel, .sentinel, .pinned], laidTests := true, laidLooks := .later }
def ImageActsCardSaid : Prop := Claim7.holds Tryz.pinned (.plain (OpenSpec.ofChange imageActsSpec)) imageActsCard

/-- THE TIED CARD OF 'millpondlaw09.ImageCanons'. -/
def imageCanonsCard : Claim7 := { stood := { row := imageCanonsRow, standIns := [], harness := (true, "90431bf99d4966120025c1fc4bcc6ffbb0bdb5c474f5e6468baa5c242739b5c8"), looks := true }, kinds := [], alts := [], laidByText := true, laidKinds := [.data, .data, .data, .data, .sentinel, .sentinel, .pinned], laidTests := true, laidLooks := .later }
def ImageCanonsCardSaid : Prop := Claim7.holds Tryz.pinned (.plain (OpenSpec.ofChange imageCanonsSpec)) imageCanonsCard

/-- THE SECOND FORM's CARD OF 'millpondlaw09.ImageTexts'. -/
def imageTextsUptoCard : Claim7 := { stood := { row := imageTextsUptoRow, standIns := [], harness := (true, "90431bf99d4966120025c1fc4bcc6ffbb0bdb5c474f5e6468baa5c242739b5c8"), looks := true }, kinds := [], alts := [], laidByText := true, laidKinds := [.data, .data, .data, .data, .sentinel, .sentinel, .pinned], laidTests := true, laidLooks := .later }
def ImageTextsUptoCardSaid : Prop := Claim7.holds Tryz.pinned (.plain (OpenSpec.upto imageTextsSpec)) imageTextsUptoCard

/-- THE SECOND FORM's CARD OF 'millpondlaw09.ImageForms'. -/
def imageFormsUptoCard : Claim7 := { stood := { row := imageFormsUptoRow, standIns := [], harness := (true, "90431bf99d4966120025c1fc4bcc6ffbb0bdb5c474f5e6468baa5c242739b5c8"), looks := true }, kinds := [], alts := [], laidByText := true, laidKinds := [.data, .data, .data, .data, .sentinel, .sentinel, .pinned], laidTests := true, laidLooks := .later }
def ImageFormsUptoCardSaid : Prop := Claim7.holds Tryz.pinned (.plain (OpenSpec.upto imageFormsSpec)) imageFormsUptoCard

/-- THE SECOND FORM's CARD OF 'millpondlaw09.ImagePut'. -/
def imagePutUptoCard : Claim7 := { stood := { row := imagePutUptoRow, standIns := [], harness := (true, "90431bf99d4966120025c1fc4bcc6ffbb0bdb5c474f5e6468baa5c242739b5c8"), looks := true }, kinds := [], alts := [], laidByText := true, laidKinds := [.data, .data, .data, .data, .sentinel, .sentinel, .pinned], laidTests := true, laidLooks := .later }
def ImagePutUptoCardSaid : Prop := Claim7.holds Tryz.pinned (.plain (OpenSpec.upto imagePutSpec)) imagePutUptoCard

/-- THE SECOND FORM's CARD OF 'millpondlaw09.ImageActs'. -/
def imageActsUptoCard : Claim7 := { stood := { row := imageActsUptoRow, standIns := [], harness := (true, "90431bf99d4966120025c1fc4bcc6ffbb0bdb5c474f5e6468baa5c242739b5c8"), looks := true }, kinds := [], alts := [], laidByText := true, laidKinds := [.data, .data, .data, .data, .sentinel, .sentinel, .pinned], laidTests := true, laidLooks := .later }
def ImageActsUptoCardSaid : Prop := Claim7.holds Tryz.pinned (.plain (OpenSpec.upto imageActsSpec)) imageActsUptoCard

/-- THE SECOND FORM's CARD OF 'millpondlaw09.ImageCanons'. -/
def imageCanonsUptoCard : Claim7 := { stood := { row := imageCanonsUptoRow, standIns := [], harness := (true, "90431bf99d4966120025c1fc4bcc6ffbb0bdb5c474f5e6468baa5c242739b5c8"), looks := true }, kinds := [], alts := [], laidByText := true, laidKinds := [.data, .data, .data, .data, .sentinel, .sentinel, .pinned], laidTests := true, laidLooks := .later }
def ImageCanonsUptoCardSaid : Prop := Claim7.holds Tryz.pinned (.plain (OpenSpec.upto imageCanonsSpec)) imageCanonsUptoCard
end Rows
end Go.Proofs.YtdebkbfnngkdlaaGreatDoor
