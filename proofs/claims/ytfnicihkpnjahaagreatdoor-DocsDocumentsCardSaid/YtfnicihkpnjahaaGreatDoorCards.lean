/-
  DERIVED. GIVEN WITH THE SEED: THE CARDS: each row of YtfnicihkpnjahaaGreatDoorRows.lean that lists a variable, with what it lists TIED to the program's text (the seventh form; the later family's looks); each row that meets fmt, with fmt's text TOLD by the authors' own Lean function (tested against real Go, not proved from fmt's source: count such statements apart). THE CARD IS WHAT COUNTS. Prove the row's statement (the work); the ties are given (YtfnicihkpnjahaaGreatDoorTie.lean); close each card by the builder's one call (the guide's Derived/Test/ToyasCard.lean, 'card_holds'). Laid BY PROGRAM, IN A SANDBOX (cutbox-door.mjs). By AI agents, Wed Nov 11 2026. No macro, syntax, notation, axiom, sorry.
-/
import Derived.Test.YtfnicihkpnjahaaGreatDoorRows
import GoSem.ClaimSeven
namespace Go.Proofs.YtfnicihkpnjahaaGreatDoor
namespace Rows

/-- THE TIED CARD OF 'truchmanlaw01.DocsBack'. -/
def docsBackCard : Claim7 := { stood := { row := docsBackRow, standIns := [], harness := (true, "dcd65921588a527dffc19e6744e2d08b2ff90f30f1e2df741176b96e1be0a1d0"), looks := true }, kinds := [], alts := [], laidByText := true, laidKinds := [.data, .pinned], laidTests := true, laidLooks := .later }
def DocsBackCardSaid : Prop := Claim7.holds Tryz.pinned (.plain (OpenSpec.ofChange docsBackSpec)) docsBackCard

/-- THE TIED CARD OF 'truchmanlaw01.DocsPieces'. -/
def docsPiecesCard : Claim7 := { stood := { row := docsPiecesRow, standIns := [], harness := (true, "dcd65921588a527dffc19e6744e2d08b2ff90f30f1e2df741176b96e1be0a1d0"), looks := true }, kinds := [], alts := [], laidByText := true, laidKinds := [.data, .pinned], laidTests := true, laidLooks := .later }
def DocsPiecesCardSaid : Prop := Claim7.holds Tryz.pinned (.plain (OpenSpec.ofChange docsPiecesSpec)) docsPiecesCard

/-- THE TIED CARD OF 'truchmanlaw01.DocsDocuments'. -/
def docsDocumentsCard : Claim7 := { stood := { row := docsDocumentsRow, standIns := [], harness := (true, "dcd65921588a527dffc19e6744e2d08b2ff90f30f1e2df741176b96e1be0a1d0"), looks := true }, kinds := [], alts := [], laidByText := true, laidKinds := [.data, .pinned], laidTests := true, laidLooks := .later }
def DocsDocumentsCardSaid : Prop := Claim7.holds Tryz.pinned (.plain (OpenSpec.ofChange docsDocumentsSpec)) docsDocumentsCard

/-- THE SECOND FORM's CARD OF 'truchmanlaw01.DocsBack'. -/
def docsBackUptoCard : Claim7 := { stood := { row := docsBackUptoRow, standIns := [], harness := (true, "dcd65921588a527dffc19e6744e2d08b2ff90f30f1e2df741176b96e1be0a1d0"), looks := true }, kinds := [], alts := [], laidByText := true, laidKinds := [.data, .pinned], laidTests := true, laidLooks := .later }
def DocsBackUptoCardSaid : Prop := Claim7.holds Tryz.pinned (.plain (OpenSpec.upto docsBackSpec)) docsBackUptoCard

/-- THE SECOND FORM's CARD OF 'truchmanlaw01.DocsPieces'. -/
def docsPiecesUptoCard : Claim7 := { stood := { row := docsPiecesUptoRow, standIns := [], harness := (true, "dcd65921588a527dffc19e6744e2d08b2ff90f30f1e2df741176b96e1be0a1d0"), looks := true }, kinds := [], alts := [], laidByText := true, laidKinds := [.data, .pinned], laidTests := true, laidLooks := .later }
def DocsPiecesUptoCardSaid : Prop := Claim7.holds Tryz.pinned (.plain (OpenSpec.upto docsPiecesSpec)) docsPiecesUptoCard

/-- THE SECOND FORM's CARD OF 'truchmanlaw01.DocsDocuments'. -/
def docsDocumentsUptoCard : Claim7 := { stood := { row := docsDocumentsUptoRow, standIns := [], harness := (true, "dcd65921588a527dffc19e6744e2d08b2ff90f30f1e2df741176b96e1be0a1d0"), looks := true }, kinds := [], alts := [], laidByText := true, laidKinds := [.data, .pinned], laidTests := true, laidLooks := .later }
def DocsDocumentsUptoCardSaid : Prop := Claim7.holds Tryz.pinned (.plain (OpenSpec.upto docsDocumentsSpec)) docsDocumentsUptoCard
end Rows
end Go.Proofs.YtfnicihkpnjahaaGreatDoor
