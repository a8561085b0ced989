/-
  DERIVED. GIVEN WITH THE SEED: THE CARDS: each row of YtaomolffnolpdaaGreatDoorRows.lean that lists a variable, with what it lists TIED to the program's text (the seventh form; the later family's looks); each row that meets fmt, with fmt's text TOLD by the authors' own Lean function (tested against real Go, not proved from fmt's source: count such statements apart). THE CARD IS WHAT COUNTS. Prove the row's statement (the work); the ties are given (YtaomolffnolpdaaGreatDoorTie.lean); close each card by the builder's one call (the guide's Derived/Test/ToyasCard.lean, 'card_holds'). Laid BY PROGRAM, IN A SANDBOX (cutbox-door.mjs). By AI agents, Wed Nov 11 2026. No macro, syntax, notation, axiom, sorry.
-/
import Derived.Test.YtaomolffnolpdaaGreatDoorRows
import GoSem.ClaimSeven
namespace Go.Proofs.YtaomolffnolpdaaGreatDoor
namespace Rows

/-- THE TIED CARD OF 'truchmanlaw01.DocsBreaks'. -/
def docsBreaksCard : Claim7 := { stood := { row := docsBreaksRow, standIns := [], harness := (true, "724362bbd68dc6947c2cfa585a9765751769a7f5e4c19533870926e1645ccabe"), looks := true }, kinds := [], alts := [], laidByText := true, laidKinds := [.data, .pinned], laidTests := true, laidLooks := .later }
def DocsBreaksCardSaid : Prop := Claim7.holds Tryz.pinned (.plain (OpenSpec.ofChange docsBreaksSpec)) docsBreaksCard

/-- THE TIED CARD OF 'truchmanlaw01.DocsFits'. -/
def docsFitsCard : Claim7 := { stood := { row := docsFitsRow, standIns := [], harness := (true, "724362bbd68dc6947c2cfa585a9765751769a7f5e4c19533870926e1645ccabe"), looks := true }, kinds := [], alts := [], laidByText := true, laidKinds := [.data, .pinned], laidTests := true, laidLooks := .later }
def DocsFitsCardSaid : Prop := Claim7.holds Tryz.pinned (.plain (OpenSpec.ofChange docsFitsSpec)) docsFitsCard

/-- THE TIED CARD OF 'truchmanlaw01.DocsCuts'. -/
def docsCutsCard : Claim7 := { stood := { row := docsCutsRow, standIns := [], harness := (true, "724362bbd68dc6947c2cfa585a9765751769a7f5e4c19533870926e1645ccabe"), looks := true }, kinds := [], alts := [], laidByText := true, laidKinds := [.data, .pinned], laidTests := true, laidLooks := .later }
def DocsCutsCardSaid : Prop := Claim7.holds Tryz.pinned (.plain (OpenSpec.ofChange docsCutsSpec)) docsCutsCard

/-- THE TIED CARD OF 'truchmanlaw01.DocsGlued'. -/
def docsGluedCard : Claim7 := { stood := { row := docsGluedRow, standIns := [], harness := (true, "724362bbd68dc6947c2cfa585a9765751769a7f5e4c19533870926e1645ccabe"), looks := true }, kinds := [], alts := [], laidByText := true, laidKinds := [.data, .pinned], laidTests := true, laidLooks := .later }
def DocsGluedCardSaid : Prop := Claim7.holds Tryz.pinned (.plain (OpenSpec.ofChange docsGluedSpec)) docsGluedCard

/-- THE TIED CARD OF 'truchmanlaw01.DocsSegments'. -/
def docsSegmentsCard : Claim7 := { stood := { row := docsSegmentsRow, standIns := [], harness := (true, "724362bbd68dc6947c2cfa585a9765751769a7f5e4c19533870926e1645ccabe"), looks := true }, kinds := [], alts := [], laidByText := true, laidKinds := [.data, .pinned], laidTests := true, laidLooks := .later }
def DocsSegmentsCardSaid : Prop := Claim7.holds Tryz.pinned (.plain (OpenSpec.ofChange docsSegmentsSpec)) docsSegmentsCard

/-- THE TIED CARD OF 'truchmanlaw01.DocsRestored'. -/
def docsRestoredCard : Claim7 := { stood := { row := docsRestoredRow, standIns := [], harness := (true, "724362bbd68dc6947c2cfa585a9765751769a7f5e4c19533870926e1645ccabe"), looks := true }, kinds := [], alts := [], laidByText := true, laidKinds := [.data, .pinned], laidTests := true, laidLooks := .later }
def DocsRestoredCardSaid : Prop := Claim7.holds Tryz.pinned (.plain (OpenSpec.ofChange docsRestoredSpec)) docsRestoredCard

/-- THE SECOND FORM's CARD OF 'truchmanlaw01.DocsBreaks'. -/
def docsBreaksUptoCard : Claim7 := { stood := { row := docsBreaksUptoRow, standIns := [], harness := (true, "724362bbd68dc6947c2cfa585a9765751769a7f5e4c19533870926e1645ccabe"), looks := true }, kinds := [], alts := [], laidByText := true, laidKinds := [.data, .pinned], laidTests := true, laidLooks := .later }
def DocsBreaksUptoCardSaid : Prop := Claim7.holds Tryz.pinned (.plain (OpenSpec.upto docsBreaksSpec)) docsBreaksUptoCard

/-- THE SECOND FORM's CARD OF 'truchmanlaw01.DocsFits'. -/
def docsFitsUptoCard : Claim7 := { stood := { row := docsFitsUptoRow, standIns := [], harness := (true, "724362bbd68dc6947c2cfa585a9765751769a7f5e4c19533870926e1645ccabe"), looks := true }, kinds := [], alts := [], laidByText := true, laidKinds := [.data, .pinned], laidTests := true, laidLooks := .later }
def DocsFitsUptoCardSaid : Prop := Claim7.holds Tryz.pinned (.plain (OpenSpec.upto docsFitsSpec)) docsFitsUptoCard

/-- THE SECOND FORM's CARD OF 'truchmanlaw01.DocsCuts'. -/
def docsCutsUptoCard : Claim7 := { stood := { row := docsCutsUptoRow, standIns := [], harness := (true, "724362bbd68dc6947c2cfa585a9765751769a7f5e4c19533870926e1645ccabe"), looks := true }, kinds := [], alts := [], laidByText := true, laidKinds := [.data, .pinned], laidTests := true, laidLooks := .later }
def DocsCutsUptoCardSaid : Prop := Claim7.holds Tryz.pinned (.plain (OpenSpec.upto docsCutsSpec)) docsCutsUptoCard

/-- THE SECOND FORM's CARD OF 'truchmanlaw01.DocsGlued'. -/
def docsGluedUptoCard : Claim7 := { stood := { row := docsGluedUptoRow, standIns := [], harness := (true, "724362bbd68dc6947c2cfa585a9765751769a7f5e4c19533870926e1645ccabe"), looks := true }, kinds := [], alts := [], laidByText := true, laidKinds := [.data, .pinned], laidTests := true, laidLooks := .later }
def DocsGluedUptoCardSaid : Prop := Claim7.holds Tryz.pinned (.plain (OpenSpec.upto docsGluedSpec)) docsGluedUptoCard

/-- THE SECOND FORM's CARD OF 'truchmanlaw01.DocsSegments'. -/
def docsSegmentsUptoCard : Claim7 := { stood := { row := docsSegmentsUptoRow, standIns := [], harness := (true, "724362bbd68dc6947c2cfa585a9765751769a7f5e4c19533870926e1645ccabe"), looks := true }, kinds := [], alts := [], laidByText := true, laidKinds := [.data, .pinned], laidTests := true, laidLooks := .later }
def DocsSegmentsUptoCardSaid : Prop := Claim7.holds Tryz.pinned (.plain (OpenSpec.upto docsSegmentsSpec)) docsSegmentsUptoCard

/-- THE SECOND FORM's CARD OF 'truchmanlaw01.DocsRestored'. -/
def docsRestoredUptoCard : Claim7 := { stood := { row := docsRestoredUptoRow, standIns := [], harness := (true, "724362bbd68dc6947c2cfa585a9765751769a7f5e4c19533870926e1645ccabe"), looks := true }, kinds := [], alts := [], laidByText := true, laidKinds := [.data, .pinned], laidTests := true, laidLooks := .later }
def DocsRestoredUptoCardSaid : Prop := Claim7.holds Tryz.pinned (.plain (OpenSpec.upto docsRestoredSpec)) docsRestoredUptoCard
end Rows
end Go.Proofs.YtaomolffnolpdaaGreatDoor
