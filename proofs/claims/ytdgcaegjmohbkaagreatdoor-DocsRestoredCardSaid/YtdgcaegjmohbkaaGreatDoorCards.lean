/-
  DERIVED. GIVEN WITH THE SEED: THE CARDS: each row of YtdgcaegjmohbkaaGreatDoorRows.lean that lists a variable, with what it lists TIED to the program's text (the seventh form; the later family's looks); each row that meets fmt, with fmt's text TOLD by the authors' own Lean function (tested against real Go, not proved from fmt's source: count such statements apart). THE CARD IS WHAT COUNTS. Prove the row's statement (the work); the ties are given (YtdgcaegjmohbkaaGreatDoorTie.lean); close each card by the builder's one call (the guide's Derived/Test/ToyasCard.lean, 'card_holds'). Laid BY PROGRAM, IN A SANDBOX (cutbox-door.mjs). By AI agents, Wed Nov 11 2026. No macro, syntax, notation, axiom, sorry.
-/
import Derived.Test.YtdgcaegjmohbkaaGreatDoorRows
import GoSem.ClaimSeven
namespace Go.Proofs.YtdgcaegjmohbkaaGreatDoor
namespace Rows

/-- THE TIED CARD OF 'truchmanlaw01.DocsGlued'. -/
def docsGluedCard : Claim7 := { stood := { row := docsGluedRow, standIns := [], harness := (true, "eca26e0ac81defabd048f9d969f95a3287570773748325b81002108f3354e805"), looks := true }, kinds := [], alts := [], laidByText := true, laidKinds := [.data, .pinned], laidTests := true, laidLooks := .later }
def DocsGluedCardSaid : Prop := Claim7.holds Tryz.pinned (.plain (OpenSpec.ofChange docsGluedSpec)) docsGluedCard

/-- THE TIED CARD OF 'truchmanlaw01.DocsSegments'. -/
def docsSegmentsCard : Claim7 := { stood := { row := docsSegmentsRow, standIns := [], harness := (true, "eca26e0ac81defabd048f9d969f95a3287570773748325b81002108f3354e805"), looks := true }, kinds := [], alts := [], laidByText := true, laidKinds := [.data, .pinned], laidTests := true, laidLooks := .later }
def DocsSegmentsCardSaid : Prop := Claim7.holds Tryz.pinned (.plain (OpenSpec.ofChange docsSegmentsSpec)) docsSegmentsCard

/-- THE TIED CARD OF 'truchmanlaw01.DocsRestored'. -/
def docsRestoredCard : Claim7 := { stood := { row := docsRestoredRow, standIns := [], harness := (true, "eca26e0ac81defabd048f9d969f95a3287570773748325b81002108f3354e805"), looks := true }, kinds := [], alts := [], laidByText := true, laidKinds := [.data, .pinned], laidTests := true, laidLooks := .later }
def DocsRestoredCardSaid : Prop := Claim7.holds Tryz.pinned (.plain (OpenSpec.ofChange docsRestoredSpec)) docsRestoredCard

/-- THE SECOND FORM's CARD OF 'truchmanlaw01.DocsGlued'. -/
def docsGluedUptoCard : Claim7 := { stood := { row := docsGluedUptoRow, standIns := [], harness := (true, "eca26e0ac81defabd048f9d969f95a3287570773748325b81002108f3354e805"), looks := true }, kinds := [], alts := [], laidByText := true, laidKinds := [.data, .pinned], laidTests := true, laidLooks := .later }
def DocsGluedUptoCardSaid : Prop := Claim7.holds Tryz.pinned (.plain (OpenSpec.upto docsGluedSpec)) docsGluedUptoCard

/-- THE SECOND FORM's CARD OF 'truchmanlaw01.DocsSegments'. -/
def docsSegmentsUptoCard : Claim7 := { stood := { row := docsSegmentsUptoRow, standIns := [], harness := (true, "eca26e0ac81defabd048f9d969f95a3287570773748325b81002108f3354e805"), looks := true }, kinds := [], alts := [], laidByText := true, laidKinds := [.data, .pinned], laidTests := true, laidLooks := .later }
def DocsSegmentsUptoCardSaid : Prop := Claim7.holds Tryz.pinned (.plain (OpenSpec.upto docsSegmentsSpec)) docsSegmentsUptoCard

/-- THE SECOND FORM's CARD OF 'truchmanlaw01.DocsRestored'. -/
def docsRestoredUptoCard : Claim7 := { stood := { row := docsRestoredUptoRow, standIns := [], harness := (true, "eca26e0ac81defabd048f9d969f95a3287570773748325b81002108f3354e805"), looks := true }, kinds := [], alts := [], laidByText := true, laidKinds := [.data, .pinned], laidTests := true, laidLooks := .later }
def DocsRestoredUptoCardSaid : Prop := Claim7.holds Tryz.pinned (.plain (OpenSpec.upto docsRestoredSpec)) docsRestoredUptoCard
end Rows
end Go.Proofs.YtdgcaegjmohbkaaGreatDoor
