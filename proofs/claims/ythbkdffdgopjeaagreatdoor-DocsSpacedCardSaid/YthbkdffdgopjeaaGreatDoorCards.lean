/-
  DERIVED. GIVEN WITH THE SEED: THE CARDS: each row of YthbkdffdgopjeaaGreatDoorRows.lean that lists a variable, with what it lists TIED to the program's text (the seventh form; the later family's looks); each row that meets fmt, with fmt's text TOLD by the authors' own Lean function (tested against real Go, not proved from fmt's source: count such statements apart). THE CARD IS WHAT COUNTS. Prove the row's statement (the work); the ties are given (YthbkdffdgopjeaaGreatDoorTie.lean); close each card by the builder's one call (the guide's Derived/Test/ToyasCard.lean, 'card_holds'). Laid BY PROGRAM, IN A SANDBOX (cutbox-door.mjs). By AI agents, Wed Nov 11 2026. No macro, syntax, notation, axiom, sorry.
-/
import Derived.Test.YthbkdffdgopjeaaGreatDoorRows
import GoSem.ClaimSeven
namespace Go.Proofs.YthbkdffdgopjeaaGreatDoor
namespace Rows

/-- THE TIED CARD OF 'truchmanlaw01.DocsProject'. -/
def docsProjectCard : Claim7 := { stood := { row := docsProjectRow, standIns := [], harness := (true, "65bb100b737fb1ca87ea0cb2e44dfd1325ff2684cf98d25d966a6af36b9bbf87"), looks := true }, kinds := [], alts := [], laidByText := true, laidKinds := [.data, .pinned], laidTests := true, laidLooks := .later }
def DocsProjectCardSaid : Prop := Claim7.holds Tryz.pinned (.plain (OpenSpec.ofChange docsProjectSpec)) docsProjectCard

/-- THE TIED CARD OF 'truchmanlaw01.DocsKept'. -/
def docsKeptCard : Claim7 := { stood := { row := docsKeptRow, standIns := [], harness := (true, "65bb100b737fb1ca87ea0cb2e44dfd1325ff2684cf98d25d966a6af36b9bbf87"), looks := true }, kinds := [], alts := [], laidByText := true, laidKinds := [.data, .pinned], laidTests := true, laidLooks := .later }
def DocsKeptCardSaid : Prop := Claim7.holds Tryz.pinned (.plain (OpenSpec.ofChange docsKeptSpec)) docsKeptCard

/-- THE TIED CARD OF 'truchmanlaw01.DocsSpaced'. -/
def docsSpacedCard : Claim7 := { stood := { row := docsSpacedRow, standIns := [], harness := (true, "65bb100b737fb1ca87ea0cb2e44dfd1325ff2684cf98d25d966a6af36b9bbf87"), looks := true }, kinds := [], alts := [], laidByText := true, laidKinds := [.data, .pinned], laidTests := true, laidLooks := .later }
def DocsSpacedCardSaid : Prop := Claim7.holds Tryz.pinned (.plain (OpenSpec.ofChange docsSpacedSpec)) docsSpacedCard

/-- THE TIED CARD OF 'truchmanlaw01.DocsWords'. -/
def docsWordsCard : Claim7 := { stood := { row := docsWordsRow, standIns := [], harness := (true, "65bb100b737fb1ca87ea0cb2e44dfd1325ff2684cf98d25d966a6af36b9bbf87"), looks := true }, kinds := [], alts := [], laidByText := true, laidKinds := [.data, .pinned], laidTests := true, laidLooks := .later }
def DocsWordsCardSaid : Prop := Claim7.holds Tryz.pinned (.plain (OpenSpec.ofChange docsWordsSpec)) docsWordsCard

/-- THE SECOND FORM's CARD OF 'truchmanlaw01.DocsProject'. -/
def docsProjectUptoCard : Claim7 := { stood := { row := docsProjectUptoRow, standIns := [], harness := (true, "65bb100b737fb1ca87ea0cb2e44dfd1325ff2684cf98d25d966a6af36b9bbf87"), looks := true }, kinds := [], alts := [], laidByText := true, laidKinds := [.data, .pinned], laidTests := true, laidLooks := .later }
def DocsProjectUptoCardSaid : Prop := Claim7.holds Tryz.pinned (.plain (OpenSpec.upto docsProjectSpec)) docsProjectUptoCard

/-- THE SECOND FORM's CARD OF 'truchmanlaw01.DocsKept'. -/
def docsKeptUptoCard : Claim7 := { stood := { row := docsKeptUptoRow, standIns := [], harness := (true, "65bb100b737fb1ca87ea0cb2e44dfd1325ff2684cf98d25d966a6af36b9bbf87"), looks := true }, kinds := [], alts := [], laidByText := true, laidKinds := [.data, .pinned], laidTests := true, laidLooks := .later }
def DocsKeptUptoCardSaid : Prop := Claim7.holds Tryz.pinned (.plain (OpenSpec.upto docsKeptSpec)) docsKeptUptoCard

/-- THE SECOND FORM's CARD OF 'truchmanlaw01.DocsSpaced'. -/
def docsSpacedUptoCard : Claim7 := { stood := { row := docsSpacedUptoRow, standIns := [], harness := (true, "65bb100b737fb1ca87ea0cb2e44dfd1325ff2684cf98d25d966a6af36b9bbf87"), looks := true }, kinds := [], alts := [], laidByText := true, laidKinds := [.data, .pinned], laidTests := true, laidLooks := .later }
def DocsSpacedUptoCardSaid : Prop := Claim7.holds Tryz.pinned (.plain (OpenSpec.upto docsSpacedSpec)) docsSpacedUptoCard

/-- THE SECOND FORM's CARD OF 'truchmanlaw01.DocsWords'. -/
def docsWordsUptoCard : Claim7 := { stood := { row := docsWordsUptoRow, standIns := [], harness := (true, "65bb100b737fb1ca87ea0cb2e44dfd1325ff2684cf98d25d966a6af36b9bbf87"), looks := true }, kinds := [], alts := [], laidByText := true, laidKinds := [.data, .pinned], laidTests := true, laidLooks := .later }
def DocsWordsUptoCardSaid : Prop := Claim7.holds Tryz.pinned (.plain (OpenSpec.upto docsWordsSpec)) docsWordsUptoCard
end Rows
end Go.Proofs.YthbkdffdgopjeaaGreatDoor
