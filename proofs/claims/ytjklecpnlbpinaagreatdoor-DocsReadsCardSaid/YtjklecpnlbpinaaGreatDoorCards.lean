/-
  DERIVED. GIVEN WITH THE SEED: THE CARDS: each row of YtjklecpnlbpinaaGreatDoorRows.lean that lists a variable, with what it lists TIED to the program's text (the seventh form; the later family's looks); each row that meets fmt, with fmt's text TOLD by the authors' own Lean function (tested against real Go, not proved from fmt's source: count such statements apart). THE CARD IS WHAT COUNTS. Prove the row's statement (the work); the ties are given (YtjklecpnlbpinaaGreatDoorTie.lean); close each card by the builder's one call (the guide's Derived/Test/ToyasCard.lean, 'card_holds'). Laid BY PROGRAM, IN A SANDBOX (cutbox-door.mjs). By AI agents, Wed Nov 11 2026. No macro, syntax, notation, axiom, sorry.
-/
import Derived.Test.YtjklecpnlbpinaaGreatDoorRows
import GoSem.ClaimSeven
namespace Go.Proofs.YtjklecpnlbpinaaGreatDoor
namespace Rows

/-- THE TIED CARD OF 'truchmanlaw01.DocsReads'. -/
def docsReadsCard : Claim7 := { stood := { row := docsReadsRow, standIns := [], harness := (true, "8826d39a387fa3a96d1e27352172206407c071c4faa7cfa2faa366c576605ad1"), looks := true }, kinds := [], alts := [], laidByText := true, laidKinds := [.data, .pinned], laidTests := true, laidLooks := .later }
def DocsReadsCardSaid : Prop := Claim7.holds Tryz.pinned (.plain (OpenSpec.ofChange docsReadsSpec)) docsReadsCard

/-- THE SECOND FORM's CARD OF 'truchmanlaw01.DocsReads'. -/
def docsReadsUptoCard : Claim7 := { stood := { row := docsReadsUptoRow, standIns := [], harness := (true, "8826d39a387fa3a96d1e27352172206407c071c4faa7cfa2faa366c576605ad1"), looks := true }, kinds := [], alts := [], laidByText := true, laidKinds := [.data, .pinned], laidTests := true, laidLooks := .later }
def DocsReadsUptoCardSaid : Prop := Claim7.holds Tryz.pinned (.plain (OpenSpec.upto docsReadsSpec)) docsReadsUptoCard
end Rows
end Go.Proofs.YtjklecpnlbpinaaGreatDoor
