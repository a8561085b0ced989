/-
  DERIVED. GIVEN WITH THE SEED: THE CARDS: each row of YtdaikompdjachaaGreatDoorRows.lean that lists a variable, with what it lists TIED to the program's text (the seventh form; the later family's looks); each row that meets fmt, with fmt's text TOLD by the authors' own Lean function (tested against real Go, not proved from fmt's source: count such statements apart). THE CARD IS WHAT COUNTS. Prove the row's statement (the work); the ties are given (YtdaikompdjachaaGreatDoorTie.lean); close each card by the builder's one call (the guide's Derived/Test/ToyasCard.lean, 'card_holds'). Laid BY PROGRAM, IN A SANDBOX (cutbox-door.mjs). By AI agents, Wed Nov 11 2026. No macro, syntax, notation, axiom, sorry.
-/
import Derived.Test.YtdaikompdjachaaGreatDoorRows
import GoSem.ClaimSeven
namespace Go.Proofs.YtdaikompdjachaaGreatDoor
namespace Rows

/-- THE TIED CARD OF 'truchmanlaw02.MorphUnifies'. -/
def morphUnifiesCard : Claim7 := { stood := { row := morphUnifiesRow, standIns := [], harness := (true, "767ed3316067a7943e5a2ce3f4e39c9e639e0391e0068004630873afc621ee89"), looks := true }, kinds := [], alts := [], laidByText := true, laidKinds := [.data, .data, .data, .data, .sentinel, .sentinel, .pinned], laidTests := true, laidLooks := .later }
def MorphUnifiesCardSaid : Prop := Claim7.holds Tryz.pinned (.plain (OpenSpec.ofChange morphUnifiesSpec)) morphUnifiesCard

/-- THE TIED CARD OF 'truchmanlaw02.MorphOrder'. -/
def morphOrderCard : Claim7 := { stood := { row := morphOrderRow, standIns := [], harness := (true, "767ed3316067a7943e5a2ce3f4e39c9e639e0391e0068004630873afc621ee89"), looks := true }, kinds := [], alts := [], laidByText := true, laidKinds := [.data, .data, .data, .data, .sentinel, .sentinel, .pinned], laidTests := true, laidLooks := .later }
def MorphOrderCardSaid : Prop := Claim7.holds Tryz.pinned (.plain (OpenSpec.ofChange morphOrderSpec)) morphOrderCard

/-- THE TIED CARD OF 'truchmanlaw02.MorphForms'. -/
def morphFormsCard : Claim7 := { stood := { row := morphFormsRow, standIns := [], harness := (true, "767ed3316067a7943e5a2ce3f4e39c9e639e0391e0068004630873afc621ee89"), looks := true }, kinds := [], alts := [], laidByText := true, laidKinds := [.data, .data, .data, .data, .sentinel, .sentinel, .pinned], laidTests := true, laidLooks := .later }
def MorphFormsCardSaid : Prop := Claim7.holds Tryz.pinned (.plain (OpenSpec.ofChange morphFormsSpec)) morphFormsCard

/-- THE TIED CARD OF 'truchmanlaw02.MorphKnown'. -/
def morphKnownCard : Claim7 := { stood := { row := morphKnownRow, standIns := [], harness := (true, "767ed3316067a7943e5a2ce3f4e39c9e639e0391e0068004630873afc621ee89"), looks := true }, kinds := [], alts := [], laidByText := true, laidKinds := [.data, .data, .data, .data, .sentinel, .sentinel, .pinned], laidTests := true, laidLooks := .later }
def MorphKnownCardSaid : Prop := Claim7.holds Tryz.pinned (.plain (OpenSpec.ofChange morphKnownSpec)) morphKnownCard

/-- THE SECOND FORM's CARD OF 'truchmanlaw02.MorphUnifies'. -/
def morphUnifiesUptoCard : Claim7 := { stood := { row := morphUnifiesUptoRow, standIns := [], harness := (true, "767ed3316067a7943e5a2ce3f4e39c9e639e0391e0068004630873afc621ee89"), looks := true }, kinds := [], alts := [], laidByText := true, laidKinds := [.data, .data, .data, .data, .sentinel, .sentinel, .pinned], laidTests := true, laidLooks := .later }
def MorphUnifiesUptoCardSaid : Prop := Claim7.holds Tryz.pinned (.plain (OpenSpec.upto morphUnifiesSpec)) morphUnifiesUptoCard

/-- THE SECOND FORM's CARD OF 'truchmanlaw02.MorphOrder'. -/
def morphOrderUptoCard : Claim7 := { stood := { row := morphOrderUptoRow, standIns := [], harness := (true, "767ed3316067a7943e5a2ce3f4e39c9e639e0391e0068004630873afc621ee89"), looks := true }, kinds := [], alts := [], laidByText := true, laidKinds := [.data, .data, .data, .data, .sentinel, .sentinel, .pinned], laidTests := true, laidLooks := .later }
def MorphOrderUptoCardSaid : Prop := Claim7.holds Tryz.pinned (.plain (OpenSpec.upto morphOrderSpec)) morphOrderUptoCard

/-- THE SECOND FORM's CARD OF 'truchmanlaw02.MorphForms'. -/
def morphFormsUptoCard : Claim7 := { stood := { row := morphFormsUptoRow, standIns := [], harness := (true, "767ed3316067a7943e5a2ce3f4e39c9e639e0391e0068004630873afc621ee89"), looks := true }, kinds := [], alts := [], laidByText := true, laidKinds := [.data, .data, .data, .data, .sentinel, .sentinel, .pinned], laidTests := true, laidLooks := .later }
def MorphFormsUptoCardSaid : Prop := Claim7.holds Tryz.pinned (.plain (OpenSpec.upto morphFormsSpec)) morphFormsUptoCard

/-- THE SECOND FORM's CARD OF 'truchmanlaw02.MorphKnown'. -/
def morphKnownUptoCard : Claim7 := { stood := { row := morphKnownUptoRow, standIns := [], harness := (true, "767ed3316067a7943e5a2ce3f4e39c9e639e0391e0068004630873afc621ee89"), looks := true }, kinds := [], alts := [], laidByText := true, laidKinds := [.data, .data, .data, .data, .sentinel, .sentinel, .pinned], laidTests := true, laidLooks := .later }
def MorphKnownUptoCardSaid : Prop := Claim7.holds Tryz.pinned (.plain (OpenSpec.upto morphKnownSpec)) morphKnownUptoCard
end Rows
end Go.Proofs.YtdaikompdjachaaGreatDoor
