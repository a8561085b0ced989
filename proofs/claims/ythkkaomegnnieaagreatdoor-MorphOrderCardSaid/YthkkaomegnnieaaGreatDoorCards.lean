/-
  DERIVED. GIVEN WITH THE SEED: THE CARDS: each row of YthkkaomegnnieaaGreatDoorRows.lean that lists a variable, with what it lists TIED to the program's text (the seventh form; the later family's looks); each row that meets fmt, with fmt's text TOLD by the authors' own Lean function (tested against real Go, not proved from fmt's source: count such statements apart). THE CARD IS WHAT COUNTS. Prove the row's statement (the work); the ties are given (YthkkaomegnnieaaGreatDoorTie.lean); close each card by the builder's one call (the guide's Derived/Test/ToyasCard.lean, 'card_holds'). Laid BY PROGRAM, IN A SANDBOX (cutbox-door.mjs). By AI agents, Wed Nov 11 2026. No macro, syntax, notation, axiom, sorry.
-/
import Derived.Test.YthkkaomegnnieaaGreatDoorRows
import GoSem.ClaimSeven
namespace Go.Proofs.YthkkaomegnnieaaGreatDoor
namespace Rows

/-- THE TIED CARD OF 'truchmanlaw02.MorphKnown'. -/
def morphKnownCard : Claim7 := { stood := { row := morphKnownRow, standIns := [], harness := (true, "45b5ae9fb6ee09d4314c3a5b195290fefc7552acdab2961509ea14a27ff41bd1"), looks := true }, kinds := [], alts := [], laidByText := true, laidKinds := [.data, .data, .data, .data, .sentinel, .sentinel, .pinned], laidTests := true, laidLooks := .later }
def MorphKnownCardSaid : Prop := Claim7.holds Tryz.pinned (.plain (OpenSpec.ofChange morphKnownSpec)) morphKnownCard

/-- THE TIED CARD OF 'truchmanlaw02.MorphUnifies'. -/
def morphUnifiesCard : Claim7 := { stood := { row := morphUnifiesRow, standIns := [], harness := (true, "45b5ae9fb6ee09d4314c3a5b195290fefc7552acdab2961509ea14a27ff41bd1"), looks := true }, kinds := [], alts := [], laidByText := true, laidKinds := [.data, .data, .data, .data, .sentinel, .sentinel, .pinned], laidTests := true, laidLooks := .later }
def MorphUnifiesCardSaid : Prop := Claim7.holds Tryz.pinned (.plain (OpenSpec.ofChange morphUnifiesSpec)) morphUnifiesCard

/-- THE TIED CARD OF 'truchmanlaw02.MorphOrder'. -/
def morphOrderCard : Claim7 := { stood := { row := morphOrderRow, standIns := [], harness := (true, "45b5ae9fb6ee09d4314c3a5b195290fefc7552acdab2961509ea14a27ff41bd1"), looks := true }, kinds := [], alts := [], laidByText := true, laidKinds := [.data, .data, .data, .data, .sentinel, .sentinel, .pinned], laidTests := true, laidLooks := .later }
def MorphOrderCardSaid : Prop := Claim7.holds Tryz.pinned (.plain (OpenSpec.ofChange morphOrderSpec)) morphOrderCard

/-- THE TIED CARD OF 'truchmanlaw02.MorphForms'. -/
def morphFormsCard : Claim7 := { stood := { row := morphFormsRow, standIns := [], harness := (true, "45b5ae9fb6ee09d4314c3a5b195290fefc7552acdab2961509ea14a27ff41bd1"), looks := true }, kinds := [], alts := [], laidByText := true, laidKinds := [.data, .data, .data, .data, .sentinel, .sentinel, .pinned], laidTests := true, laidLooks := .later }
def MorphFormsCardSaid : Prop := Claim7.holds Tryz.pinned (.plain (OpenSpec.ofChange morphFormsSpec)) morphFormsCard

/-- THE SECOND FORM's CARD OF 'truchmanlaw02.MorphKnown'. -/
def morphKnownUptoCard : Claim7 := { stood := { row := morphKnownUptoRow, standIns := [], harness := (true, "45b5ae9fb6ee09d4314c3a5b195290fefc7552acdab2961509ea14a27ff41bd1"), looks := true }, kinds := [], alts := [], laidByText := true, laidKinds := [.data, .data, .data, .data, .sentinel, .sentinel, .pinned], laidTests := true, laidLooks := .later }
def MorphKnownUptoCardSaid : Prop := Claim7.holds Tryz.pinned (.plain (OpenSpec.upto morphKnownSpec)) morphKnownUptoCard

/-- THE SECOND FORM's CARD OF 'truchmanlaw02.MorphUnifies'. -/
def morphUnifiesUptoCard : Claim7 := { stood := { row := morphUnifiesUptoRow, standIns := [], harness := (true, "45b5ae9fb6ee09d4314c3a5b195290fefc7552acdab2961509ea14a27ff41bd1"), looks := true }, kinds := [], alts := [], laidByText := true, laidKinds := [.data, .data, .data, .data, .sentinel, .sentinel, .pinned], laidTests := true, laidLooks := .later }
def MorphUnifiesUptoCardSaid : Prop := Claim7.holds Tryz.pinned (.plain (OpenSpec.upto morphUnifiesSpec)) morphUnifiesUptoCard

/-- THE SECOND FORM's CARD OF 'truchmanlaw02.MorphOrder'. -/
def morphOrderUptoCard : Claim7 := { stood := { row := morphOrderUptoRow, standIns := [], harness := (true, "45b5ae9fb6ee09d4314c3a5b195290fefc7552acdab2961509ea14a27ff41bd1"), looks := true }, kinds := [], alts := [], laidByText := true, laidKinds := [.data, .data, .data, .data, .sentinel, .sentinel, .pinned], laidTests := true, laidLooks := .later }
def MorphOrderUptoCardSaid : Prop := Claim7.holds Tryz.pinned (.plain (OpenSpec.upto morphOrderSpec)) morphOrderUptoCard

/-- THE SECOND FORM's CARD OF 'truchmanlaw02.MorphForms'. -/
def morphFormsUptoCard : Claim7 := { stood := { row := morphFormsUptoRow, standIns := [], harness := (true, "45b5ae9fb6ee09d4314c3a5b195290fefc7552acdab2961509ea14a27ff41bd1"), looks := true }, kinds := [], alts := [], laidByText := true, laidKinds := [.data, .data, .data, .data, .sentinel, .sentinel, .pinned], laidTests := true, laidLooks := .later }
def MorphFormsUptoCardSaid : Prop := Claim7.holds Tryz.pinned (.plain (OpenSpec.upto morphFormsSpec)) morphFormsUptoCard
end Rows
end Go.Proofs.YthkkaomegnnieaaGreatDoor
