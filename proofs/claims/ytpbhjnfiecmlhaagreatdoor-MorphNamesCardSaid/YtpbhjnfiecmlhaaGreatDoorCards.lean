/-
  DERIVED. GIVEN WITH THE SEED: THE CARDS: each row of YtpbhjnfiecmlhaaGreatDoorRows.lean that lists a variable, with what it lists TIED to the program's text (the seventh form; the later family's looks); each row that meets fmt, with fmt's text TOLD by the authors' own Lean function (tested against real Go, not proved from fmt's source: count such statements apart). THE CARD IS WHAT COUNTS. Prove the row's statement (the work); the ties are given (YtpbhjnfiecmlhaaGreatDoorTie.lean); close each card by the builder's one call (the guide's Derived/Test/ToyasCard.lean, 'card_holds'). Laid BY PROGRAM, IN A SANDBOX (cutbox-door.mjs). By AI agents, Wed Nov 11 2026. No macro, syntax, notation, axiom, sorry.
-/
import Derived.Test.YtpbhjnfiecmlhaaGreatDoorRows
import GoSem.ClaimSeven
namespace Go.Proofs.YtpbhjnfiecmlhaaGreatDoor
namespace Rows

/-- THE TIED CARD OF 'truchmanlaw02.MorphNames'. -/
def morphNamesCard : Claim7 := { stood := { row := morphNamesRow, standIns := [], harness := (true, "44e708baaa686ae78745bcfdad2b9a86cbc67c63802d600231daae0c35c6bff8"), looks := true }, kinds := [], alts := [], laidByText := true, laidKinds := [.data, .data, .data, .data, .sentinel, .sentinel, .pinned], laidTests := true, laidLooks := .later }
def MorphNamesCardSaid : Prop := Claim7.holds Tryz.pinned (.plain (OpenSpec.ofChange morphNamesSpec)) morphNamesCard

/-- THE SECOND FORM's CARD OF 'truchmanlaw02.MorphNames'. -/
def morphNamesUptoCard : Claim7 := { stood := { row := morphNamesUptoRow, standIns := [], harness := (true, "44e708baaa686ae78745bcfdad2b9a86cbc67c63802d600231daae0c35c6bff8"), looks := true }, kinds := [], alts := [], laidByText := true, laidKinds := [.data, .data, .data, .data, .sentinel, .sentinel, .pinned], laidTests := true, laidLooks := .later }
def MorphNamesUptoCardSaid : Prop := Claim7.holds Tryz.pinned (.plain (OpenSpec.upto morphNamesSpec)) morphNamesUptoCard
end Rows
end Go.Proofs.YtpbhjnfiecmlhaaGreatDoor
