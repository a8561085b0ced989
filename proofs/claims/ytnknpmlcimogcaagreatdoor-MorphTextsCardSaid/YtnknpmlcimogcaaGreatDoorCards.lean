/-
  DERIVED. GIVEN WITH THE SEED: THE CARDS: each row of YtnknpmlcimogcaaGreatDoorRows.lean that lists a variable, with what it lists TIED to the program's text (the seventh form; the later family's looks); each row that meets fmt, with fmt's text TOLD by the authors' own Lean function (tested against real Go, not proved from fmt's source: count such statements apart). THE CARD IS WHAT COUNTS. Prove the row's statement (the work); the ties are given (YtnknpmlcimogcaaGreatDoorTie.lean); close each card by the builder's one call (the guide's Derived/Test/ToyasCard.lean, 'card_holds'). Laid BY PROGRAM, IN A SANDBOX (cutbox-door.mjs). By AI agents, Wed Nov 11 2026. No macro, syntax, notation, axiom, sorry.
-/
import Derived.Test.YtnknpmlcimogcaaGreatDoorRows
import GoSem.ClaimSeven
namespace Go.Proofs.YtnknpmlcimogcaaGreatDoor
namespace Rows

/-- THE TIED CARD OF 'truchmanlaw02.MorphTexts'. -/
def morphTextsCard : Claim7 := { stood := { row := morphTextsRow, standIns := [], harness := (true, "7e76b31704a0f51e6cd2ef4fd1af933bf9f8efddc0e513d55aca9a8167d59f65"), looks := true }, kinds := [], alts := [], laidByText := true, laidKinds := [.data, .data, .data, .data, .sentinel, .sentinel, .pinned], laidTests := true, laidLooks := .later }
def MorphTextsCardSaid : Prop := Claim7.holds Tryz.pinned (.plain (OpenSpec.ofChange morphTextsSpec)) morphTextsCard

/-- THE TIED CARD OF 'truchmanlaw02.MorphBack'. -/
def morphBackCard : Claim7 := { stood := { row := morphBackRow, standIns := [], harness := (true, "7e76b31704a0f51e6cd2ef4fd1af933bf9f8efddc0e513d55aca9a8167d59f65"), looks := true }, kinds := [], alts := [], laidByText := true, laidKinds := [.data, .data, .data, .data, .sentinel, .sentinel, .pinned], laidTests := true, laidLooks := .later }
def MorphBackCardSaid : Prop := Claim7.holds Tryz.pinned (.plain (OpenSpec.ofChange morphBackSpec)) morphBackCard

/-- THE SECOND FORM's CARD OF 'truchmanlaw02.MorphTexts'. -/
def morphTextsUptoCard : Claim7 := { stood := { row := morphTextsUptoRow, standIns := [], harness := (true, "7e76b31704a0f51e6cd2ef4fd1af933bf9f8efddc0e513d55aca9a8167d59f65"), looks := true }, kinds := [], alts := [], laidByText := true, laidKinds := [.data, .data, .data, .data, .sentinel, .sentinel, .pinned], laidTests := true, laidLooks := .later }
def MorphTextsUptoCardSaid : Prop := Claim7.holds Tryz.pinned (.plain (OpenSpec.upto morphTextsSpec)) morphTextsUptoCard

/-- THE SECOND FORM's CARD OF 'truchmanlaw02.MorphBack'. -/
def morphBackUptoCard : Claim7 := { stood := { row := morphBackUptoRow, standIns := [], harness := (true, "7e76b31704a0f51e6cd2ef4fd1af933bf9f8efddc0e513d55aca9a8167d59f65"), looks := true }, kinds := [], alts := [], laidByText := true, laidKinds := [.data, .data, .data, .data, .sentinel, .sentinel, .pinned], laidTests := true, laidLooks := .later }
def MorphBackUptoCardSaid : Prop := Claim7.holds Tryz.pinned (.plain (OpenSpec.upto morphBackSpec)) morphBackUptoCard
end Rows
end Go.Proofs.YtnknpmlcimogcaaGreatDoor
