/-
  DERIVED. GIVEN WITH THE SEED: THE CARDS: each row of YtokbldlkimlcmaaGreatDoorRows.lean that lists a variable, with what it lists TIED to the program's text (the seventh form; the later family's looks); each row that meets fmt, with fmt's text TOLD by the authors' own Lean function (tested against real Go, not proved from fmt's source: count such statements apart). THE CARD IS WHAT COUNTS. Prove the row's statement (the work); the ties are given (YtokbldlkimlcmaaGreatDoorTie.lean); close each card by the builder's one call (the guide's Derived/Test/ToyasCard.lean, 'card_holds'). Laid BY PROGRAM, IN A SANDBOX (cutbox-door.mjs). By AI agents, Wed Nov 11 2026. No macro, syntax, notation, axiom, sorry.
-/
import Derived.Test.YtokbldlkimlcmaaGreatDoorRows
import GoSem.ClaimSeven
namespace Go.Proofs.YtokbldlkimlcmaaGreatDoor
namespace Rows

/-- THE TIED CARD OF 'truchmanlaw02.MorphSpells'. -/
def morphSpellsCard : Claim7 := { stood := { row := morphSpellsRow, standIns := [], harness := (true, "c3a3184c21d9c8dbccf80688ccd8647fcaf14c5459b3637cfe3fc49fdf1334d7"), looks := true }, kinds := [], alts := [], laidByText := true, laidKinds := [.data, .data, .data, .data, .sentinel, .sentinel, .pinned], laidTests := true, laidLooks := .later }
def MorphSpellsCardSaid : Prop := Claim7.holds Tryz.pinned (.plain (OpenSpec.ofChange morphSpellsSpec)) morphSpellsCard

/-- THE SECOND FORM's CARD OF 'truchmanlaw02.MorphSpells'. -/
def morphSpellsUptoCard : Claim7 := { stood := { row := morphSpellsUptoRow, standIns := [], harness := (true, "c3a3184c21d9c8dbccf80688ccd8647fcaf14c5459b3637cfe3fc49fdf1334d7"), looks := true }, kinds := [], alts := [], laidByText := true, laidKinds := [.data, .data, .data, .data, .sentinel, .sentinel, .pinned], laidTests := true, laidLooks := .later }
def MorphSpellsUptoCardSaid : Prop := Claim7.holds Tryz.pinned (.plain (OpenSpec.upto morphSpellsSpec)) morphSpellsUptoCard
end Rows
end Go.Proofs.YtokbldlkimlcmaaGreatDoor
