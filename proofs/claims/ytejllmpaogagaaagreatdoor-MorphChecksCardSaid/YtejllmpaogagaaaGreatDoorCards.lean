/-
  DERIVED. GIVEN WITH THE SEED: THE CARDS: each row of YtejllmpaogagaaaGreatDoorRows.lean that lists a variable, with what it lists TIED to the program's text (the seventh form; the later family's looks); each row that meets fmt, with fmt's text TOLD by the authors' own Lean function (tested against real Go, not proved from fmt's source: count such statements apart). THE CARD IS WHAT COUNTS. Prove the row's statement (the work); the ties are given (YtejllmpaogagaaaGreatDoorTie.lean); close each card by the builder's one call (the guide's Derived/Test/ToyasCard.lean, 'card_holds'). Laid BY PROGRAM, IN A SANDBOX (cutbox-door.mjs). By AI agents, Wed Nov 11 2026. No macro, syntax, notation, axiom, sorry.
-/
import Derived.Test.YtejllmpaogagaaaGreatDoorRows
import GoSem.ClaimSeven
namespace Go.Proofs.YtejllmpaogagaaaGreatDoor
namespace Rows

/-- THE TIED CARD OF 'truchmanlaw02.MorphChecks'. -/
def morphChecksCard : Claim7 := { stood := { row := morphChecksRow, standIns := [], harness := (true, "5d5540528182a81228b77889089cd4ea1ff3f5cac333b2658ea9518467373268"), looks := true }, kinds := [], alts := [], laidByText := true, laidKinds := [.data, .data, .data, .data, .sentinel, .sentinel, .pinned], laidTests := true, laidLooks := .later }
def MorphChecksCardSaid : Prop := Claim7.holds Tryz.pinned (.plain (OpenSpec.ofChange morphChecksSpec)) morphChecksCard

/-- THE SECOND FORM's CARD OF 'truchmanlaw02.MorphChecks'. -/
def morphChecksUptoCard : Claim7 := { stood := { row := morphChecksUptoRow, standIns := [], harness := (true, "5d5540528182a81228b77889089cd4ea1ff3f5cac333b2658ea9518467373268"), looks := true }, kinds := [], alts := [], laidByText := true, laidKinds := [.data, .data, .data, .data, .sentinel, .sentinel, .pinned], laidTests := true, laidLooks := .later }
def MorphChecksUptoCardSaid : Prop := Claim7.holds Tryz.pinned (.plain (OpenSpec.upto morphChecksSpec)) morphChecksUptoCard
end Rows
end Go.Proofs.YtejllmpaogagaaaGreatDoor
