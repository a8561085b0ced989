/-
  DERIVED. GIVEN WITH THE SEED: THE CARDS: each row of YtaooiinlgnjafaaGreatDoorRows.lean that lists a variable, with what it lists TIED to the program's text (the seventh form; the later family's looks); each row that meets fmt, with fmt's text TOLD by the authors' own Lean function (tested against real Go, not proved from fmt's source: count such statements apart). THE CARD IS WHAT COUNTS. Prove the row's statement (the work); the ties are given (YtaooiinlgnjafaaGreatDoorTie.lean); close each card by the builder's one call (the guide's Derived/Test/ToyasCard.lean, 'card_holds'). Laid BY PROGRAM, IN A SANDBOX (cutbox-door.mjs). By AI agents, Wed Nov 11 2026. No macro, syntax, notation, axiom, sorry.
-/
import Derived.Test.YtaooiinlgnjafaaGreatDoorRows
import GoSem.ClaimSeven
namespace Go.Proofs.YtaooiinlgnjafaaGreatDoor
namespace Rows

/-- THE TIED CARD OF 'truchmanlaw01.DocsParses'. -/
def docsParsesCard : Claim7 := { stood := { row := docsParsesRow, standIns := [], harness := (true, "326ee9cac64f7b66ff2aafdef9d4cc310d0ce7dfd91857ce9f0c879dde691cbd"), looks := true }, kinds := [], alts := [], laidByText := true, laidKinds := [.data, .pinned], laidTests := true, laidLooks := .later }
def DocsParsesCardSaid : Prop := Claim7.holds Tryz.pinned (.plain (OpenSpec.ofChange docsParsesSpec)) docsParsesCard

/-- THE SECOND FORM's CARD OF 'truchmanlaw01.DocsParses'. -/
def docsParsesUptoCard : Claim7 := { stood := { row := docsParsesUptoRow, standIns := [], harness := (true, "326ee9cac64f7b66ff2aafdef9d4cc310d0ce7dfd91857ce9f0c879dde691cbd"), looks := true }, kinds := [], alts := [], laidByText := true, laidKinds := [.data, .pinned], laidTests := true, laidLooks := .later }
def DocsParsesUptoCardSaid : Prop := Claim7.holds Tryz.pinned (.plain (OpenSpec.upto docsParsesSpec)) docsParsesUptoCard
end Rows
end Go.Proofs.YtaooiinlgnjafaaGreatDoor
