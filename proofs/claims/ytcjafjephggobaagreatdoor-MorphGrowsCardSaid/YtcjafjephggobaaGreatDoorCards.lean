/-
  DERIVED. GIVEN WITH THE SEED: THE CARDS: each row of YtcjafjephggobaaGreatDoorRows.lean that lists a variable, with what it lists TIED to the program's text (the seventh form; the later family's looks); each row that meets fmt, with fmt's text TOLD by the authors' own Lean function (tested against real Go, not proved from fmt's source: count such statements apart). THE CARD IS WHAT COUNTS. Prove the row's statement (the work); the ties are given (YtcjafjephggobaaGreatDoorTie.lean); close each card by the builder's one call (the guide's Derived/Test/ToyasCard.lean, 'card_holds'). Laid BY PROGRAM, IN A SANDBOX (cutbox-door.mjs). By AI agents, Wed Nov 11 2026. No macro, syntax, notation, axiom, sorry.
-/
import Derived.Test.YtcjafjephggobaaGreatDoorRows
import GoSem.ClaimSeven
namespace Go.Proofs.YtcjafjephggobaaGreatDoor
namespace Rows

/-- THE TIED CARD OF 'truchmanlaw02.MorphGrows'. -/
def morphGrowsCard : Claim7 := { stood := { row := morphGrowsRow, standIns := [], harness := (true, "4e1b3cdec5c15ee2053f8dca8005be2b09f01e2c9d0cb9d81f9b760b434b1221"), looks := true }, kinds := [], alts := [], laidByText := true, laidKinds := [.data, .data, .data, .data, .sentinel, .sentinel, .pinned], laidTests := true, laidLooks := .later }
def MorphGrowsCardSaid : Prop := Claim7.holds Tryz.pinned (.plain (OpenSpec.ofChange morphGrowsSpec)) morphGrowsCard

/-- THE TIED CARD OF 'truchmanlaw02.MorphInverse'. -/
def morphInverseCard : Claim7 := { stood := { row := morphInverseRow, standIns := [], harness := (true, "4e1b3cdec5c15ee2053f8dca8005be2b09f01e2c9d0cb9d81f9b760b434b1221"), looks := true }, kinds := [], alts := [], laidByText := true, laidKinds := [.data, .data, .data, .data, .sentinel, .sentinel, .pinned], laidTests := true, laidLooks := .later }
def MorphInverseCardSaid : Prop := Claim7.holds Tryz.pinned (.plain (OpenSpec.ofChange morphInverseSpec)) morphInverseCard

/-- THE TIED CARD OF 'truchmanlaw02.MorphGiven'. -/
def morphGivenCard : Claim7 := { stood := { row := morphGivenRow, standIns := [], harness := (true, "4e1b3cdec5c15ee2053f8dca8005be2b09f01e2c9d0cb9d81f9b760b434b1221"), looks := true }, kinds := [], alts := [], laidByText := true, laidKinds := [.data, .data, .data, .data, .sentinel, .sentinel, .pinned], laidTests := true, laidLooks := .later }
def MorphGivenCardSaid : Prop := Claim7.holds Tryz.pinned (.plain (OpenSpec.ofChange morphGivenSpec)) morphGivenCard

/-- THE TIED CARD OF 'truchmanlaw02.MorphAnalyzes'. -/
def morphAnalyzesCard : Claim7 := { stood := { row := morphAnalyzesRow, standIns := [], harness := (true, "4e1b3cdec5c15ee2053f8dca8005be2b09f01e2c9d0cb9d81f9b760b434b1221"), looks := true }, kinds := [], alts := [], laidByText := true, laidKinds := [.data, .data, .data, .data, .sentinel, .sentinel, .pinned], laidTests := true, laidLooks := .later }
def MorphAnalyzesCardSaid : Prop := Claim7.holds Tryz.pinned (.plain (OpenSpec.ofChange morphAnalyzesSpec)) morphAnalyzesCard

/-- THE SECOND FORM's CARD OF 'truchmanlaw02.MorphGrows'. -/
def morphGrowsUptoCard : Claim7 := { stood := { row := morphGrowsUptoRow, standIns := [], harness := (true, "4e1b3cdec5c15ee2053f8dca8005be2b09f01e2c9d0cb9d81f9b760b434b1221"), looks := true }, kinds := [], alts := [], laidByText := true, laidKinds := [.data, .data, .data, .data, .sentinel, .sentinel, .pinned], laidTests := true, laidLooks := .later }
def MorphGrowsUptoCardSaid : Prop := Claim7.holds Tryz.pinned (.plain (OpenSpec.upto morphGrowsSpec)) morphGrowsUptoCard

/-- THE SECOND FORM's CARD OF 'truchmanlaw02.MorphInverse'. -/
def morphInverseUptoCard : Claim7 := { stood := { row := morphInverseUptoRow, standIns := [], harness := (true, "4e1b3cdec5c15ee2053f8dca8005be2b09f01e2c9d0cb9d81f9b760b434b1221"), looks := true }, kinds := [], alts := [], laidByText := true, laidKinds := [.data, .data, .data, .data, .sentinel, .sentinel, .pinned], laidTests := true, laidLooks := .later }
def MorphInverseUptoCardSaid : Prop := Claim7.holds Tryz.pinned (.plain (OpenSpec.upto morphInverseSpec)) morphInverseUptoCard

/-- THE SECOND FORM's CARD OF 'truchmanlaw02.MorphGiven'. -/
def morphGivenUptoCard : Claim7 := { stood := { row := morphGivenUptoRow, standIns := [], harness := (true, "4e1b3cdec5c15ee2053f8dca8005be2b09f01e2c9d0cb9d81f9b760b434b1221"), looks := true }, kinds := [], alts := [], laidByText := true, laidKinds := [.data, .data, .data, .data, .sentinel, .sentinel, .pinned], laidTests := true, laidLooks := .later }
def MorphGivenUptoCardSaid : Prop := Claim7.holds Tryz.pinned (.plain (OpenSpec.upto morphGivenSpec)) morphGivenUptoCard

/-- THE SECOND FORM's CARD OF 'truchmanlaw02.MorphAnalyzes'. -/
def morphAnalyzesUptoCard : Claim7 := { stood := { row := morphAnalyzesUptoRow, standIns := [], harness := (true, "4e1b3cdec5c15ee2053f8dca8005be2b09f01e2c9d0cb9d81f9b760b434b1221"), looks := true }, kinds := [], alts := [], laidByText := true, laidKinds := [.data, .data, .data, .data, .sentinel, .sentinel, .pinned], laidTests := true, laidLooks := .later }
def MorphAnalyzesUptoCardSaid : Prop := Claim7.holds Tryz.pinned (.plain (OpenSpec.upto morphAnalyzesSpec)) morphAnalyzesUptoCard
end Rows
end Go.Proofs.YtcjafjephggobaaGreatDoor
