/-
  DERIVED. GIVEN WITH THE SEED: THE CARDS: each row of YtjmdmfmkldhcfaaGreatDoorRows.lean that lists a variable, with what it lists TIED to the program's text (the seventh form; the later family's looks); each row that meets fmt, with fmt's text TOLD by the authors' own Lean function (tested against real Go, not proved from fmt's source: count such statements apart). THE CARD IS WHAT COUNTS. Prove the row's statement (the work); the ties are given (YtjmdmfmkldhcfaaGreatDoorTie.lean); close each card by the builder's one call (the guide's Derived/Test/ToyasCard.lean, 'card_holds'). Laid BY PROGRAM, IN A SANDBOX (cutbox-door.mjs). By AI agents, Wed Nov 11 2026. No macro, syntax, notation, axiom, sorry.
-/
import Derived.Test.YtjmdmfmkldhcfaaGreatDoorRows
import GoSem.ClaimSeven
namespace Go.Proofs.YtjmdmfmkldhcfaaGreatDoor
namespace Rows

/-- THE TIED CARD OF 'truchmanlaw02.MorphTexts'. -/
def morphTextsCard : Claim7 := { stood := { row := morphTextsRow, standIns := [], harness := (true, "a742089dacf5d3af19dc779e2d0eff63f266b285b5f6d897919c7416793f9b09"), looks := true }, kinds := [], alts := [], laidByText := true, laidKinds := [.data, .data, .data, .data, .sentinel, .sentinel, .pinned], laidTests := true, laidLooks := .later }
def MorphTextsCardSaid : Prop := Claim7.holds Tryz.pinned (.plain (OpenSpec.ofChange morphTextsSpec)) morphTextsCard

/-- THE TIED CARD OF 'truchmanlaw02.MorphBack'. -/
def morphBackCard : Claim7 := { stood := { row := morphBackRow, standIns := [], harness := (true, "a742089dacf5d3af19dc779e2d0eff63f266b285b5f6d897919c7416793f9b09"), looks := true }, kinds := [], alts := [], laidByText := true, laidKinds := [.data, .data, .data, .data, .sentinel, .sentinel, .pinned], laidTests := true, laidLooks := .later }
def MorphBackCardSaid : Prop := Claim7.holds Tryz.pinned (.plain (OpenSpec.ofChange morphBackSpec)) morphBackCard

/-- THE TIED CARD OF 'truchmanlaw02.MorphBuilds'. -/
def morphBuildsCard : Claim7 := { stood := { row := morphBuildsRow, standIns := [], harness := (true, "a742089dacf5d3af19dc779e2d0eff63f266b285b5f6d897919c7416793f9b09"), looks := true }, kinds := [], alts := [], laidByText := true, laidKinds := [.data, .data, .data, .data, .sentinel, .sentinel, .pinned], laidTests := true, laidLooks := .later }
def MorphBuildsCardSaid : Prop := Claim7.holds Tryz.pinned (.plain (OpenSpec.ofChange morphBuildsSpec)) morphBuildsCard

/-- THE TIED CARD OF 'truchmanlaw02.MorphGenerates'. -/
def morphGeneratesCard : Claim7 := { stood := { row := morphGeneratesRow, standIns := [], harness := (true, "a742089dacf5d3af19dc779e2d0eff63f266b285b5f6d897919c7416793f9b09"), looks := true }, kinds := [], alts := [], laidByText := true, laidKinds := [.data, .data, .data, .data, .sentinel, .sentinel, .pinned], laidTests := true, laidLooks := .later }
def MorphGeneratesCardSaid : Prop := Claim7.holds Tryz.pinned (.plain (OpenSpec.ofChange morphGeneratesSpec)) morphGeneratesCard

/-- THE SECOND FORM's CARD OF 'truchmanlaw02.MorphTexts'. -/
def morphTextsUptoCard : Claim7 := { stood := { row := morphTextsUptoRow, standIns := [], harness := (true, "a742089dacf5d3af19dc779e2d0eff63f266b285b5f6d897919c7416793f9b09"), looks := true }, kinds := [], alts := [], laidByText := true, laidKinds := [.data, .data, .data, .data, .sentinel, .sentinel, .pinned], laidTests := true, laidLooks := .later }
def MorphTextsUptoCardSaid : Prop := Claim7.holds Tryz.pinned (.plain (OpenSpec.upto morphTextsSpec)) morphTextsUptoCard

/-- THE SECOND FORM's CARD OF 'truchmanlaw02.MorphBack'. -/
def morphBackUptoCard : Claim7 := { stood := { row := morphBackUptoRow, standIns := [], harness := (true, "a742089dacf5d3af19dc779e2d0eff63f266b285b5f6d897919c7416793f9b09"), looks := true }, kinds := [], alts := [], laidByText := true, laidKinds := [.data, .data, .data, .data, .sentinel, .sentinel, .pinned], laidTests := true, laidLooks := .later }
def MorphBackUptoCardSaid : Prop := Claim7.holds Tryz.pinned (.plain (OpenSpec.upto morphBackSpec)) morphBackUptoCard

/-- THE SECOND FORM's CARD OF 'truchmanlaw02.MorphBuilds'. -/
def morphBuildsUptoCard : Claim7 := { stood := { row := morphBuildsUptoRow, standIns := [], harness := (true, "a742089dacf5d3af19dc779e2d0eff63f266b285b5f6d897919c7416793f9b09"), looks := true }, kinds := [], alts := [], laidByText := true, laidKinds := [.data, .data, .data, .data, .sentinel, .sentinel, .pinned], laidTests := true, laidLooks := .later }
def MorphBuildsUptoCardSaid : Prop := Claim7.holds Tryz.pinned (.plain (OpenSpec.upto morphBuildsSpec)) morphBuildsUptoCard

/-- THE SECOND FORM's CARD OF 'truchmanlaw02.MorphGenerates'. -/
def morphGeneratesUptoCard : Claim7 := { stood := { row := morphGeneratesUptoRow, standIns := [], harness := (true, "a742089dacf5d3af19dc779e2d0eff63f266b285b5f6d897919c7416793f9b09"), looks := true }, kinds := [], alts := [], laidByText := true, laidKinds := [.data, .data, .data, .data, .sentinel, .sentinel, .pinned], laidTests := true, laidLooks := .later }
def MorphGeneratesUptoCardSaid : Prop := Claim7.holds Tryz.pinned (.plain (OpenSpec.upto morphGeneratesSpec)) morphGeneratesUptoCard
end Rows
end Go.Proofs.YtjmdmfmkldhcfaaGreatDoor
