/-
  DERIVED. GIVEN WITH THE SEED: THE CARDS: each row of YtaigoffbhbpplaaGreatDoorRows.lean that lists a variable, with what it lists TIED to the program's text (the seventh form; the later family's looks); each row that meets fmt, with fmt's text TOLD by the authors' own Lean function (tested against real Go, not proved from fmt's source: count such statements apart). THE CARD IS WHAT COUNTS. Prove the row's statement (the work); the ties are given (YtaigoffbhbpplaaGreatDoorTie.lean); close each card by the builder's one call (the guide's Derived/Test/ToyasCard.lean, 'card_holds'). Laid BY PROGRAM, IN A SANDBOX (cutbox-door.mjs). By AI agents, Wed Nov 11 2026. No macro, syntax, notation, axiom, sorry.
-/
import Derived.Test.YtaigoffbhbpplaaGreatDoorRows
import GoSem.ClaimSeven
namespace Go.Proofs.YtaigoffbhbpplaaGreatDoor
namespace Rows

/-- THE TIED CARD OF 'truchmanlaw02.MorphTexts'. -/
def morphTextsCard : Claim7 := { stood := { row := morphTextsRow, standIns := [], harness := (true, "c0bbf4eb6d57122a2f5b56078a39d1495735e933fb04513ad8c142594a03b65d"), looks := true }, kinds := [], alts := [], laidByText := true, laidKinds := [.data, .data, .data, .data, .sentinel, .sentinel, .pinned], laidTests := true, laidLooks := .later }
def MorphTextsCardSaid : Prop := Claim7.holds Tryz.pinned (.plain (OpenSpec.ofChange morphTextsSpec)) morphTextsCard

/-- THE TIED CARD OF 'truchmanlaw02.MorphBack'. -/
def morphBackCard : Claim7 := { stood := { row := morphBackRow, standIns := [], harness := (true, "c0bbf4eb6d57122a2f5b56078a39d1495735e933fb04513ad8c142594a03b65d"), looks := true }, kinds := [], alts := [], laidByText := true, laidKinds := [.data, .data, .data, .data, .sentinel, .sentinel, .pinned], laidTests := true, laidLooks := .later }
def MorphBackCardSaid : Prop := Claim7.holds Tryz.pinned (.plain (OpenSpec.ofChange morphBackSpec)) morphBackCard

/-- THE TIED CARD OF 'truchmanlaw02.MorphWords'. -/
def morphWordsCard : Claim7 := { stood := { row := morphWordsRow, standIns := [], harness := (true, "c0bbf4eb6d57122a2f5b56078a39d1495735e933fb04513ad8c142594a03b65d"), looks := true }, kinds := [], alts := [], laidByText := true, laidKinds := [.data, .data, .data, .data, .sentinel, .sentinel, .pinned], laidTests := true, laidLooks := .later }
def MorphWordsCardSaid : Prop := Claim7.holds Tryz.pinned (.plain (OpenSpec.ofChange morphWordsSpec)) morphWordsCard

/-- THE TIED CARD OF 'truchmanlaw02.MorphNil'. -/
def morphNilCard : Claim7 := { stood := { row := morphNilRow, standIns := [], harness := (true, "c0bbf4eb6d57122a2f5b56078a39d1495735e933fb04513ad8c142594a03b65d"), looks := true }, kinds := [], alts := [], laidByText := true, laidKinds := [.data, .data, .data, .data, .sentinel, .sentinel, .pinned], laidTests := true, laidLooks := .later }
def MorphNilCardSaid : Prop := Claim7.holds Tryz.pinned (.plain (OpenSpec.ofChange morphNilSpec)) morphNilCard

/-- THE TIED CARD OF 'truchmanlaw02.MorphAnalyzes'. -/
def morphAnalyzesCard : Claim7 := { stood := { row := morphAnalyzesRow, standIns := [], harness := (true, "c0bbf4eb6d57122a2f5b56078a39d1495735e933fb04513ad8c142594a03b65d"), looks := true }, kinds := [], alts := [], laidByText := true, laidKinds := [.data, .data, .data, .data, .sentinel, .sentinel, .pinned], laidTests := true, laidLooks := .later }
def MorphAnalyzesCardSaid : Prop := Claim7.holds Tryz.pinned (.plain (OpenSpec.ofChange morphAnalyzesSpec)) morphAnalyzesCard

/-- THE SECOND FORM's CARD OF 'truchmanlaw02.MorphTexts'. -/
def morphTextsUptoCard : Claim7 := { stood := { row := morphTextsUptoRow, standIns := [], harness := (true, "c0bbf4eb6d57122a2f5b56078a39d1495735e933fb04513ad8c142594a03b65d"), looks := true }, kinds := [], alts := [], laidByText := true, laidKinds := [.data, .data, .data, .data, .sentinel, .sentinel, .pinned], laidTests := true, laidLooks := .later }
def MorphTextsUptoCardSaid : Prop := Claim7.holds Tryz.pinned (.plain (OpenSpec.upto morphTextsSpec)) morphTextsUptoCard

/-- THE SECOND FORM's CARD OF 'truchmanlaw02.MorphBack'. -/
def morphBackUptoCard : Claim7 := { stood := { row := morphBackUptoRow, standIns := [], harness := (true, "c0bbf4eb6d57122a2f5b56078a39d1495735e933fb04513ad8c142594a03b65d"), looks := true }, kinds := [], alts := [], laidByText := true, laidKinds := [.data, .data, .data, .data, .sentinel, .sentinel, .pinned], laidTests := true, laidLooks := .later }
def MorphBackUptoCardSaid : Prop := Claim7.holds Tryz.pinned (.plain (OpenSpec.upto morphBackSpec)) morphBackUptoCard

/-- THE SECOND FORM's CARD OF 'truchmanlaw02.MorphWords'. -/
def morphWordsUptoCard : Claim7 := { stood := { row := morphWordsUptoRow, standIns := [], harness := (true, "c0bbf4eb6d57122a2f5b56078a39d1495735e933fb04513ad8c142594a03b65d"), looks := true }, kinds := [], alts := [], laidByText := true, laidKinds := [.data, .data, .data, .data, .sentinel, .sentinel, .pinned], laidTests := true, laidLooks := .later }
def MorphWordsUptoCardSaid : Prop := Claim7.holds Tryz.pinned (.plain (OpenSpec.upto morphWordsSpec)) morphWordsUptoCard

/-- THE SECOND FORM's CARD OF 'truchmanlaw02.MorphNil'. -/
def morphNilUptoCard : Claim7 := { stood := { row := morphNilUptoRow, standIns := [], harness := (true, "c0bbf4eb6d57122a2f5b56078a39d1495735e933fb04513ad8c142594a03b65d"), looks := true }, kinds := [], alts := [], laidByText := true, laidKinds := [.data, .data, .data, .data, .sentinel, .sentinel, .pinned], laidTests := true, laidLooks := .later }
def MorphNilUptoCardSaid : Prop := Claim7.holds Tryz.pinned (.plain (OpenSpec.upto morphNilSpec)) morphNilUptoCard

/-- THE SECOND FORM's CARD OF 'truchmanlaw02.MorphAnalyzes'. -/
def morphAnalyzesUptoCard : Claim7 := { stood := { row := morphAnalyzesUptoRow, standIns := [], harness := (true, "c0bbf4eb6d57122a2f5b56078a39d1495735e933fb04513ad8c142594a03b65d"), looks := true }, kinds := [], alts := [], laidByText := true, laidKinds := [.data, .data, .data, .data, .sentinel, .sentinel, .pinned], laidTests := true, laidLooks := .later }
def MorphAnalyzesUptoCardSaid : Prop := Claim7.holds Tryz.pinned (.plain (OpenSpec.upto morphAnalyzesSpec)) morphAnalyzesUptoCard
end Rows
end Go.Proofs.YtaigoffbhbpplaaGreatDoor
