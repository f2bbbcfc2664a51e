/-
  DERIVED. GIVEN WITH THE SEED: THE CARDS: each row of YtehhlchbbdaipaaGreatDoorRows.lean that lists a variable, with what it lists TIED to the program's text (the seventh form; the later family's looks); each row that meets fmt, with fmt's text TOLD by the authors' own Lean function (tested against real Go, not proved from fmt's source: count such statements apart). THE CARD IS WHAT COUNTS. Prove the row's statement (the work); the ties are given (YtehhlchbbdaipaaGreatDoorTie.lean); close each card by the builder's one call (the guide's Derived/Test/ToyasCard.lean, 'card_holds'). Laid BY PROGRAM, IN A SANDBOX (cutbox-door.mjs). By AI agents, Wed Nov 11 2026. No macro, syntax, notation, axiom, sorry.
-/
import Derived.Test.YtehhlchbbdaipaaGreatDoorRows
import GoSem.ClaimSeven
namespace Go.Proofs.YtehhlchbbdaipaaGreatDoor
namespace Rows

/-- THE TIED CARD OF 'hglaw1.GrammarsChecked'. -/
def grammarsCheckedCard : Claim7 := { stood := { row := grammarsCheckedRow, standIns := [], harness := (true, "f35158090d640256663454e53fc3c4aea83be1eecd83e83c9f8fda669e346cb6"), looks := true }, kinds := [], alts := [], laidByText := true, laidKinds := [.data, .data, .data, .sentinel, .sentinel, .listed, .data, .data], laidTests := true, laidLooks := .later }
def GrammarsCheckedCardSaid : Prop := Claim7.holds Tryz.pinned (.plain (OpenSpec.ofChange grammarsCheckedSpec)) grammarsCheckedCard

/-- THE TIED CARD OF 'hglaw1.BeginningsTold'. -/
def beginningsToldCard : Claim7 := { stood := { row := beginningsToldRow, standIns := [], harness := (true, "f35158090d640256663454e53fc3c4aea83be1eecd83e83c9f8fda669e346cb6"), looks := true }, kinds := [], alts := [], laidByText := true, laidKinds := [.data, .data, .data, .sentinel, .sentinel, .listed, .data, .data], laidTests := true, laidLooks := .later }
def BeginningsToldCardSaid : Prop := Claim7.holds Tryz.pinned (.plain (OpenSpec.ofChange beginningsToldSpec)) beginningsToldCard

/-- THE TIED CARD OF 'hglaw1.GrammarTexts'. -/
def grammarTextsCard : Claim7 := { stood := { row := grammarTextsRow, standIns := [], harness := (true, "f35158090d640256663454e53fc3c4aea83be1eecd83e83c9f8fda669e346cb6"), looks := true }, kinds := [], alts := [], laidByText := true, laidKinds := [.data, .data, .data, .data, .sentinel, .sentinel, .listed, .data, .data, .pinned], laidTests := true, laidLooks := .later }
def GrammarTextsCardSaid : Prop := Claim7.holds Tryz.pinned (.plain (OpenSpec.ofChange grammarTextsSpec)) grammarTextsCard

/-- THE SECOND FORM's CARD OF 'hglaw1.GrammarsChecked'. -/
def grammarsCheckedUptoCard : Claim7 := { stood := { row := grammarsCheckedUptoRow, standIns := [], harness := (true, "f35158090d640256663454e53fc3c4aea83be1eecd83e83c9f8fda669e346cb6"), looks := true }, kinds := [], alts := [], laidByText := true, laidKinds := [.data, .data, .data, .sentinel, .sentinel, .listed, .data, .data], laidTests := true, laidLooks := .later }
def GrammarsCheckedUptoCardSaid : Prop := Claim7.holds Tryz.pinned (.plain (OpenSpec.upto grammarsCheckedSpec)) grammarsCheckedUptoCard

/-- THE SECOND FORM's CARD OF 'hglaw1.BeginningsTold'. -/
def beginningsToldUptoCard : Claim7 := { stood := { row := beginningsToldUptoRow, standIns := [], harness := (true, "f35158090d640256663454e53fc3c4aea83be1eecd83e83c9f8fda669e346cb6"), looks := true }, kinds := [], alts := [], laidByText := true, laidKinds := [.data, .data, .data, .sentinel, .sentinel, .listed, .data, .data], laidTests := true, laidLooks := .later }
def BeginningsToldUptoCardSaid : Prop := Claim7.holds Tryz.pinned (.plain (OpenSpec.upto beginningsToldSpec)) beginningsToldUptoCard

/-- THE SECOND FORM's CARD OF 'hglaw1.GrammarTexts'. -/
def grammarTextsUptoCard : Claim7 := { stood := { row := grammarTextsUptoRow, standIns := [], harness := (true, "f35158090d640256663454e53fc3c4aea83be1eecd83e83c9f8fda669e346cb6"), looks := true }, kinds := [], alts := [], laidByText := true, laidKinds := [.data, .data, .data, .data, .sentinel, .sentinel, .listed, .data, .data, .pinned], laidTests := true, laidLooks := .later }
def GrammarTextsUptoCardSaid : Prop := Claim7.holds Tryz.pinned (.plain (OpenSpec.upto grammarTextsSpec)) grammarTextsUptoCard
end Rows
end Go.Proofs.YtehhlchbbdaipaaGreatDoor
