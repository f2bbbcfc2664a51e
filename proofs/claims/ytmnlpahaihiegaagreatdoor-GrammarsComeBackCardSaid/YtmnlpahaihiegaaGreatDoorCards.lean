/-
  DERIVED. GIVEN WITH THE SEED: THE CARDS: each row of YtmnlpahaihiegaaGreatDoorRows.lean that lists a variable, with what it lists TIED to the program's text (the seventh form; the later family's looks); each row that meets fmt, with fmt's text TOLD by the authors' own Lean function (tested against real Go, not proved from fmt's source: count such statements apart). THE CARD IS WHAT COUNTS. Prove the row's statement (the work); the ties are given (YtmnlpahaihiegaaGreatDoorTie.lean); close each card by the builder's one call (the guide's Derived/Test/ToyasCard.lean, 'card_holds'). Laid BY PROGRAM, IN A SANDBOX (cutbox-door.mjs). By AI agents, Wed Nov 11 2026. No macro, syntax, notation, axiom, sorry.
-/
import Derived.Test.YtmnlpahaihiegaaGreatDoorRows
import GoSem.ClaimSeven
namespace Go.Proofs.YtmnlpahaihiegaaGreatDoor
namespace Rows

/-- THE TIED CARD OF 'hgkeep1.GrammarsComeBack'. -/
def grammarsComeBackCard : Claim7 := { stood := { row := grammarsComeBackRow, standIns := [], harness := (true, "a75a021a3375619360b21978a6246035f0df4188e4abd1c4d813fa7a2923171a"), looks := true }, kinds := [], alts := [], laidByText := true, laidKinds := [.data, .data, .data, .data, .sentinel, .sentinel, .listed, .data, .data, .pinned], laidTests := true, laidLooks := .later }
def GrammarsComeBackCardSaid : Prop := Claim7.holds Tryz.pinned (.plain (OpenSpec.ofChange grammarsComeBackSpec)) grammarsComeBackCard

/-- THE SECOND FORM's CARD OF 'hgkeep1.GrammarsComeBack'. -/
def grammarsComeBackUptoCard : Claim7 := { stood := { row := grammarsComeBackUptoRow, standIns := [], harness := (true, "a75a021a3375619360b21978a6246035f0df4188e4abd1c4d813fa7a2923171a"), looks := true }, kinds := [], alts := [], laidByText := true, laidKinds := [.data, .data, .data, .data, .sentinel, .sentinel, .listed, .data, .data, .pinned], laidTests := true, laidLooks := .later }
def GrammarsComeBackUptoCardSaid : Prop := Claim7.holds Tryz.pinned (.plain (OpenSpec.upto grammarsComeBackSpec)) grammarsComeBackUptoCard
end Rows
end Go.Proofs.YtmnlpahaihiegaaGreatDoor
