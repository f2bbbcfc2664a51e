/-
  DERIVED. GIVEN WITH THE SEED: THE CARDS: each row of YthnghmpbgomacaaGreatDoorRows.lean that lists a variable, with what it lists TIED to the program's text (the seventh form; the later family's looks); each row that meets fmt, with fmt's text TOLD by the authors' own Lean function (tested against real Go, not proved from fmt's source: count such statements apart). THE CARD IS WHAT COUNTS. Prove the row's statement (the work); the ties are given (YthnghmpbgomacaaGreatDoorTie.lean); close each card by the builder's one call (the guide's Derived/Test/ToyasCard.lean, 'card_holds'). Laid BY PROGRAM, IN A SANDBOX (cutbox-door.mjs). By AI agents, Wed Nov 11 2026. No macro, syntax, notation, axiom, sorry.
-/
import Derived.Test.YthnghmpbgomacaaGreatDoorRows
import GoSem.ClaimSeven
namespace Go.Proofs.YthnghmpbgomacaaGreatDoor
namespace Rows

/-- THE TIED CARD OF 'hgkeep1.TablesStay'. -/
def tablesStayCard : Claim7 := { stood := { row := tablesStayRow, standIns := [], harness := (true, "192d5664c24d84b2ce9afe592635e4e59b5cc7181a12128efe360d205b009324"), looks := true }, kinds := [], alts := [], laidByText := true, laidKinds := [.data, .data, .data, .sentinel, .sentinel, .listed, .data, .data], laidTests := true, laidLooks := .later }
def TablesStayCardSaid : Prop := Claim7.holds Tryz.pinned (.plain (OpenSpec.ofChange tablesStaySpec)) tablesStayCard

/-- THE SECOND FORM's CARD OF 'hgkeep1.TablesStay'. -/
def tablesStayUptoCard : Claim7 := { stood := { row := tablesStayUptoRow, standIns := [], harness := (true, "192d5664c24d84b2ce9afe592635e4e59b5cc7181a12128efe360d205b009324"), looks := true }, kinds := [], alts := [], laidByText := true, laidKinds := [.data, .data, .data, .sentinel, .sentinel, .listed, .data, .data], laidTests := true, laidLooks := .later }
def TablesStayUptoCardSaid : Prop := Claim7.holds Tryz.pinned (.plain (OpenSpec.upto tablesStaySpec)) tablesStayUptoCard
end Rows
end Go.Proofs.YthnghmpbgomacaaGreatDoor
