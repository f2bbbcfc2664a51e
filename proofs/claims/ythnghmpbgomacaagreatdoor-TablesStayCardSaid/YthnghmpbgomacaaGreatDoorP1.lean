/- A part of tablesStay. -/
import Derived.Test.YthnghmpbgomacaaGreatDoorO
namespace Go.Am
open Go Go.Proofs Go.RowKit Go.ChangeShapes Go.WideShapes Go.ChangeAt
open Go.Proofs.YthnghmpbgomacaaGreatDoor
set_option maxRecDepth 100000
theorem ACC(os:Os):((World.laidAll Tryz.prog os laidAll).forCall (fun _ _=>0) ⟨#[],#[.slice none 0 0],[]⟩).variablesZipB Tryz.prog=true:=by kernel_rfl
end Go.Am
