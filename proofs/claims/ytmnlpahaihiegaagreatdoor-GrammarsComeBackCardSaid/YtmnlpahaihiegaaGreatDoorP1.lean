/- A part of the proof of grammarsComeBack (merged by a program). -/
import Derived.Test.YtmnlpahaihiegaaGreatDoorO
namespace Go.Am
open Go Go.Proofs Go.RowKit Go.ChangeShapes Go.WideShapes Go.ChangeAt
open Go.Proofs.YtmnlpahaihiegaaGreatDoor
set_option maxRecDepth 100000
theorem iV (os:Os):((World.laidAll Tryz.prog os laidAll).forCall (fun _ _=>0) ⟨#[],#[.slice none 0 0],[]⟩).variablesZipB Tryz.prog=true:=by kernel_rfl
end Go.Am
