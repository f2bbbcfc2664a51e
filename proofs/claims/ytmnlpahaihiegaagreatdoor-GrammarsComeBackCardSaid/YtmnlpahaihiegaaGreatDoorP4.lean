/- A part of the proof of grammarsComeBack (merged by a program). -/
import Derived.Test.YtmnlpahaihiegaaGreatDoorO
namespace Go.Am
open Go Go.Proofs Go.RowKit Go.ChangeShapes Go.WideShapes Go.ChangeAt
open Go.Proofs.YtmnlpahaihiegaaGreatDoor
set_option maxRecDepth 100000
theorem lS (os:Os):(World.holding Tryz.prog os ⟨#[],#[],[]⟩).layIfaces Tryz.prog laidAll (World.laidAll Tryz.prog os laidAll)=true:=by kernel_rfl
end Go.Am
