/- A part of tablesStay. -/
import Derived.Test.YthnghmpbgomacaaGreatDoorO
namespace Go.Am
open Go Go.Proofs Go.RowKit Go.ChangeShapes Go.WideShapes Go.ChangeAt
open Go.Proofs.YthnghmpbgomacaaGreatDoor
set_option maxRecDepth 100000
theorem AD3(a:Os):(World.holding Tryz.prog a ⟨#[],#[],[]⟩).layIfaces Tryz.prog laidAll (World.laidAll Tryz.prog a laidAll)=true:=by kernel_rfl
end Go.Am
