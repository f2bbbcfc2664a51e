/- A part of tablesStay. -/
import Derived.Test.YthnghmpbgomacaaGreatDoorO
import Derived.JoinedOf
namespace Go.Am
open Go Go.Proofs Go.RowKit Go.ChangeShapes Go.WideShapes Go.ChangeAt
open Go.Proofs.YthnghmpbgomacaaGreatDoor
set_option maxRecDepth 100000
theorem AC5:((Rows.tablesStayRow.named==Tryz.prog.varsNamed 3))=true:=by kernel_rfl
theorem ACt:(Tryz.prog.mayEnter)=true:=by kernel_rfl
end Go.Am
