/- A part of tablesStay. -/
import Derived.Test.YthnghmpbgomacaaGreatDoorO
import Derived.JoinedOf
namespace Go.Am
open Go Go.Proofs Go.RowKit Go.ChangeShapes Go.WideShapes Go.ChangeAt
open Go.Proofs.YthnghmpbgomacaaGreatDoor
set_option maxRecDepth 100000
theorem AFj:(laidOutB Tryz.prog)=true:=by kernel_rfl
theorem AFb:((Rows.tablesStayRow.inPlace==Tryz.prog.inPlace 3))=true:=by kernel_rfl
end Go.Am
