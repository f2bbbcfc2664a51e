/- A part of tablesStay. -/
import Derived.Test.YthnghmpbgomacaaGreatDoorO
import Derived.JoinedOf
namespace Go.Am
open Go Go.Proofs Go.RowKit Go.ChangeShapes Go.WideShapes Go.ChangeAt
open Go.Proofs.YthnghmpbgomacaaGreatDoor
set_option maxRecDepth 100000
theorem AC7:((Rows.tablesStayRow.unfollowed==Tryz.prog.unfollowed 3))=true:=by kernel_rfl
theorem AC6:((Rows.tablesStayRow.recurses==Tryz.prog.recurses 3))=true:=by kernel_rfl
end Go.Am
