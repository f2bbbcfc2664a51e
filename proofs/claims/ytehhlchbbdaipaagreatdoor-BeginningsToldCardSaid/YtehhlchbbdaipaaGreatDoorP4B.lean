/- A part of the proof of beginningsTold (merged by a program). -/
import Derived.Test.YtehhlchbbdaipaaGreatDoorO
import Derived.JoinedOf
namespace Go.Am
open Go Go.Proofs Go.RowKit Go.ChangeShapes Go.WideShapes Go.ChangeAt
open Go.Proofs.YtehhlchbbdaipaaGreatDoor
set_option maxRecDepth 100000
theorem qf:((Rows.beginningsToldRow.unfollowed==Tryz.prog.unfollowed 4))=true:=by kernel_rfl
theorem qd:((Rows.beginningsToldRow.recurses==Tryz.prog.recurses 4))=true:=by kernel_rfl
end Go.Am
