/- A part of the proof of beginningsTold (merged by a program). -/
import Derived.Test.YtehhlchbbdaipaaGreatDoorO
import Derived.JoinedOf
namespace Go.Am
open Go Go.Proofs Go.RowKit Go.ChangeShapes Go.WideShapes Go.ChangeAt
open Go.Proofs.YtehhlchbbdaipaaGreatDoor
set_option maxRecDepth 100000
theorem uT:(laidOutB Tryz.prog)=true:=by kernel_rfl
theorem uL:((Rows.beginningsToldRow.inPlace==Tryz.prog.inPlace 4))=true:=by kernel_rfl
end Go.Am
