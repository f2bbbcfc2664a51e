/- A part of the proof of beginningsTold (merged by a program). -/
import Derived.Test.YtehhlchbbdaipaaGreatDoorO
import Derived.JoinedOf
namespace Go.Am
open Go Go.Proofs Go.RowKit Go.ChangeShapes Go.WideShapes Go.ChangeAt
open Go.Proofs.YtehhlchbbdaipaaGreatDoor
set_option maxRecDepth 100000
theorem qb:((Rows.beginningsToldRow.named==Tryz.prog.varsNamed 4))=true:=by kernel_rfl
theorem qM:(Tryz.prog.mayEnter)=true:=by kernel_rfl
end Go.Am
