/- A part of the proof of grammarTexts (merged by a program). -/
import Derived.Test.YtehhlchbbdaipaaGreatDoorO
import Derived.JoinedOf
namespace Go.Am
open Go Go.Proofs Go.RowKit Go.ChangeShapes Go.WideShapes Go.ChangeAt
open Go.Proofs.YtehhlchbbdaipaaGreatDoor
set_option maxRecDepth 100000
theorem kM:(laidOutB Tryz.prog)=true:=by kernel_rfl
theorem kD:((Rows.grammarTextsRow.inPlace==Tryz.prog.inPlace 5))=true:=by kernel_rfl
end Go.Am
