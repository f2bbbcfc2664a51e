/- A part of the proof of grammarTexts (merged by a program). -/
import Derived.Test.YtehhlchbbdaipaaGreatDoorO
import Derived.JoinedOf
namespace Go.Am
open Go Go.Proofs Go.RowKit Go.ChangeShapes Go.WideShapes Go.ChangeAt
open Go.Proofs.YtehhlchbbdaipaaGreatDoor
set_option maxRecDepth 100000
theorem iK:((Rows.grammarTextsRow.named==Tryz.prog.varsNamed 5))=true:=by kernel_rfl
theorem gp:(Tryz.prog.mayEnter)=true:=by kernel_rfl
end Go.Am
