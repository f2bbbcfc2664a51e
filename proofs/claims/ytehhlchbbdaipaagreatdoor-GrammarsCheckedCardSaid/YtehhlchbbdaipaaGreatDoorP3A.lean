/- A part of the proof of GrammarsChecked (merged by a program). -/
import Derived.Test.YtehhlchbbdaipaaGreatDoorO
import Derived.JoinedOf
section
namespace Go.Am
open Go Go.Proofs Go.RowKit Go.ChangeShapes Go.WideShapes Go.ChangeAt
open Go.Proofs.YtehhlchbbdaipaaGreatDoor
set_option maxRecDepth 100000
theorem Qw7 : (laidOutB Tryz.prog) = true := by kernel_rfl
theorem Qvz : ((Rows.grammarsCheckedRow.inPlace == Tryz.prog.inPlace 3)) = true := by kernel_rfl
end Go.Am
end
