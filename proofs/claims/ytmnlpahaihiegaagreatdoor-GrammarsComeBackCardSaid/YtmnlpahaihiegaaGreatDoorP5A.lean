/- A part of the proof of grammarsComeBack (merged by a program). -/
import Derived.Test.YtmnlpahaihiegaaGreatDoorO
import Derived.JoinedOf
namespace Go.Am
open Go Go.Proofs Go.RowKit Go.ChangeShapes Go.WideShapes Go.ChangeAt
open Go.Proofs.YtmnlpahaihiegaaGreatDoor
set_option maxRecDepth 100000
theorem mY:(laidOutB Tryz.prog)=true:=by kernel_rfl
theorem mO:((Rows.grammarsComeBackRow.inPlace==Tryz.prog.inPlace 3))=true:=by kernel_rfl
end Go.Am
