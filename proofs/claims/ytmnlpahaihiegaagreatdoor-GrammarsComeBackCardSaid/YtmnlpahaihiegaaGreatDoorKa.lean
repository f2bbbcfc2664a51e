/- A part of the proof of grammarsComeBack (merged by a program). -/
import Derived.Test.YtmnlpahaihiegaaGreatDoorD
namespace Go.Am
open Go
theorem WH:M.Mv (Je 5 Lx) (Ct E (AX E 37) C.f37 [rG,.int .i64 3] ⟨RP,5,5⟩)=true:=by decide +kernel
end Go.Am
