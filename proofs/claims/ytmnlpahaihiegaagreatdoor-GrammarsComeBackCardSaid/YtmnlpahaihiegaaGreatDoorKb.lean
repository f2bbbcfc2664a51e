/- A part of the proof of grammarsComeBack (merged by a program). -/
import Derived.Test.YtmnlpahaihiegaaGreatDoorD
namespace Go.Am
open Go
theorem Yl:M.Mv (Je 5 OV) (Ct E (AX E 37) C.f38 [rG,.int .i64 1] ⟨RP,5,5⟩)=true:=by decide +kernel
end Go.Am
