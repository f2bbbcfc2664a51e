/- A part of the proof of grammarsComeBack (merged by a program). -/
import Derived.Test.YtmnlpahaihiegaaGreatDoorD
namespace Go.Am
open Go
theorem Tm:M.Mv (Je 6 JD) (Ct E (AX E 37) C.f39 [rG,.AU 5 0 3 (some 3)] ⟨aA,6,6⟩)=true:=by decide +kernel
end Go.Am
