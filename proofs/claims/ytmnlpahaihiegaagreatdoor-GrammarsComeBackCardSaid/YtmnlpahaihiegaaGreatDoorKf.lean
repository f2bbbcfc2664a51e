/- A part of the proof of grammarsComeBack (merged by a program). -/
import Derived.Test.YtmnlpahaihiegaaGreatDoorD
namespace Go.Am
open Go
theorem WV:M.Mv (Je 11 Na) (Ct E (AX E 37) C.f42 [rG,rT,.AU 9 0 1 (some 1)] ⟨VE,11,11⟩)=true:=by decide +kernel
end Go.Am
