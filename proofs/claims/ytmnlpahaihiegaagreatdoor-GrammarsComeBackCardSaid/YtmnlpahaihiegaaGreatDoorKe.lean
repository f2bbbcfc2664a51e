/- A part of the proof of grammarsComeBack (merged by a program). -/
import Derived.Test.YtmnlpahaihiegaaGreatDoorD
namespace Go.Am
open Go
theorem Wo:M.Mv (Je 9 Nb) (Ct E (AX E 37) C.f41 [rG,.AU 7 0 1 (some 1)] ⟨YE,9,9⟩)=true:=by decide +kernel
end Go.Am
