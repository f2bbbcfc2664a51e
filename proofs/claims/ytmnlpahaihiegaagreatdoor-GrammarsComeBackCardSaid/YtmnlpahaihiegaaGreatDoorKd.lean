/- A part of the proof of grammarsComeBack (merged by a program). -/
import Derived.Test.YtmnlpahaihiegaaGreatDoorD
namespace Go.Am
open Go
theorem Ri:M.Mv (Je 7 Hu) (Ct E (AX E 37) C.f40 [rG,.AU 6 0 2 (some 2),.agg [.int .i64 1,.int .i64 1,.int .i64 1]] ⟨ZE,7,7⟩)=true:=by decide +kernel
end Go.Am
