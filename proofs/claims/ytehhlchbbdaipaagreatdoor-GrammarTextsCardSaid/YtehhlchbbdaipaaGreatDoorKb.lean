/- A part of the proof of grammarTexts (merged by a program). -/
import Derived.Test.YtehhlchbbdaipaaGreatDoorD
namespace Go.Am
open Go
theorem XE:M.OO (Kh 0 QH) (DJ E (AR E 37) C.f81 [Dm,.int .i64 1] ⟨[],0,0⟩)=true:=by decide +kernel
end Go.Am
