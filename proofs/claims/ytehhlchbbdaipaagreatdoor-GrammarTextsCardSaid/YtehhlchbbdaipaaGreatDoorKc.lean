/- A part of the proof of grammarTexts (merged by a program). -/
import Derived.Test.YtehhlchbbdaipaaGreatDoorD
namespace Go.Am
open Go
theorem TD:M.OO (Kh 2 Jt) (DJ E (AR E 37) C.f82 [Dm,.AY 1 0 3 (some 3)] ⟨KP,2,2⟩)=true:=by decide +kernel
end Go.Am
