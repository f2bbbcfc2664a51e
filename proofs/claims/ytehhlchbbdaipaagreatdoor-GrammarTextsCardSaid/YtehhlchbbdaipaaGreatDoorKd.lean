/- A part of the proof of grammarTexts (merged by a program). -/
import Derived.Test.YtehhlchbbdaipaaGreatDoorD
namespace Go.Am
open Go
theorem RA:M.OO (Kh 3 JF) (DJ E (AR E 37) C.f83 [Dm,.AY 2 0 2 (some 2),.agg [.int .i64 1,.int .i64 1,.int .i64 1]] ⟨Nj,3,3⟩)=true:=by decide +kernel
end Go.Am
