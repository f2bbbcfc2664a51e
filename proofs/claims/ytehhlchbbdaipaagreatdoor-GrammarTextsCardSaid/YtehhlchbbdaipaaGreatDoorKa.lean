/- A part of the proof of grammarTexts (merged by a program). -/
import Derived.Test.YtehhlchbbdaipaaGreatDoorD
namespace Go.Am
open Go
theorem Xt:M.OO (Kh 0 SV) (DJ E (AR E 37) C.f79 [] ⟨[],0,0⟩)=true:=by decide +kernel
theorem VW:M.OO (Kh 0 NI) (DJ E (AR E 37) C.f80 [Dm,.int .i64 3] ⟨[],0,0⟩)=true:=by decide +kernel
end Go.Am
