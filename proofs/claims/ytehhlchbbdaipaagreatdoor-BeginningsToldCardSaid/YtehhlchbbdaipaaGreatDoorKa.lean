/- A part of the proof of beginningsTold (merged by a program). -/
import Derived.Test.YtehhlchbbdaipaaGreatDoorD
namespace Go.Am
open Go
theorem dL:M.Qb (MN 0 VY) (Dj E (AU E 37) C.f79 [] ⟨[],0,0⟩)=true:=by decide +kernel
theorem Yx:M.Qb (MN 0 PH) (Dj E (AU E 37) C.f80 [FZ,.int .i64 3] ⟨[],0,0⟩)=true:=by decide +kernel
end Go.Am
