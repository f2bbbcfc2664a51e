/- A part of the proof of beginningsTold (merged by a program). -/
import Derived.Test.YtehhlchbbdaipaaGreatDoorD
namespace Go.Am
open Go
theorem dQ:M.Qb (MN 0 Sw) (Dj E (AU E 37) C.f81 [FZ,.int .i64 1] ⟨[],0,0⟩)=true:=by decide +kernel
end Go.Am
