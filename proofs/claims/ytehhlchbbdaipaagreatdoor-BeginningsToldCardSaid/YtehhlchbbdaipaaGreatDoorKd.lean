/- A part of the proof of beginningsTold (merged by a program). -/
import Derived.Test.YtehhlchbbdaipaaGreatDoorD
namespace Go.Am
open Go
theorem Tz:M.Qb (MN 3 KF) (Dj E (AU E 37) C.f83 [FZ,.AQ 2 0 2 (some 2),.agg [.int .i64 1,.int .i64 1,.int .i64 1]] ⟨Px,3,3⟩)=true:=by decide +kernel
end Go.Am
