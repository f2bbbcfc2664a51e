/- A part of the proof of beginningsTold (merged by a program). -/
import Derived.Test.YtehhlchbbdaipaaGreatDoorD
namespace Go.Am
open Go
theorem WH:M.Qb (MN 2 LC) (Dj E (AU E 37) C.f82 [FZ,.AQ 1 0 3 (some 3)] ⟨Lc,2,2⟩)=true:=by decide +kernel
end Go.Am
