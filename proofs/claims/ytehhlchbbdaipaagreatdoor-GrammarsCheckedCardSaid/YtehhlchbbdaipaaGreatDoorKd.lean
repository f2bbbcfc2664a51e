/- A part of the proof of GrammarsChecked (merged by a program). -/
import Derived.Test.YtehhlchbbdaipaaGreatDoorD
section
namespace Go.Am
open Go
theorem Qhf : M.allb (Q5e 3 Q62) (Q12 E (Q6 E 37) C.f83 [Q1j, .sobj 2 0 2 (some 2), .agg [.int .i64 1, .int .i64 1, .int .i64 1]] ⟨Q9b, 3, 3⟩) = true := by decide +kernel
end Go.Am
end
