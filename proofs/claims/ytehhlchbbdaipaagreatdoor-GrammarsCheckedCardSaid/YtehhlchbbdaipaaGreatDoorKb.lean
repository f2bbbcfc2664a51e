/- A part of the proof of GrammarsChecked (merged by a program). -/
import Derived.Test.YtehhlchbbdaipaaGreatDoorD
section
namespace Go.Am
open Go
theorem Qo4 : M.allb (Q5e 0 Qc3) (Q12 E (Q6 E 37) C.f81 [Q1j, .int .i64 1] ⟨[], 0, 0⟩) = true := by decide +kernel
end Go.Am
end
