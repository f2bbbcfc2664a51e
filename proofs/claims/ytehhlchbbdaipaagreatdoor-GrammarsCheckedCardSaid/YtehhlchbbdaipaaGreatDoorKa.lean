/- A part of the proof of GrammarsChecked (merged by a program). -/
import Derived.Test.YtehhlchbbdaipaaGreatDoorD
section
namespace Go.Am
open Go
theorem Qnz : M.allb (Q5e 0 Qew) (Q12 E (Q6 E 37) C.f79 [] ⟨[], 0, 0⟩) = true := by decide +kernel
theorem Qm4 : M.allb (Q5e 0 Q9k) (Q12 E (Q6 E 37) C.f80 [Q1j, .int .i64 3] ⟨[], 0, 0⟩) = true := by decide +kernel
end Go.Am
end
