/- A part of the proof of GrammarsChecked (merged by a program). -/
import Derived.Test.YtehhlchbbdaipaaGreatDoorD
section
namespace Go.Am
open Go
theorem Qjq : M.allb (Q5e 2 Q72) (Q12 E (Q6 E 37) C.f82 [Q1j, .sobj 1 0 3 (some 3)] ⟨Q5t, 2, 2⟩) = true := by decide +kernel
end Go.Am
end
