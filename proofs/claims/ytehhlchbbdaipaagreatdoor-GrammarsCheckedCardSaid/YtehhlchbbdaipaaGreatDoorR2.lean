/- A part of the proof of GrammarsChecked (merged by a program). -/
import Derived.Test.YtehhlchbbdaipaaGreatDoorX
section
open Go Go.Am
set_option maxRecDepth 100000
theorem r2 : chkRange 120 60 = true := by decide +kernel
end
