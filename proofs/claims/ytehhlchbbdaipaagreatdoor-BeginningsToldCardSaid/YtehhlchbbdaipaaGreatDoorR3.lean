/- A part of the proof of beginningsTold (merged by a program). -/
import Derived.Test.YtehhlchbbdaipaaGreatDoorX
open Go Go.Am
set_option maxRecDepth 100000
theorem r3:Ij 180 60=true:=by decide +kernel
