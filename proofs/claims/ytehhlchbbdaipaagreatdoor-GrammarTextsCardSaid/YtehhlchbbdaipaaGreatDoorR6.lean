/- A part of the proof of grammarTexts (merged by a program). -/
import Derived.Test.YtehhlchbbdaipaaGreatDoorX
open Go Go.Am
set_option maxRecDepth 100000
theorem r6:Gu 360 60=true:=by decide +kernel
