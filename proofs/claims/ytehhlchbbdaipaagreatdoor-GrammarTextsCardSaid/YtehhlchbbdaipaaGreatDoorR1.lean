/- A part of the proof of grammarTexts (merged by a program). -/
import Derived.Test.YtehhlchbbdaipaaGreatDoorX
open Go Go.Am
set_option maxRecDepth 100000
theorem r1:Gu 60 60=true:=by decide +kernel
