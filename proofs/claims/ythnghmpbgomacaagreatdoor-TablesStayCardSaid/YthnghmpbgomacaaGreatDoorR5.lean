/- A part of tablesStay. -/
import Derived.Test.YthnghmpbgomacaaGreatDoorX
open Go Go.Am
set_option maxRecDepth 100000
theorem r5:NR 300 60=true:=by decide +kernel
