/- A part of tablesStay. -/
import Derived.Test.YthnghmpbgomacaaGreatDoorX
open Go Go.Am
set_option maxRecDepth 100000
theorem r3:NR 180 60=true:=by decide +kernel
