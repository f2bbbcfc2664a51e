/- A part of tablesStay. -/
import Derived.Test.YthnghmpbgomacaaGreatDoorX
open Go Go.Am
set_option maxRecDepth 100000
theorem r0:NR 0 60=true:=by decide +kernel
