/- A part of the proof of grammarsComeBack (merged by a program). -/
import Derived.Test.YtmnlpahaihiegaaGreatDoorX
open Go Go.Am
set_option maxRecDepth 100000
theorem r1:IX 60 60=true:=by decide +kernel
