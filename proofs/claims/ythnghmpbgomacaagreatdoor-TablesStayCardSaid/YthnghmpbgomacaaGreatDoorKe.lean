/- A part of tablesStay. -/
import Derived.Test.YthnghmpbgomacaaGreatDoorD
namespace Go.Am
open Go
theorem mW:M.UH (PK 9 Us) (Gt E (Ab E 37) C.f36 [rG,.AU 7 0 1 (some 1)] ⟨rE,9,9⟩)=true:=by decide +kernel
end Go.Am
