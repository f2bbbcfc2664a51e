/- A part of tablesStay. -/
import Derived.Test.YthnghmpbgomacaaGreatDoorD
namespace Go.Am
open Go
theorem eX:M.UH (PK 6 OA) (Gt E (Ab E 37) C.f34 [rG,.AU 5 0 3 (some 3)] ⟨vP,6,6⟩)=true:=by decide +kernel
end Go.Am
