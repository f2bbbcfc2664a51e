/- A part of tablesStay. -/
import Derived.Test.YthnghmpbgomacaaGreatDoorD
namespace Go.Am
open Go
theorem mG:M.UH (PK 11 Ur) (Gt E (Ab E 37) C.f37 [rG,rT,.AU 9 0 1 (some 1)] ⟨kz,11,11⟩)=true:=by decide +kernel
end Go.Am
