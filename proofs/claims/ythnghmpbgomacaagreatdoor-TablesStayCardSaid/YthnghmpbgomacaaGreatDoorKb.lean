/- A part of tablesStay. -/
import Derived.Test.YthnghmpbgomacaaGreatDoorD
namespace Go.Am
open Go
theorem rQ:M.UH (PK 5 Vx) (Gt E (Ab E 37) C.f33 [rG,.int .i64 1] ⟨Zj,5,5⟩)=true:=by decide +kernel
end Go.Am
