/- A part of tablesStay. -/
import Derived.Test.YthnghmpbgomacaaGreatDoorD
namespace Go.Am
open Go
theorem lG:M.UH (PK 5 Sr) (Gt E (Ab E 37) C.f32 [rG,.int .i64 3] ⟨Zj,5,5⟩)=true:=by decide +kernel
end Go.Am
