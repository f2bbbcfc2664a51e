/- A part of tablesStay. -/
import Derived.Test.YthnghmpbgomacaaGreatDoorD
namespace Go.Am
open Go
theorem Zw:M.UH (PK 7 Ml) (Gt E (Ab E 37) C.f35 [rG,.AU 6 0 2 (some 2),.agg [.int .i64 1,.int .i64 1,.int .i64 1]] ⟨vO,7,7⟩)=true:=by decide +kernel
end Go.Am
