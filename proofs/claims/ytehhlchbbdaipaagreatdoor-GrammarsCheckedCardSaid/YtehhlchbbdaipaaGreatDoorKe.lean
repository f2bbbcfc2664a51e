/- A part of the proof of GrammarsChecked (merged by a program). -/
import Derived.Test.YtehhlchbbdaipaaGreatDoorD
section
namespace Go.Am
open Go
def Qct (m : M (AV × St)) : Option (List Q7) := match m with
 | .ret r => (match thaw 0 r.2.h Q0c r.1 with
  | some (.list _ 3 l) => Q6h l
  | _ => none)
 | _ => none
def Qev (o : Option (List Q7)) : Bool := match o with
 | some gs => decide (gs.length = 12) && gs.all Q5u
 | none => false
theorem Qn0 : Qev (Qct (Q12 E (Q6 E 39) C.f114 [] ⟨[], 0, 0⟩)) = true := by decide +kernel
end Go.Am
end
