/- A part of tablesStay. -/
import Derived.Test.YthnghmpbgomacaaGreatDoorD
namespace Go.Am
open Go
def Xf(m:M (AV×St)):Option (List Ac):=match m with
 |.ret r=>(match Ce 0 r.2.h Ck r.1 with
  |some (.list _ 3 l)=>Oj l
  |_=>none)
 |_=>none
def dB(o:Option (List Ac)):Bool:=match o with
 |some gs=>decide (gs.length=12)&&gs.all OZ
 |none=>false
theorem nM:dB (Xf (Gt E (Ab E 39) C.f40 [] ⟨[],0,0⟩))=true:=by decide +kernel
end Go.Am
