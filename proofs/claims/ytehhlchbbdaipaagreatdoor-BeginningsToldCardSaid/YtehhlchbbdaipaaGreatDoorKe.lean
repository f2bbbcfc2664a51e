/- A part of the proof of beginningsTold (merged by a program). -/
import Derived.Test.YtehhlchbbdaipaaGreatDoorD
namespace Go.Am
open Go
def Ri (m:M (AV × St)):Option (List AX):=match m with
 |.ret r=>(match Bp 0 r.2.h Bu r.1 with
  |some (.list _ 3 l)=>LH l
  |_=>none)
 |_=>none
def VW (o:Option (List AX)):Bool:=match o with
 |some gs=>decide (gs.length=12)&&gs.all Js
 |none=>false
theorem Zm:VW (Ri (Dj E (AU E 39) C.f114 [] ⟨[],0,0⟩))=true:=by decide +kernel
end Go.Am
