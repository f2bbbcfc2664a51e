/- A part of the proof of grammarsComeBack (merged by a program). -/
import Derived.Test.YtmnlpahaihiegaaGreatDoorD
namespace Go.Am
open Go
def Pj (m:M (AV × St)):Option (List Ak):=match m with
 |.ret r=>(match Cf 0 r.2.h CV r.1 with
  |some (.list _ 3 l)=>KV l
  |_=>none)
 |_=>none
def TG (o:Option (List Ak)):Bool:=match o with
 |some gs=>decide (gs.length=12)&&gs.all JJ
 |none=>false
theorem XF:TG (Pj (Ct E (AX E 39) C.f12 [] ⟨[],0,0⟩))=true:=by decide +kernel
end Go.Am
