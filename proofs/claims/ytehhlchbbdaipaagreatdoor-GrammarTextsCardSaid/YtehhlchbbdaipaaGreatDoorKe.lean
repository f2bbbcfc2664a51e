/- A part of the proof of grammarTexts (merged by a program). -/
import Derived.Test.YtehhlchbbdaipaaGreatDoorD
namespace Go.Am
open Go
def PR (m:M (AV × St)):Option (List Aj):=match m with
 |.ret r=>(match CZ 0 r.2.h CJ r.1 with
  |some (.list _ 3 l)=>Jz l
  |_=>none)
 |_=>none
def SS (o:Option (List Aj)):Bool:=match o with
 |some gs=>decide (gs.length=12)&&gs.all Iq
 |none=>false
theorem WM:SS (PR (DJ E (AR E 39) C.f114 [] ⟨[],0,0⟩))=true:=by decide +kernel
end Go.Am
