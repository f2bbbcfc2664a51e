/- A part of the proof of beginningsTold (merged by a program). -/
import Derived.Test.YtehhlchbbdaipaaGreatDoorO
namespace Go.Am
open Go Go.Proofs Go.RowKit Go.ChangeShapes Go.WideShapes Go.ChangeAt
open Go.Proofs.YtehhlchbbdaipaaGreatDoor
set_option maxRecDepth 100000
theorem oh (os:Os):(DataW.laidRun Tryz.prog ((World.doorLaid Tryz.prog 101 os).forCall (fun _ _=>0) ⟨#[],#[.slice none 0 0],[]⟩).memory 8 ((JN.filter fun x=>x.2.handleName?.isNone).map (·.1))).map (fun x=>decide x.2.Nodup&&laidRowsB Tryz.prog ((World.doorLaid Tryz.prog 101 os).forCall (fun _ _=>0) ⟨#[],#[.slice none 0 0],[]⟩).memory x.2)=some true:=by kernel_rfl
end Go.Am
