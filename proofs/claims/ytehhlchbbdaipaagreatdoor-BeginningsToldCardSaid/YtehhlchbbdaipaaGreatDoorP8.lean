/- A part of the proof of beginningsTold (merged by a program). -/
import Derived.Test.YtehhlchbbdaipaaGreatDoorO
namespace Go.Am
open Go Go.Proofs Go.RowKit Go.ChangeShapes Go.WideShapes Go.ChangeAt
open Go.Proofs.YtehhlchbbdaipaaGreatDoor
set_option maxRecDepth 100000
theorem xK (os:Os):(JN.filter fun x=>x.2.handleName?.isSome&&x.2.funcsIn?.isNone).all (handleAtB Tryz.prog ((World.doorLaid Tryz.prog 101 os).forCall (fun _ _=>0) ⟨#[],#[.slice none 0 0],[]⟩).memory)=true:=by kernel_rfl
theorem xL (os:Os):funcsRun Tryz.prog ((World.doorLaid Tryz.prog 101 os).forCall (fun _ _=>0) ⟨#[],#[.slice none 0 0],[]⟩).memory 8 ((funcsListed JN).map (·.1))=some ((funcsListed JN).map (·.2.funcsOut)):=by kernel_rfl
end Go.Am
