/- A part of the proof of beginningsTold (merged by a program). -/
import Derived.Test.YtehhlchbbdaipaaGreatDoorO
import Derived.JoinedOf
namespace Go.Am
open Go Go.Proofs Go.RowKit Go.ChangeShapes Go.WideShapes Go.ChangeAt
open Go.Proofs.YtehhlchbbdaipaaGreatDoor
set_option maxRecDepth 100000
theorem uU:(Rows.beginningsToldRow.wf (OpenSpec.ofChange Rows.beginningsToldSpec))=true:=by kernel_rfl
theorem uS:(mapsRowed Tryz.prog)=true:=by kernel_rfl
theorem uR:(Tryz.f4.params.all (Tryz.prog.readableRec ·))=true:=by kernel_rfl
theorem uQ:(namedTie Tryz.prog Rows.beginningsToldRow.named Rows.beginningsToldSpec.vars)=true:=by kernel_rfl
theorem uP:((Rows.beginningsToldRow.stops==[]))=true:=by kernel_rfl
theorem uO:((Tryz.prog.stops==[]))=true:=by kernel_rfl
theorem uN:((Rows.beginningsToldRow.knobs==[]))=true:=by kernel_rfl
theorem uM:((Tryz.prog.stopKnobs==[]))=true:=by kernel_rfl
theorem qa:((Rows.beginningsToldRow.maps==(Tryz.f4.params.toList++Rows.beginningsToldSpec.plain.varTypes Tryz.prog).any (Tryz.prog.mapsRec ·)))=true:=by kernel_rfl
theorem qZ:((Rows.beginningsToldRow.ifaces==(Tryz.f4.params.toList++Rows.beginningsToldSpec.plain.varTypes Tryz.prog).any (Tryz.prog.ifacesRec ·)))=true:=by kernel_rfl
theorem qY:((Rows.beginningsToldRow.mapsOut==Tryz.prog.mapsAmong Tryz.f4.resultTypes.toList))=true:=by kernel_rfl
theorem qX:((Rows.beginningsToldRow.loops==(Tryz.f4.params.toList++Rows.beginningsToldSpec.plain.varTypes Tryz.prog).any (Tryz.prog.loopsFrom ·)))=true:=by kernel_rfl
theorem qW:((Rows.beginningsToldRow.wideKeys==(Tryz.f4.params.toList++Rows.beginningsToldSpec.plain.varTypes Tryz.prog++Tryz.f4.resultTypes.toList).any (Tryz.prog.wideKeysFrom ·)))=true:=by kernel_rfl
theorem qV:(Rows.beginningsToldSpec.vars.all (Tryz.prog.varReadable ·))=true:=by kernel_rfl
theorem qU:(Tryz.f4.resultTypes.all (fun t=>Tryz.prog.readableRec t&&decide (t<Tryz.prog.types.size)))=true:=by kernel_rfl
theorem qR:((Rows.beginningsToldRow.ifacesOut==Tryz.f4.resultTypes.toList.any (Tryz.prog.ifacesRec ·)))=true:=by kernel_rfl
theorem qQ:((Rows.beginningsToldRow.loopsOut==Tryz.f4.resultTypes.toList.any (Tryz.prog.loopsFrom ·)))=true:=by kernel_rfl
theorem qP:((Rows.beginningsToldRow.plainKeys==Tryz.prog.plainKeys))=true:=by kernel_rfl
theorem qO:(Rows.beginningsToldRow.shortTexts.isNone)=true:=by kernel_rfl
theorem qN:(Tryz.prog.stopsHeard)=true:=by kernel_rfl
theorem qL:((Rows.beginningsToldRow.lifted==Tryz.prog.liftsFinal))=true:=by kernel_rfl
theorem qK:((Tryz.prog.make==some Rows.beginningsToldRow.make))=true:=by kernel_rfl
theorem qJ:((Rows.beginningsToldRow.kinds==(if Rows.beginningsToldRow.domain.isEmpty then [] else Tryz.f4.params.toList.map fun t=>match Tryz.prog.underlying t with|some (.int k)=>some k|_=>none)))=true:=by kernel_rfl
theorem qI:((Rows.beginningsToldRow.pinned==Rows.beginningsToldRow.pinnedBy))=true:=by kernel_rfl
theorem qH:((Rows.beginningsToldRow.veiled==(Tryz.f4.params.toList++Rows.beginningsToldSpec.plain.varTypes Tryz.prog++Tryz.f4.resultTypes.toList).any (Tryz.prog.veiledRec ·)))=true:=by kernel_rfl
theorem qG:(Rows.beginningsToldRow.veiledFits Tryz.prog Tryz.f4.params.toList (Tryz.f4.params.toList++Rows.beginningsToldSpec.plain.varTypes Tryz.prog++Tryz.f4.resultTypes.toList))=true:=by kernel_rfl
theorem tH (os:Os):Input.okWideB Tryz.checked.prog ((World.doorLaid Tryz.prog 101 os).forCall (fun _ _=>0) ⟨#[],#[.slice none 0 0],[]⟩) 4 ⟨#[],#[.slice none 0 0],[]⟩=true:=by kernel_rfl
theorem oq (os:Os)(H:Type)(enc:TypeId × Value->H):Rows.beginningsToldSpec.preB enc Tryz.checked.prog Tryz.f4 [] false ((World.doorLaid Tryz.prog 101 os).forCall (fun _ _=>0) ⟨#[],#[.slice none 0 0],[]⟩).memory #[.slice none 0 0] 8=true:=by kernel_rfl
theorem tC (os:Os)(H:Type)(enc:TypeId × Value->H):Rows.beginningsToldSpec.sizedB enc Tryz.checked.prog Tryz.f4 false ((World.doorLaid Tryz.prog 101 os).forCall (fun _ _=>0) ⟨#[],#[.slice none 0 0],[]⟩).memory #[.slice none 0 0] 8=true:=by kernel_rfl
theorem tJ:Tryz.checked.prog.inits.idxOf? 4=none:=by kernel_rfl
theorem iE:Tryz.prog.funcNamed "hedgelayer/hglaw1.BeginningsTold"=some 4:=by kernel_rfl
theorem sw:Tryz.f4.isWrapper Tryz.prog false "":=by
 unfold Func.isWrapper; first|(rw[if_pos (by decide +kernel)]; kernel_rfl)|(rw[if_neg (by decide +kernel)]; exact⟨rfl,rfl⟩)
theorem uX:Tryz.f4.isInstance Tryz.prog Rows.beginningsToldRow.origin Rows.beginningsToldRow.targs:=of_decide_eq_true (by kernel_rfl)
end Go.Am
