/- A part of the proof of grammarsComeBack (merged by a program). -/
import Derived.Test.YtmnlpahaihiegaaGreatDoorO
import Derived.JoinedOf
namespace Go.Am
open Go Go.Proofs Go.RowKit Go.ChangeShapes Go.WideShapes Go.ChangeAt
open Go.Proofs.YtmnlpahaihiegaaGreatDoor
set_option maxRecDepth 100000
theorem mZ:(Rows.grammarsComeBackRow.wf (OpenSpec.ofChange Rows.grammarsComeBackSpec))=true:=by kernel_rfl
theorem mX:(mapsRowed Tryz.prog)=true:=by kernel_rfl
theorem mW:(Tryz.f3.params.all (Tryz.prog.readableRec ·))=true:=by kernel_rfl
theorem mV:(namedTie Tryz.prog Rows.grammarsComeBackRow.named Rows.grammarsComeBackSpec.vars)=true:=by kernel_rfl
theorem mU:((Rows.grammarsComeBackRow.stops==[]))=true:=by kernel_rfl
theorem mR:((Tryz.prog.stops==[]))=true:=by kernel_rfl
theorem mQ:((Rows.grammarsComeBackRow.knobs==[]))=true:=by kernel_rfl
theorem mP:((Tryz.prog.stopKnobs==[]))=true:=by kernel_rfl
theorem jk:((Rows.grammarsComeBackRow.maps==(Tryz.f3.params.toList++Rows.grammarsComeBackSpec.plain.varTypes Tryz.prog).any (Tryz.prog.mapsRec ·)))=true:=by kernel_rfl
theorem ji:((Rows.grammarsComeBackRow.ifaces==(Tryz.f3.params.toList++Rows.grammarsComeBackSpec.plain.varTypes Tryz.prog).any (Tryz.prog.ifacesRec ·)))=true:=by kernel_rfl
theorem jh:((Rows.grammarsComeBackRow.mapsOut==Tryz.prog.mapsAmong Tryz.f3.resultTypes.toList))=true:=by kernel_rfl
theorem jg:((Rows.grammarsComeBackRow.loops==(Tryz.f3.params.toList++Rows.grammarsComeBackSpec.plain.varTypes Tryz.prog).any (Tryz.prog.loopsFrom ·)))=true:=by kernel_rfl
theorem jf:((Rows.grammarsComeBackRow.wideKeys==(Tryz.f3.params.toList++Rows.grammarsComeBackSpec.plain.varTypes Tryz.prog++Tryz.f3.resultTypes.toList).any (Tryz.prog.wideKeysFrom ·)))=true:=by kernel_rfl
theorem je:(Rows.grammarsComeBackSpec.vars.all (Tryz.prog.varReadable ·))=true:=by kernel_rfl
theorem jd:(Tryz.f3.resultTypes.all (fun t=>Tryz.prog.readableRec t&&decide (t<Tryz.prog.types.size)))=true:=by kernel_rfl
theorem jc:((Rows.grammarsComeBackRow.ifacesOut==Tryz.f3.resultTypes.toList.any (Tryz.prog.ifacesRec ·)))=true:=by kernel_rfl
theorem jb:((Rows.grammarsComeBackRow.loopsOut==Tryz.f3.resultTypes.toList.any (Tryz.prog.loopsFrom ·)))=true:=by kernel_rfl
theorem ja:((Rows.grammarsComeBackRow.plainKeys==Tryz.prog.plainKeys))=true:=by kernel_rfl
theorem jZ:(Rows.grammarsComeBackRow.shortTexts.isNone)=true:=by kernel_rfl
theorem jY:(Tryz.prog.stopsHeard)=true:=by kernel_rfl
theorem jW:((Rows.grammarsComeBackRow.lifted==Tryz.prog.liftsFinal))=true:=by kernel_rfl
theorem jV:((Tryz.prog.make==some Rows.grammarsComeBackRow.make))=true:=by kernel_rfl
theorem jU:((Rows.grammarsComeBackRow.kinds==(if Rows.grammarsComeBackRow.domain.isEmpty then [] else Tryz.f3.params.toList.map fun t=>match Tryz.prog.underlying t with|some (.int k)=>some k|_=>none)))=true:=by kernel_rfl
theorem jT:((Rows.grammarsComeBackRow.pinned==Rows.grammarsComeBackRow.pinnedBy))=true:=by kernel_rfl
theorem jS:((Rows.grammarsComeBackRow.veiled==(Tryz.f3.params.toList++Rows.grammarsComeBackSpec.plain.varTypes Tryz.prog++Tryz.f3.resultTypes.toList).any (Tryz.prog.veiledRec ·)))=true:=by kernel_rfl
theorem jR:(Rows.grammarsComeBackRow.veiledFits Tryz.prog Tryz.f3.params.toList (Tryz.f3.params.toList++Rows.grammarsComeBackSpec.plain.varTypes Tryz.prog++Tryz.f3.resultTypes.toList))=true:=by kernel_rfl
theorem lN (os:Os):Input.okWideB Tryz.checked.prog ((World.laidAll Tryz.prog os laidAll).forCall (fun _ _=>0) ⟨#[],#[.slice none 0 0],[]⟩) 3 ⟨#[],#[.slice none 0 0],[]⟩=true:=by kernel_rfl
theorem iX (os:Os)(H:Type)(enc:TypeId × Value->H):Rows.grammarsComeBackSpec.preB enc Tryz.checked.prog Tryz.f3 [] false ((World.laidAll Tryz.prog os laidAll).forCall (fun _ _=>0) ⟨#[],#[.slice none 0 0],[]⟩).memory #[.slice none 0 0] 8=true:=by kernel_rfl
theorem lM (os:Os)(H:Type)(enc:TypeId × Value->H):Rows.grammarsComeBackSpec.sizedB enc Tryz.checked.prog Tryz.f3 false ((World.laidAll Tryz.prog os laidAll).forCall (fun _ _=>0) ⟨#[],#[.slice none 0 0],[]⟩).memory #[.slice none 0 0] 8=true:=by kernel_rfl
theorem lQ:Tryz.checked.prog.inits.idxOf? 3=none:=by kernel_rfl
theorem ax:Tryz.prog.funcNamed "hedgelayer/hgkeep1.GrammarsComeBack" =some 3:=by kernel_rfl
theorem lL:Tryz.f3.isWrapper Tryz.prog false "":=by
 unfold Func.isWrapper; first|(rw[if_pos (by decide +kernel)]; kernel_rfl)|(rw[if_neg (by decide +kernel)]; exact⟨rfl,rfl⟩)
theorem ma:Tryz.f3.isInstance Tryz.prog Rows.grammarsComeBackRow.origin Rows.grammarsComeBackRow.targs:=of_decide_eq_true (by kernel_rfl)
end Go.Am
