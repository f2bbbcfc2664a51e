/- A part of the proof of grammarTexts (merged by a program). -/
import Derived.Test.YtehhlchbbdaipaaGreatDoorO
import Derived.JoinedOf
namespace Go.Am
open Go Go.Proofs Go.RowKit Go.ChangeShapes Go.WideShapes Go.ChangeAt
open Go.Proofs.YtehhlchbbdaipaaGreatDoor
set_option maxRecDepth 100000
theorem kN:(Rows.grammarTextsRow.wf (OpenSpec.ofChange Rows.grammarTextsSpec))=true:=by kernel_rfl
theorem kL:(mapsRowed Tryz.prog)=true:=by kernel_rfl
theorem kK:(Tryz.f5.params.all (Tryz.prog.readableRec ·))=true:=by kernel_rfl
theorem kJ:(namedTie Tryz.prog Rows.grammarTextsRow.named Rows.grammarTextsSpec.vars)=true:=by kernel_rfl
theorem kI:((Rows.grammarTextsRow.stops==[]))=true:=by kernel_rfl
theorem kH:((Tryz.prog.stops==[]))=true:=by kernel_rfl
theorem kG:((Rows.grammarTextsRow.knobs==[]))=true:=by kernel_rfl
theorem kF:((Tryz.prog.stopKnobs==[]))=true:=by kernel_rfl
theorem iJ:((Rows.grammarTextsRow.maps==(Tryz.f5.params.toList++Rows.grammarTextsSpec.plain.varTypes Tryz.prog).any (Tryz.prog.mapsRec ·)))=true:=by kernel_rfl
theorem iI:((Rows.grammarTextsRow.ifaces==(Tryz.f5.params.toList++Rows.grammarTextsSpec.plain.varTypes Tryz.prog).any (Tryz.prog.ifacesRec ·)))=true:=by kernel_rfl
theorem iH:((Rows.grammarTextsRow.mapsOut==Tryz.prog.mapsAmong Tryz.f5.resultTypes.toList))=true:=by kernel_rfl
theorem iG:((Rows.grammarTextsRow.loops==(Tryz.f5.params.toList++Rows.grammarTextsSpec.plain.varTypes Tryz.prog).any (Tryz.prog.loopsFrom ·)))=true:=by kernel_rfl
theorem iF:((Rows.grammarTextsRow.wideKeys==(Tryz.f5.params.toList++Rows.grammarTextsSpec.plain.varTypes Tryz.prog++Tryz.f5.resultTypes.toList).any (Tryz.prog.wideKeysFrom ·)))=true:=by kernel_rfl
theorem iD:(Rows.grammarTextsSpec.vars.all (Tryz.prog.varReadable ·))=true:=by kernel_rfl
theorem iC:(Tryz.f5.resultTypes.all (fun t=>Tryz.prog.readableRec t&&decide (t<Tryz.prog.types.size)))=true:=by kernel_rfl
theorem iB:((Rows.grammarTextsRow.ifacesOut==Tryz.f5.resultTypes.toList.any (Tryz.prog.ifacesRec ·)))=true:=by kernel_rfl
theorem iA:((Rows.grammarTextsRow.loopsOut==Tryz.f5.resultTypes.toList.any (Tryz.prog.loopsFrom ·)))=true:=by kernel_rfl
theorem gz:((Rows.grammarTextsRow.plainKeys==Tryz.prog.plainKeys))=true:=by kernel_rfl
theorem gu:(Rows.grammarTextsRow.shortTexts.isNone)=true:=by kernel_rfl
theorem gq:(Tryz.prog.stopsHeard)=true:=by kernel_rfl
theorem gm:((Rows.grammarTextsRow.lifted==Tryz.prog.liftsFinal))=true:=by kernel_rfl
theorem gZ:((Tryz.prog.make==some Rows.grammarTextsRow.make))=true:=by kernel_rfl
theorem gY:((Rows.grammarTextsRow.kinds==(if Rows.grammarTextsRow.domain.isEmpty then [] else Tryz.f5.params.toList.map fun t=>match Tryz.prog.underlying t with|some (.int k)=>some k|_=>none)))=true:=by kernel_rfl
theorem gX:((Rows.grammarTextsRow.pinned==Rows.grammarTextsRow.pinnedBy))=true:=by kernel_rfl
theorem gW:((Rows.grammarTextsRow.veiled==(Tryz.f5.params.toList++Rows.grammarTextsSpec.plain.varTypes Tryz.prog++Tryz.f5.resultTypes.toList).any (Tryz.prog.veiledRec ·)))=true:=by kernel_rfl
theorem gV:(Rows.grammarTextsRow.veiledFits Tryz.prog Tryz.f5.params.toList (Tryz.f5.params.toList++Rows.grammarTextsSpec.plain.varTypes Tryz.prog++Tryz.f5.resultTypes.toList))=true:=by kernel_rfl
theorem jW (os:Os):Input.okWideB Tryz.checked.prog ((World.laidAll Tryz.prog os laidAll).forCall (fun _ _=>0) ⟨#[],#[.slice none 0 0],[]⟩) 5 ⟨#[],#[.slice none 0 0],[]⟩=true:=by kernel_rfl
theorem fU (os:Os)(H:Type)(enc:TypeId × Value->H):Rows.grammarTextsSpec.preB enc Tryz.checked.prog Tryz.f5 [] false ((World.laidAll Tryz.prog os laidAll).forCall (fun _ _=>0) ⟨#[],#[.slice none 0 0],[]⟩).memory #[.slice none 0 0] 8=true:=by kernel_rfl
theorem jV (os:Os)(H:Type)(enc:TypeId × Value->H):Rows.grammarTextsSpec.sizedB enc Tryz.checked.prog Tryz.f5 false ((World.laidAll Tryz.prog os laidAll).forCall (fun _ _=>0) ⟨#[],#[.slice none 0 0],[]⟩).memory #[.slice none 0 0] 8=true:=by kernel_rfl
theorem jX:Tryz.checked.prog.inits.idxOf? 5=none:=by kernel_rfl
theorem Zj:Tryz.prog.funcNamed "hedgelayer/hglaw1.GrammarTexts" =some 5:=by kernel_rfl
theorem jU:Tryz.f5.isWrapper Tryz.prog false "":=by
 unfold Func.isWrapper; first|(rw[if_pos (by decide +kernel)]; kernel_rfl)|(rw[if_neg (by decide +kernel)]; exact⟨rfl,rfl⟩)
theorem kP:Tryz.f5.isInstance Tryz.prog Rows.grammarTextsRow.origin Rows.grammarTextsRow.targs:=of_decide_eq_true (by kernel_rfl)
end Go.Am
