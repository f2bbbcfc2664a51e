/- A part of tablesStay. -/
import Derived.Test.YthnghmpbgomacaaGreatDoorO
import Derived.JoinedOf
namespace Go.Am
open Go Go.Proofs Go.RowKit Go.ChangeShapes Go.WideShapes Go.ChangeAt
open Go.Proofs.YthnghmpbgomacaaGreatDoor
set_option maxRecDepth 100000
theorem AFk:(Rows.tablesStayRow.wf (OpenSpec.ofChange Rows.tablesStaySpec))=true:=by kernel_rfl
theorem AFi:(mapsRowed Tryz.prog)=true:=by kernel_rfl
theorem AFh:(Tryz.f3.params.all (Tryz.prog.readableRec ·))=true:=by kernel_rfl
theorem AFg:(namedTie Tryz.prog Rows.tablesStayRow.named Rows.tablesStaySpec.vars)=true:=by kernel_rfl
theorem AFf:((Rows.tablesStayRow.stops==[]))=true:=by kernel_rfl
theorem AFe:((Tryz.prog.stops==[]))=true:=by kernel_rfl
theorem AFd:((Rows.tablesStayRow.knobs==[]))=true:=by kernel_rfl
theorem AFc:((Tryz.prog.stopKnobs==[]))=true:=by kernel_rfl
theorem AC4:((Rows.tablesStayRow.maps==(Tryz.f3.params.toList++Rows.tablesStaySpec.plain.varTypes Tryz.prog).any (Tryz.prog.mapsRec ·)))=true:=by kernel_rfl
theorem AC3:((Rows.tablesStayRow.ifaces==(Tryz.f3.params.toList++Rows.tablesStaySpec.plain.varTypes Tryz.prog).any (Tryz.prog.ifacesRec ·)))=true:=by kernel_rfl
theorem AC2:((Rows.tablesStayRow.mapsOut==Tryz.prog.mapsAmong Tryz.f3.resultTypes.toList))=true:=by kernel_rfl
theorem AC1:((Rows.tablesStayRow.loops==(Tryz.f3.params.toList++Rows.tablesStaySpec.plain.varTypes Tryz.prog).any (Tryz.prog.loopsFrom ·)))=true:=by kernel_rfl
theorem AC0:((Rows.tablesStayRow.wideKeys==(Tryz.f3.params.toList++Rows.tablesStaySpec.plain.varTypes Tryz.prog++Tryz.f3.resultTypes.toList).any (Tryz.prog.wideKeysFrom ·)))=true:=by kernel_rfl
theorem ACE:(Rows.tablesStaySpec.vars.all (Tryz.prog.varReadable ·))=true:=by kernel_rfl
theorem ACz:(Tryz.f3.resultTypes.all (fun t=>Tryz.prog.readableRec t&&decide (t<Tryz.prog.types.size)))=true:=by kernel_rfl
theorem ACy:((Rows.tablesStayRow.ifacesOut==Tryz.f3.resultTypes.toList.any (Tryz.prog.ifacesRec ·)))=true:=by kernel_rfl
theorem ACx:((Rows.tablesStayRow.loopsOut==Tryz.f3.resultTypes.toList.any (Tryz.prog.loopsFrom ·)))=true:=by kernel_rfl
theorem ACw:((Rows.tablesStayRow.plainKeys==Tryz.prog.plainKeys))=true:=by kernel_rfl
theorem ACv:(Rows.tablesStayRow.shortTexts.isNone)=true:=by kernel_rfl
theorem ACu:(Tryz.prog.stopsHeard)=true:=by kernel_rfl
theorem ACs:((Rows.tablesStayRow.lifted==Tryz.prog.liftsFinal))=true:=by kernel_rfl
theorem ACr:((Tryz.prog.make==some Rows.tablesStayRow.make))=true:=by kernel_rfl
theorem ACq:((Rows.tablesStayRow.kinds==(if Rows.tablesStayRow.domain.isEmpty then [] else Tryz.f3.params.toList.map fun t=>match Tryz.prog.underlying t with|some (.int k)=>some k|_=>none)))=true:=by kernel_rfl
theorem ACp:((Rows.tablesStayRow.pinned==Rows.tablesStayRow.pinnedBy))=true:=by kernel_rfl
theorem ACo:((Rows.tablesStayRow.veiled==(Tryz.f3.params.toList++Rows.tablesStaySpec.plain.varTypes Tryz.prog++Tryz.f3.resultTypes.toList).any (Tryz.prog.veiledRec ·)))=true:=by kernel_rfl
theorem ACn:(Rows.tablesStayRow.veiledFits Tryz.prog Tryz.f3.params.toList (Tryz.f3.params.toList++Rows.tablesStaySpec.plain.varTypes Tryz.prog++Tryz.f3.resultTypes.toList))=true:=by kernel_rfl
theorem AD1(os:Os):Input.okWideB Tryz.checked.prog ((World.laidAll Tryz.prog os laidAll).forCall (fun _ _=>0) ⟨#[],#[.slice none 0 0],[]⟩) 3 ⟨#[],#[.slice none 0 0],[]⟩=true:=by kernel_rfl
theorem ACF(os:Os)(H:Type)(enc:TypeId×Value->H):Rows.tablesStaySpec.preB enc Tryz.checked.prog Tryz.f3 [] false ((World.laidAll Tryz.prog os laidAll).forCall (fun _ _=>0) ⟨#[],#[.slice none 0 0],[]⟩).memory #[.slice none 0 0] 8=true:=by kernel_rfl
theorem AD0(os:Os)(H:Type)(enc:TypeId×Value->H):Rows.tablesStaySpec.sizedB enc Tryz.checked.prog Tryz.f3 false ((World.laidAll Tryz.prog os laidAll).forCall (fun _ _=>0) ⟨#[],#[.slice none 0 0],[]⟩).memory #[.slice none 0 0] 8=true:=by kernel_rfl
theorem AD2:Tryz.checked.prog.inits.idxOf? 3=none:=by kernel_rfl
theorem xA:Tryz.prog.funcNamed "hedgelayer/hgkeep1.TablesStay" =some 3:=by kernel_rfl
theorem ADE:Tryz.f3.isWrapper Tryz.prog false "":=by unfold Func.isWrapper;first|(rw[AX (by decide +kernel)];kernel_rfl)|(rw[AJ (by decide +kernel)];exact⟨rfl,rfl⟩)
theorem AFp:Tryz.f3.isInstance Tryz.prog Rows.tablesStayRow.origin Rows.tablesStayRow.targs:=QT (by kernel_rfl)
end Go.Am
