/- A part of the proof of GrammarsChecked (merged by a program). -/
import Derived.Test.YtehhlchbbdaipaaGreatDoorO
import Derived.JoinedOf
section
namespace Go.Am
open Go Go.Proofs Go.RowKit Go.ChangeShapes Go.WideShapes Go.ChangeAt
open Go.Proofs.YtehhlchbbdaipaaGreatDoor
set_option maxRecDepth 100000
theorem Qw8 : (Rows.grammarsCheckedRow.wf (OpenSpec.ofChange Rows.grammarsCheckedSpec)) = true := by kernel_rfl
theorem Qw6 : (mapsRowed Tryz.prog) = true := by kernel_rfl
theorem Qw5 : (Tryz.f3.params.all (Tryz.prog.readableRec ·)) = true := by kernel_rfl
theorem Qw4 : (namedTie Tryz.prog Rows.grammarsCheckedRow.named Rows.grammarsCheckedSpec.vars) = true := by kernel_rfl
theorem Qw3 : ((Rows.grammarsCheckedRow.stops == [])) = true := by kernel_rfl
theorem Qw2 : ((Tryz.prog.stops == [])) = true := by kernel_rfl
theorem Qw1 : ((Rows.grammarsCheckedRow.knobs == [])) = true := by kernel_rfl
theorem Qw0 : ((Tryz.prog.stopKnobs == [])) = true := by kernel_rfl
theorem Quc : ((Rows.grammarsCheckedRow.maps == (Tryz.f3.params.toList ++ Rows.grammarsCheckedSpec.plain.varTypes Tryz.prog).any (Tryz.prog.mapsRec ·))) = true := by kernel_rfl
theorem Qub : ((Rows.grammarsCheckedRow.ifaces == (Tryz.f3.params.toList ++ Rows.grammarsCheckedSpec.plain.varTypes Tryz.prog).any (Tryz.prog.ifacesRec ·))) = true := by kernel_rfl
theorem Qua : ((Rows.grammarsCheckedRow.mapsOut == Tryz.prog.mapsAmong Tryz.f3.resultTypes.toList)) = true := by kernel_rfl
theorem Qu9 : ((Rows.grammarsCheckedRow.loops == (Tryz.f3.params.toList ++ Rows.grammarsCheckedSpec.plain.varTypes Tryz.prog).any (Tryz.prog.loopsFrom ·))) = true := by kernel_rfl
theorem Qu8 : ((Rows.grammarsCheckedRow.wideKeys == (Tryz.f3.params.toList ++ Rows.grammarsCheckedSpec.plain.varTypes Tryz.prog ++ Tryz.f3.resultTypes.toList).any (Tryz.prog.wideKeysFrom ·))) = true := by kernel_rfl
theorem Qu7 : (Rows.grammarsCheckedSpec.vars.all (Tryz.prog.varReadable ·)) = true := by kernel_rfl
theorem Qu6 : (Tryz.f3.resultTypes.all (fun t => Tryz.prog.readableRec t && decide (t < Tryz.prog.types.size))) = true := by kernel_rfl
theorem Qu5 : ((Rows.grammarsCheckedRow.ifacesOut == Tryz.f3.resultTypes.toList.any (Tryz.prog.ifacesRec ·))) = true := by kernel_rfl
theorem Qu4 : ((Rows.grammarsCheckedRow.loopsOut == Tryz.f3.resultTypes.toList.any (Tryz.prog.loopsFrom ·))) = true := by kernel_rfl
theorem Qu3 : ((Rows.grammarsCheckedRow.plainKeys == Tryz.prog.plainKeys)) = true := by kernel_rfl
theorem Qu2 : (Rows.grammarsCheckedRow.shortTexts.isNone) = true := by kernel_rfl
theorem Qu1 : (Tryz.prog.stopsHeard) = true := by kernel_rfl
theorem Qtz : ((Rows.grammarsCheckedRow.lifted == Tryz.prog.liftsFinal)) = true := by kernel_rfl
theorem Qty : ((Tryz.prog.make == some Rows.grammarsCheckedRow.make)) = true := by kernel_rfl
theorem Qtx : ((Rows.grammarsCheckedRow.kinds == (if Rows.grammarsCheckedRow.domain.isEmpty then [] else Tryz.f3.params.toList.map fun t => match Tryz.prog.underlying t with | some (.int k) => some k | _ => none))) = true := by kernel_rfl
theorem Qtw : ((Rows.grammarsCheckedRow.pinned == Rows.grammarsCheckedRow.pinnedBy)) = true := by kernel_rfl
theorem Qtv : ((Rows.grammarsCheckedRow.veiled == (Tryz.f3.params.toList ++ Rows.grammarsCheckedSpec.plain.varTypes Tryz.prog ++ Tryz.f3.resultTypes.toList).any (Tryz.prog.veiledRec ·))) = true := by kernel_rfl
theorem Qtu : (Rows.grammarsCheckedRow.veiledFits Tryz.prog Tryz.f3.params.toList (Tryz.f3.params.toList ++ Rows.grammarsCheckedSpec.plain.varTypes Tryz.prog ++ Tryz.f3.resultTypes.toList)) = true := by kernel_rfl
theorem Qvh (os : Os) : Input.okWideB Tryz.checked.prog ((World.doorLaid Tryz.prog 101 os).forCall (fun _ _ => 0) ⟨#[], #[.slice none 0 0], []⟩) 3 ⟨#[], #[.slice none 0 0], []⟩ = true := by kernel_rfl
theorem Qtk (os : Os) (H : Type) (enc : TypeId × Value -> H) : Rows.grammarsCheckedSpec.preB enc Tryz.checked.prog Tryz.f3 [] false ((World.doorLaid Tryz.prog 101 os).forCall (fun _ _ => 0) ⟨#[], #[.slice none 0 0], []⟩).memory #[.slice none 0 0] 8 = true := by kernel_rfl
theorem Qvf (os : Os) (H : Type) (enc : TypeId × Value -> H) : Rows.grammarsCheckedSpec.sizedB enc Tryz.checked.prog Tryz.f3 false ((World.doorLaid Tryz.prog 101 os).forCall (fun _ _ => 0) ⟨#[], #[.slice none 0 0], []⟩).memory #[.slice none 0 0] 8 = true := by kernel_rfl
theorem Qvi : Tryz.checked.prog.inits.idxOf? 3 = none := by kernel_rfl
theorem Qop : Tryz.prog.funcNamed "hedgelayer/hglaw1.GrammarsChecked" = some 3 := by kernel_rfl
theorem Qve : Tryz.f3.isWrapper Tryz.prog false "" := by
 unfold Func.isWrapper; first | (rw [if_pos (by decide +kernel)]; kernel_rfl) | (rw [if_neg (by decide +kernel)]; exact ⟨rfl, rfl⟩)
theorem Qwa : Tryz.f3.isInstance Tryz.prog Rows.grammarsCheckedRow.origin Rows.grammarsCheckedRow.targs := of_decide_eq_true (by kernel_rfl)
end Go.Am
end
