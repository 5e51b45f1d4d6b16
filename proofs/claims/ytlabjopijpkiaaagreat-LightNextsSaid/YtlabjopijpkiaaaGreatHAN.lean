import Derived.Test.YtlabjopijpkiaaaGreatHAM
set_option maxHeartbeats 16000000
set_option maxRecDepth 20000
set_option linter.unusedSectionVars false
set_option linter.unusedSimpArgs false
set_option linter.unusedVariables false
namespace Go.TL
open Go.Proofs.Tryz
open Go.Proofs
theorem qM:(YtlabjopijpkiaaaGreat.Rows.lightNextsRow.wf (OpenSpec.ofChange YtlabjopijpkiaaaGreat.Rows.lightNextsSpec))=true:=by kernel_rfl
theorem qL:(Tryz.f3.params.all (prog.readableRec ·))=true:=by kernel_rfl
theorem qK:(namedTie prog YtlabjopijpkiaaaGreat.Rows.lightNextsRow.named YtlabjopijpkiaaaGreat.Rows.lightNextsSpec.vars)=true:=by kernel_rfl
theorem qJ:((YtlabjopijpkiaaaGreat.Rows.lightNextsRow.stops==[]))=true:=by kernel_rfl
theorem qI:((YtlabjopijpkiaaaGreat.Rows.lightNextsRow.knobs==[]))=true:=by kernel_rfl
theorem qH:((YtlabjopijpkiaaaGreat.Rows.lightNextsRow.inPlace==prog.inPlace 3))=true:=by kernel_rfl
theorem qG:((YtlabjopijpkiaaaGreat.Rows.lightNextsRow.unfollowed==prog.unfollowed 3))=true:=by kernel_rfl
theorem qF:((YtlabjopijpkiaaaGreat.Rows.lightNextsRow.recurses==prog.recurses 3))=true:=by kernel_rfl
theorem qE:((YtlabjopijpkiaaaGreat.Rows.lightNextsRow.named==prog.varsNamed 3))=true:=by kernel_rfl
theorem qD:((YtlabjopijpkiaaaGreat.Rows.lightNextsRow.maps==(Tryz.f3.params.toList++YtlabjopijpkiaaaGreat.Rows.lightNextsSpec.plain.varTypes prog).any (prog.mapsRec ·)))=true:=by kernel_rfl
theorem qC:((YtlabjopijpkiaaaGreat.Rows.lightNextsRow.ifaces==(Tryz.f3.params.toList++YtlabjopijpkiaaaGreat.Rows.lightNextsSpec.plain.varTypes prog).any (prog.ifacesRec ·)))=true:=by kernel_rfl
theorem qB:((YtlabjopijpkiaaaGreat.Rows.lightNextsRow.mapsOut==prog.mapsAmong Tryz.f3.resultTypes.toList))=true:=by kernel_rfl
theorem qA:((YtlabjopijpkiaaaGreat.Rows.lightNextsRow.loops==(Tryz.f3.params.toList++YtlabjopijpkiaaaGreat.Rows.lightNextsSpec.plain.varTypes prog).any (prog.loopsFrom ·)))=true:=by kernel_rfl
theorem qz:((YtlabjopijpkiaaaGreat.Rows.lightNextsRow.wideKeys==(Tryz.f3.params.toList++YtlabjopijpkiaaaGreat.Rows.lightNextsSpec.plain.varTypes prog++Tryz.f3.resultTypes.toList).any (prog.wideKeysFrom ·)))=true:=by kernel_rfl
theorem qy:(YtlabjopijpkiaaaGreat.Rows.lightNextsSpec.vars.all (prog.varReadable ·))=true:=by kernel_rfl
theorem qx:(Tryz.f3.resultTypes.all (λt=>prog.readableRec t&&decide (t<prog.types.size)))=true:=by kernel_rfl
theorem qw:((YtlabjopijpkiaaaGreat.Rows.lightNextsRow.ifacesOut==Tryz.f3.resultTypes.toList.any (prog.ifacesRec ·)))=true:=by kernel_rfl
theorem qv:((YtlabjopijpkiaaaGreat.Rows.lightNextsRow.loopsOut==Tryz.f3.resultTypes.toList.any (prog.loopsFrom ·)))=true:=by kernel_rfl
theorem qu:((YtlabjopijpkiaaaGreat.Rows.lightNextsRow.plainKeys==prog.plainKeys))=true:=by kernel_rfl
theorem qt:(YtlabjopijpkiaaaGreat.Rows.lightNextsRow.shortTexts.isNone)=true:=by kernel_rfl
theorem qs:((YtlabjopijpkiaaaGreat.Rows.lightNextsRow.lifted==prog.liftsFinal))=true:=by kernel_rfl
theorem qq:((prog.make==some YtlabjopijpkiaaaGreat.Rows.lightNextsRow.make))=true:=by kernel_rfl
theorem qp:((YtlabjopijpkiaaaGreat.Rows.lightNextsRow.kinds==(if YtlabjopijpkiaaaGreat.Rows.lightNextsRow.domain.isEmpty then [] else Tryz.f3.params.toList.map λt=>match prog.underlying t with|some (.int k)=>some k|_=>none)))=true:=by kernel_rfl
theorem qo:((YtlabjopijpkiaaaGreat.Rows.lightNextsRow.pinned==YtlabjopijpkiaaaGreat.Rows.lightNextsRow.pinnedBy))=true:=by kernel_rfl
theorem qn:((YtlabjopijpkiaaaGreat.Rows.lightNextsRow.veiled==(Tryz.f3.params.toList++YtlabjopijpkiaaaGreat.Rows.lightNextsSpec.plain.varTypes prog++Tryz.f3.resultTypes.toList).any (prog.veiledRec ·)))=true:=by kernel_rfl
theorem qm:(YtlabjopijpkiaaaGreat.Rows.lightNextsRow.veiledFits prog Tryz.f3.params.toList (Tryz.f3.params.toList++YtlabjopijpkiaaaGreat.Rows.lightNextsSpec.plain.varTypes prog++Tryz.f3.resultTypes.toList))=true:=by kernel_rfl
theorem ql:joinedFacts prog 3 Tryz.f3 YtlabjopijpkiaaaGreat.Rows.lightNextsSpec YtlabjopijpkiaaaGreat.Rows.lightNextsRow=true:=by
 unfold joinedFacts;simp only[Bool.and_eq_true];exact⟨⟨⟨⟨⟨⟨⟨⟨⟨⟨⟨⟨⟨⟨⟨⟨⟨⟨⟨⟨⟨⟨⟨⟨⟨⟨⟨⟨⟨⟨⟨qM,qS⟩,qR⟩,qL⟩,qK⟩,qJ⟩,qQ⟩,qI⟩,qP⟩,qH⟩,qG⟩,qF⟩,qE⟩,qD⟩,qC⟩,qB⟩,qA⟩,qz⟩,qy⟩,qx⟩,qw⟩,qv⟩,qu⟩,qt⟩,qO⟩,qN⟩,qs⟩,qq⟩,qp⟩,qo⟩,qn⟩,qm⟩
end Go.TL
