import Derived.Test.YtlabjopijpkiaaaGreatJAX
set_option maxHeartbeats 16000000
set_option maxRecDepth 20000
set_option linter.unusedSectionVars false
set_option linter.unusedSimpArgs false
set_option linter.unusedVariables false
namespace Go.TL
open Go.Proofs.Tryz
open Go.Proofs
theorem q4:(YtlabjopijpkiaaaGreat.Rows.lightAllRow.wf (OpenSpec.ofChange YtlabjopijpkiaaaGreat.Rows.lightAllSpec))=true:=by kernel_rfl
theorem q3:(f16.params.all (prog.readableRec ·))=true:=by kernel_rfl
theorem q2:(namedTie prog YtlabjopijpkiaaaGreat.Rows.lightAllRow.named YtlabjopijpkiaaaGreat.Rows.lightAllSpec.vars)=true:=by kernel_rfl
theorem q1:((YtlabjopijpkiaaaGreat.Rows.lightAllRow.stops==[]))=true:=by kernel_rfl
theorem q0:((YtlabjopijpkiaaaGreat.Rows.lightAllRow.knobs==[]))=true:=by kernel_rfl
theorem qZ:((YtlabjopijpkiaaaGreat.Rows.lightAllRow.inPlace==prog.inPlace 16))=true:=by kernel_rfl
theorem qY:((YtlabjopijpkiaaaGreat.Rows.lightAllRow.unfollowed==prog.unfollowed 16))=true:=by kernel_rfl
theorem qX:((YtlabjopijpkiaaaGreat.Rows.lightAllRow.recurses==prog.recurses 16))=true:=by kernel_rfl
theorem qW:((YtlabjopijpkiaaaGreat.Rows.lightAllRow.named==prog.varsNamed 16))=true:=by kernel_rfl
theorem qV:((YtlabjopijpkiaaaGreat.Rows.lightAllRow.maps==(f16.params.toList++YtlabjopijpkiaaaGreat.Rows.lightAllSpec.plain.varTypes prog).any (prog.mapsRec ·)))=true:=by kernel_rfl
theorem qU:((YtlabjopijpkiaaaGreat.Rows.lightAllRow.ifaces==(f16.params.toList++YtlabjopijpkiaaaGreat.Rows.lightAllSpec.plain.varTypes prog).any (prog.ifacesRec ·)))=true:=by kernel_rfl
theorem qT:((YtlabjopijpkiaaaGreat.Rows.lightAllRow.mapsOut==prog.mapsAmong f16.resultTypes.toList))=true:=by kernel_rfl
theorem qS:((YtlabjopijpkiaaaGreat.Rows.lightAllRow.loops==(f16.params.toList++YtlabjopijpkiaaaGreat.Rows.lightAllSpec.plain.varTypes prog).any (prog.loopsFrom ·)))=true:=by kernel_rfl
theorem qR:((YtlabjopijpkiaaaGreat.Rows.lightAllRow.wideKeys==(f16.params.toList++YtlabjopijpkiaaaGreat.Rows.lightAllSpec.plain.varTypes prog++f16.resultTypes.toList).any (prog.wideKeysFrom ·)))=true:=by kernel_rfl
theorem qQ:(YtlabjopijpkiaaaGreat.Rows.lightAllSpec.vars.all (prog.varReadable ·))=true:=by kernel_rfl
theorem qP:(f16.resultTypes.all (λt=>prog.readableRec t&&decide (t<prog.types.size)))=true:=by kernel_rfl
theorem qO:((YtlabjopijpkiaaaGreat.Rows.lightAllRow.ifacesOut==f16.resultTypes.toList.any (prog.ifacesRec ·)))=true:=by kernel_rfl
theorem qN:((YtlabjopijpkiaaaGreat.Rows.lightAllRow.loopsOut==f16.resultTypes.toList.any (prog.loopsFrom ·)))=true:=by kernel_rfl
theorem qM:((YtlabjopijpkiaaaGreat.Rows.lightAllRow.plainKeys==prog.plainKeys))=true:=by kernel_rfl
theorem qL:(YtlabjopijpkiaaaGreat.Rows.lightAllRow.shortTexts.isNone)=true:=by kernel_rfl
theorem qK:((YtlabjopijpkiaaaGreat.Rows.lightAllRow.lifted==prog.liftsFinal))=true:=by kernel_rfl
theorem qJ:((prog.make==some YtlabjopijpkiaaaGreat.Rows.lightAllRow.make))=true:=by kernel_rfl
theorem qI:((YtlabjopijpkiaaaGreat.Rows.lightAllRow.kinds==(if YtlabjopijpkiaaaGreat.Rows.lightAllRow.domain.isEmpty then [] else f16.params.toList.map λt=>match prog.underlying t with|some (.int k)=>some k|_=>none)))=true:=by kernel_rfl
theorem qH:((YtlabjopijpkiaaaGreat.Rows.lightAllRow.pinned==YtlabjopijpkiaaaGreat.Rows.lightAllRow.pinnedBy))=true:=by kernel_rfl
theorem qG:((YtlabjopijpkiaaaGreat.Rows.lightAllRow.veiled==(f16.params.toList++YtlabjopijpkiaaaGreat.Rows.lightAllSpec.plain.varTypes prog++f16.resultTypes.toList).any (prog.veiledRec ·)))=true:=by kernel_rfl
theorem qF:(YtlabjopijpkiaaaGreat.Rows.lightAllRow.veiledFits prog f16.params.toList (f16.params.toList++YtlabjopijpkiaaaGreat.Rows.lightAllSpec.plain.varTypes prog++f16.resultTypes.toList))=true:=by kernel_rfl
theorem qE:joinedFacts prog 16 f16 YtlabjopijpkiaaaGreat.Rows.lightAllSpec YtlabjopijpkiaaaGreat.Rows.lightAllRow=true:=by
 unfold joinedFacts;simp only[Bool.and_eq_true];exact⟨⟨⟨⟨⟨⟨⟨⟨⟨⟨⟨⟨⟨⟨⟨⟨⟨⟨⟨⟨⟨⟨⟨⟨⟨⟨⟨⟨⟨⟨⟨q4,Fw⟩,Fv⟩,q3⟩,q2⟩,q1⟩,Fu⟩,q0⟩,Ft⟩,qZ⟩,qY⟩,qX⟩,qW⟩,qV⟩,qU⟩,qT⟩,qS⟩,qR⟩,qQ⟩,qP⟩,qO⟩,qN⟩,qM⟩,qL⟩,Fs⟩,Fq⟩,qK⟩,qJ⟩,qI⟩,qH⟩,qG⟩,qF⟩
end Go.TL
