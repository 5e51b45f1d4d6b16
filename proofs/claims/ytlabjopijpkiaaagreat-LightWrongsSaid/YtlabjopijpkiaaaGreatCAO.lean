import Derived.Test.YtlabjopijpkiaaaGreatCAN
set_option maxHeartbeats 16000000
set_option maxRecDepth 20000
set_option linter.unusedSectionVars false
set_option linter.unusedSimpArgs false
set_option linter.unusedVariables false
namespace Go.TL
open Go.Proofs.Tryz
open Go.Proofs
theorem q':(YtlabjopijpkiaaaGreat.Rows.lightWrongsRow.wf (OpenSpec.ofChange YtlabjopijpkiaaaGreat.Rows.lightWrongsSpec))=true:=by kernel_rfl
theorem q9:(f17.params.all (prog.readableRec ·))=true:=by kernel_rfl
theorem q8:(namedTie prog YtlabjopijpkiaaaGreat.Rows.lightWrongsRow.named YtlabjopijpkiaaaGreat.Rows.lightWrongsSpec.vars)=true:=by kernel_rfl
theorem q7:((YtlabjopijpkiaaaGreat.Rows.lightWrongsRow.stops==[]))=true:=by kernel_rfl
theorem q6:((YtlabjopijpkiaaaGreat.Rows.lightWrongsRow.knobs==[]))=true:=by kernel_rfl
theorem q5:((YtlabjopijpkiaaaGreat.Rows.lightWrongsRow.inPlace==prog.inPlace 17))=true:=by kernel_rfl
theorem q4:((YtlabjopijpkiaaaGreat.Rows.lightWrongsRow.unfollowed==prog.unfollowed 17))=true:=by kernel_rfl
theorem q3:((YtlabjopijpkiaaaGreat.Rows.lightWrongsRow.recurses==prog.recurses 17))=true:=by kernel_rfl
theorem q2:((YtlabjopijpkiaaaGreat.Rows.lightWrongsRow.named==prog.varsNamed 17))=true:=by kernel_rfl
theorem q1:((YtlabjopijpkiaaaGreat.Rows.lightWrongsRow.maps==(f17.params.toList++YtlabjopijpkiaaaGreat.Rows.lightWrongsSpec.plain.varTypes prog).any (prog.mapsRec ·)))=true:=by kernel_rfl
theorem q0:((YtlabjopijpkiaaaGreat.Rows.lightWrongsRow.ifaces==(f17.params.toList++YtlabjopijpkiaaaGreat.Rows.lightWrongsSpec.plain.varTypes prog).any (prog.ifacesRec ·)))=true:=by kernel_rfl
theorem qZ:((YtlabjopijpkiaaaGreat.Rows.lightWrongsRow.mapsOut==prog.mapsAmong f17.resultTypes.toList))=true:=by kernel_rfl
theorem qY:((YtlabjopijpkiaaaGreat.Rows.lightWrongsRow.loops==(f17.params.toList++YtlabjopijpkiaaaGreat.Rows.lightWrongsSpec.plain.varTypes prog).any (prog.loopsFrom ·)))=true:=by kernel_rfl
theorem qX:((YtlabjopijpkiaaaGreat.Rows.lightWrongsRow.wideKeys==(f17.params.toList++YtlabjopijpkiaaaGreat.Rows.lightWrongsSpec.plain.varTypes prog++f17.resultTypes.toList).any (prog.wideKeysFrom ·)))=true:=by kernel_rfl
theorem qW:(YtlabjopijpkiaaaGreat.Rows.lightWrongsSpec.vars.all (prog.varReadable ·))=true:=by kernel_rfl
theorem qV:(f17.resultTypes.all (λt=>prog.readableRec t&&decide (t<prog.types.size)))=true:=by kernel_rfl
theorem qU:((YtlabjopijpkiaaaGreat.Rows.lightWrongsRow.ifacesOut==f17.resultTypes.toList.any (prog.ifacesRec ·)))=true:=by kernel_rfl
theorem qT:((YtlabjopijpkiaaaGreat.Rows.lightWrongsRow.loopsOut==f17.resultTypes.toList.any (prog.loopsFrom ·)))=true:=by kernel_rfl
theorem qS:((YtlabjopijpkiaaaGreat.Rows.lightWrongsRow.plainKeys==prog.plainKeys))=true:=by kernel_rfl
theorem qR:(YtlabjopijpkiaaaGreat.Rows.lightWrongsRow.shortTexts.isNone)=true:=by kernel_rfl
theorem qQ:((YtlabjopijpkiaaaGreat.Rows.lightWrongsRow.lifted==prog.liftsFinal))=true:=by kernel_rfl
theorem qP:((prog.make==some YtlabjopijpkiaaaGreat.Rows.lightWrongsRow.make))=true:=by kernel_rfl
theorem qO:((YtlabjopijpkiaaaGreat.Rows.lightWrongsRow.kinds==(if YtlabjopijpkiaaaGreat.Rows.lightWrongsRow.domain.isEmpty then [] else f17.params.toList.map λt=>match prog.underlying t with|some (.int k)=>some k|_=>none)))=true:=by kernel_rfl
theorem qN:((YtlabjopijpkiaaaGreat.Rows.lightWrongsRow.pinned==YtlabjopijpkiaaaGreat.Rows.lightWrongsRow.pinnedBy))=true:=by kernel_rfl
theorem qM:((YtlabjopijpkiaaaGreat.Rows.lightWrongsRow.veiled==(f17.params.toList++YtlabjopijpkiaaaGreat.Rows.lightWrongsSpec.plain.varTypes prog++f17.resultTypes.toList).any (prog.veiledRec ·)))=true:=by kernel_rfl
theorem qL:(YtlabjopijpkiaaaGreat.Rows.lightWrongsRow.veiledFits prog f17.params.toList (f17.params.toList++YtlabjopijpkiaaaGreat.Rows.lightWrongsSpec.plain.varTypes prog++f17.resultTypes.toList))=true:=by kernel_rfl
theorem qK:joinedFacts prog 17 f17 YtlabjopijpkiaaaGreat.Rows.lightWrongsSpec YtlabjopijpkiaaaGreat.Rows.lightWrongsRow=true:=by
 unfold joinedFacts;simp only[Bool.and_eq_true];exact⟨⟨⟨⟨⟨⟨⟨⟨⟨⟨⟨⟨⟨⟨⟨⟨⟨⟨⟨⟨⟨⟨⟨⟨⟨⟨⟨⟨⟨⟨⟨q',ri⟩,rh⟩,q9⟩,q8⟩,q7⟩,rf⟩,q6⟩,re⟩,q5⟩,q4⟩,q3⟩,q2⟩,q1⟩,q0⟩,qZ⟩,qY⟩,qX⟩,qW⟩,qV⟩,qU⟩,qT⟩,qS⟩,qR⟩,rb⟩,ra⟩,qQ⟩,qP⟩,qO⟩,qN⟩,qM⟩,qL⟩
end Go.TL
