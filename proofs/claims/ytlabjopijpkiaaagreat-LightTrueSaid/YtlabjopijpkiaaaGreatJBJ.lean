import Derived.Test.YtlabjopijpkiaaaGreatJAX
set_option maxHeartbeats 16000000
set_option maxRecDepth 20000
set_option linter.unusedSectionVars false
set_option linter.unusedSimpArgs false
set_option linter.unusedVariables false
namespace Go.TL
open Go.Proofs.Tryz
open Go.Proofs
theorem oW:(YtlabjopijpkiaaaGreat.Rows.lightTrueRow.wf (OpenSpec.ofChange YtlabjopijpkiaaaGreat.Rows.lightTrueSpec))=true:=by kernel_rfl
theorem oV:(f18.params.all (prog.readableRec ·))=true:=by kernel_rfl
theorem oU:(namedTie prog YtlabjopijpkiaaaGreat.Rows.lightTrueRow.named YtlabjopijpkiaaaGreat.Rows.lightTrueSpec.vars)=true:=by kernel_rfl
theorem oT:((YtlabjopijpkiaaaGreat.Rows.lightTrueRow.stops==[]))=true:=by kernel_rfl
theorem oS:((YtlabjopijpkiaaaGreat.Rows.lightTrueRow.knobs==[]))=true:=by kernel_rfl
theorem oR:((YtlabjopijpkiaaaGreat.Rows.lightTrueRow.inPlace==prog.inPlace 18))=true:=by kernel_rfl
theorem oQ:((YtlabjopijpkiaaaGreat.Rows.lightTrueRow.unfollowed==prog.unfollowed 18))=true:=by kernel_rfl
theorem oP:((YtlabjopijpkiaaaGreat.Rows.lightTrueRow.recurses==prog.recurses 18))=true:=by kernel_rfl
theorem oO:((YtlabjopijpkiaaaGreat.Rows.lightTrueRow.named==prog.varsNamed 18))=true:=by kernel_rfl
theorem oN:((YtlabjopijpkiaaaGreat.Rows.lightTrueRow.maps==(f18.params.toList++YtlabjopijpkiaaaGreat.Rows.lightTrueSpec.plain.varTypes prog).any (prog.mapsRec ·)))=true:=by kernel_rfl
theorem oM:((YtlabjopijpkiaaaGreat.Rows.lightTrueRow.ifaces==(f18.params.toList++YtlabjopijpkiaaaGreat.Rows.lightTrueSpec.plain.varTypes prog).any (prog.ifacesRec ·)))=true:=by kernel_rfl
theorem oL:((YtlabjopijpkiaaaGreat.Rows.lightTrueRow.mapsOut==prog.mapsAmong f18.resultTypes.toList))=true:=by kernel_rfl
theorem oK:((YtlabjopijpkiaaaGreat.Rows.lightTrueRow.loops==(f18.params.toList++YtlabjopijpkiaaaGreat.Rows.lightTrueSpec.plain.varTypes prog).any (prog.loopsFrom ·)))=true:=by kernel_rfl
theorem oJ:((YtlabjopijpkiaaaGreat.Rows.lightTrueRow.wideKeys==(f18.params.toList++YtlabjopijpkiaaaGreat.Rows.lightTrueSpec.plain.varTypes prog++f18.resultTypes.toList).any (prog.wideKeysFrom ·)))=true:=by kernel_rfl
theorem oI:(YtlabjopijpkiaaaGreat.Rows.lightTrueSpec.vars.all (prog.varReadable ·))=true:=by kernel_rfl
theorem oH:(f18.resultTypes.all (λt=>prog.readableRec t&&decide (t<prog.types.size)))=true:=by kernel_rfl
theorem oG:((YtlabjopijpkiaaaGreat.Rows.lightTrueRow.ifacesOut==f18.resultTypes.toList.any (prog.ifacesRec ·)))=true:=by kernel_rfl
theorem oF:((YtlabjopijpkiaaaGreat.Rows.lightTrueRow.loopsOut==f18.resultTypes.toList.any (prog.loopsFrom ·)))=true:=by kernel_rfl
theorem oE:((YtlabjopijpkiaaaGreat.Rows.lightTrueRow.plainKeys==prog.plainKeys))=true:=by kernel_rfl
theorem oD:(YtlabjopijpkiaaaGreat.Rows.lightTrueRow.shortTexts.isNone)=true:=by kernel_rfl
theorem oC:((YtlabjopijpkiaaaGreat.Rows.lightTrueRow.lifted==prog.liftsFinal))=true:=by kernel_rfl
theorem oB:((prog.make==some YtlabjopijpkiaaaGreat.Rows.lightTrueRow.make))=true:=by kernel_rfl
theorem oA:((YtlabjopijpkiaaaGreat.Rows.lightTrueRow.kinds==(if YtlabjopijpkiaaaGreat.Rows.lightTrueRow.domain.isEmpty then [] else f18.params.toList.map λt=>match prog.underlying t with|some (.int k)=>some k|_=>none)))=true:=by kernel_rfl
theorem oz:((YtlabjopijpkiaaaGreat.Rows.lightTrueRow.pinned==YtlabjopijpkiaaaGreat.Rows.lightTrueRow.pinnedBy))=true:=by kernel_rfl
theorem oy:((YtlabjopijpkiaaaGreat.Rows.lightTrueRow.veiled==(f18.params.toList++YtlabjopijpkiaaaGreat.Rows.lightTrueSpec.plain.varTypes prog++f18.resultTypes.toList).any (prog.veiledRec ·)))=true:=by kernel_rfl
theorem ox:(YtlabjopijpkiaaaGreat.Rows.lightTrueRow.veiledFits prog f18.params.toList (f18.params.toList++YtlabjopijpkiaaaGreat.Rows.lightTrueSpec.plain.varTypes prog++f18.resultTypes.toList))=true:=by kernel_rfl
theorem ow:joinedFacts prog 18 f18 YtlabjopijpkiaaaGreat.Rows.lightTrueSpec YtlabjopijpkiaaaGreat.Rows.lightTrueRow=true:=by
 unfold joinedFacts;simp only[Bool.and_eq_true];exact⟨⟨⟨⟨⟨⟨⟨⟨⟨⟨⟨⟨⟨⟨⟨⟨⟨⟨⟨⟨⟨⟨⟨⟨⟨⟨⟨⟨⟨⟨⟨oW,Fw⟩,Fv⟩,oV⟩,oU⟩,oT⟩,Fu⟩,oS⟩,Ft⟩,oR⟩,oQ⟩,oP⟩,oO⟩,oN⟩,oM⟩,oL⟩,oK⟩,oJ⟩,oI⟩,oH⟩,oG⟩,oF⟩,oE⟩,oD⟩,Fs⟩,Fq⟩,oC⟩,oB⟩,oA⟩,oz⟩,oy⟩,ox⟩
end Go.TL
