import Derived.Test.YtlabjopijpkiaaaGreatJAX
set_option maxHeartbeats 16000000
set_option maxRecDepth 20000
set_option linter.unusedSectionVars false
set_option linter.unusedSimpArgs false
set_option linter.unusedVariables false
namespace Go.TL
open Go.Proofs.Tryz
open Go.Proofs
theorem p1:(YtlabjopijpkiaaaGreat.Rows.lightOrderRow.wf (OpenSpec.ofChange YtlabjopijpkiaaaGreat.Rows.lightOrderSpec))=true:=by kernel_rfl
theorem p0:(f14.params.all (prog.readableRec ·))=true:=by kernel_rfl
theorem pZ:(namedTie prog YtlabjopijpkiaaaGreat.Rows.lightOrderRow.named YtlabjopijpkiaaaGreat.Rows.lightOrderSpec.vars)=true:=by kernel_rfl
theorem pY:((YtlabjopijpkiaaaGreat.Rows.lightOrderRow.stops==[]))=true:=by kernel_rfl
theorem pX:((YtlabjopijpkiaaaGreat.Rows.lightOrderRow.knobs==[]))=true:=by kernel_rfl
theorem pW:((YtlabjopijpkiaaaGreat.Rows.lightOrderRow.inPlace==prog.inPlace 14))=true:=by kernel_rfl
theorem pV:((YtlabjopijpkiaaaGreat.Rows.lightOrderRow.unfollowed==prog.unfollowed 14))=true:=by kernel_rfl
theorem pU:((YtlabjopijpkiaaaGreat.Rows.lightOrderRow.recurses==prog.recurses 14))=true:=by kernel_rfl
theorem pT:((YtlabjopijpkiaaaGreat.Rows.lightOrderRow.named==prog.varsNamed 14))=true:=by kernel_rfl
theorem pS:((YtlabjopijpkiaaaGreat.Rows.lightOrderRow.maps==(f14.params.toList++YtlabjopijpkiaaaGreat.Rows.lightOrderSpec.plain.varTypes prog).any (prog.mapsRec ·)))=true:=by kernel_rfl
theorem pR:((YtlabjopijpkiaaaGreat.Rows.lightOrderRow.ifaces==(f14.params.toList++YtlabjopijpkiaaaGreat.Rows.lightOrderSpec.plain.varTypes prog).any (prog.ifacesRec ·)))=true:=by kernel_rfl
theorem pQ:((YtlabjopijpkiaaaGreat.Rows.lightOrderRow.mapsOut==prog.mapsAmong f14.resultTypes.toList))=true:=by kernel_rfl
theorem pP:((YtlabjopijpkiaaaGreat.Rows.lightOrderRow.loops==(f14.params.toList++YtlabjopijpkiaaaGreat.Rows.lightOrderSpec.plain.varTypes prog).any (prog.loopsFrom ·)))=true:=by kernel_rfl
theorem pO:((YtlabjopijpkiaaaGreat.Rows.lightOrderRow.wideKeys==(f14.params.toList++YtlabjopijpkiaaaGreat.Rows.lightOrderSpec.plain.varTypes prog++f14.resultTypes.toList).any (prog.wideKeysFrom ·)))=true:=by kernel_rfl
theorem pN:(YtlabjopijpkiaaaGreat.Rows.lightOrderSpec.vars.all (prog.varReadable ·))=true:=by kernel_rfl
theorem pM:(f14.resultTypes.all (λt=>prog.readableRec t&&decide (t<prog.types.size)))=true:=by kernel_rfl
theorem pL:((YtlabjopijpkiaaaGreat.Rows.lightOrderRow.ifacesOut==f14.resultTypes.toList.any (prog.ifacesRec ·)))=true:=by kernel_rfl
theorem pK:((YtlabjopijpkiaaaGreat.Rows.lightOrderRow.loopsOut==f14.resultTypes.toList.any (prog.loopsFrom ·)))=true:=by kernel_rfl
theorem pJ:((YtlabjopijpkiaaaGreat.Rows.lightOrderRow.plainKeys==prog.plainKeys))=true:=by kernel_rfl
theorem pI:(YtlabjopijpkiaaaGreat.Rows.lightOrderRow.shortTexts.isNone)=true:=by kernel_rfl
theorem pH:((YtlabjopijpkiaaaGreat.Rows.lightOrderRow.lifted==prog.liftsFinal))=true:=by kernel_rfl
theorem pG:((prog.make==some YtlabjopijpkiaaaGreat.Rows.lightOrderRow.make))=true:=by kernel_rfl
theorem pF:((YtlabjopijpkiaaaGreat.Rows.lightOrderRow.kinds==(if YtlabjopijpkiaaaGreat.Rows.lightOrderRow.domain.isEmpty then [] else f14.params.toList.map λt=>match prog.underlying t with|some (.int k)=>some k|_=>none)))=true:=by kernel_rfl
theorem pE:((YtlabjopijpkiaaaGreat.Rows.lightOrderRow.pinned==YtlabjopijpkiaaaGreat.Rows.lightOrderRow.pinnedBy))=true:=by kernel_rfl
theorem pD:((YtlabjopijpkiaaaGreat.Rows.lightOrderRow.veiled==(f14.params.toList++YtlabjopijpkiaaaGreat.Rows.lightOrderSpec.plain.varTypes prog++f14.resultTypes.toList).any (prog.veiledRec ·)))=true:=by kernel_rfl
theorem pC:(YtlabjopijpkiaaaGreat.Rows.lightOrderRow.veiledFits prog f14.params.toList (f14.params.toList++YtlabjopijpkiaaaGreat.Rows.lightOrderSpec.plain.varTypes prog++f14.resultTypes.toList))=true:=by kernel_rfl
theorem pB:joinedFacts prog 14 f14 YtlabjopijpkiaaaGreat.Rows.lightOrderSpec YtlabjopijpkiaaaGreat.Rows.lightOrderRow=true:=by
 unfold joinedFacts;simp only[Bool.and_eq_true];exact⟨⟨⟨⟨⟨⟨⟨⟨⟨⟨⟨⟨⟨⟨⟨⟨⟨⟨⟨⟨⟨⟨⟨⟨⟨⟨⟨⟨⟨⟨⟨p1,Fw⟩,Fv⟩,p0⟩,pZ⟩,pY⟩,Fu⟩,pX⟩,Ft⟩,pW⟩,pV⟩,pU⟩,pT⟩,pS⟩,pR⟩,pQ⟩,pP⟩,pO⟩,pN⟩,pM⟩,pL⟩,pK⟩,pJ⟩,pI⟩,Fs⟩,Fq⟩,pH⟩,pG⟩,pF⟩,pE⟩,pD⟩,pC⟩
end Go.TL
