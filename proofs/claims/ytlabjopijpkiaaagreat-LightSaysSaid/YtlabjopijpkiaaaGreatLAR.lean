import Derived.Test.YtlabjopijpkiaaaGreatLAM
set_option maxHeartbeats 16000000
set_option maxRecDepth 20000
set_option linter.unusedSectionVars false
set_option linter.unusedSimpArgs false
set_option linter.unusedVariables false
namespace Go.TL
open Go.Proofs.Tryz
open Go.Proofs
theorem pC:(YtlabjopijpkiaaaGreat.Rows.lightSaysRow.wf (OpenSpec.ofChange YtlabjopijpkiaaaGreat.Rows.lightSaysSpec))=true:=by kernel_rfl
theorem pB:(Tryz.f10.params.all (prog.readableRec ·))=true:=by kernel_rfl
theorem pA:(namedTie prog YtlabjopijpkiaaaGreat.Rows.lightSaysRow.named YtlabjopijpkiaaaGreat.Rows.lightSaysSpec.vars)=true:=by kernel_rfl
theorem pz:((YtlabjopijpkiaaaGreat.Rows.lightSaysRow.stops==[]))=true:=by kernel_rfl
theorem py:((YtlabjopijpkiaaaGreat.Rows.lightSaysRow.knobs==[]))=true:=by kernel_rfl
theorem px:((YtlabjopijpkiaaaGreat.Rows.lightSaysRow.inPlace==prog.inPlace 10))=true:=by kernel_rfl
theorem pw:((YtlabjopijpkiaaaGreat.Rows.lightSaysRow.unfollowed==prog.unfollowed 10))=true:=by kernel_rfl
theorem pv:((YtlabjopijpkiaaaGreat.Rows.lightSaysRow.recurses==prog.recurses 10))=true:=by kernel_rfl
theorem pt:((YtlabjopijpkiaaaGreat.Rows.lightSaysRow.named==prog.varsNamed 10))=true:=by kernel_rfl
theorem ps:((YtlabjopijpkiaaaGreat.Rows.lightSaysRow.maps==(Tryz.f10.params.toList++YtlabjopijpkiaaaGreat.Rows.lightSaysSpec.plain.varTypes prog).any (prog.mapsRec ·)))=true:=by kernel_rfl
theorem pq:((YtlabjopijpkiaaaGreat.Rows.lightSaysRow.ifaces==(Tryz.f10.params.toList++YtlabjopijpkiaaaGreat.Rows.lightSaysSpec.plain.varTypes prog).any (prog.ifacesRec ·)))=true:=by kernel_rfl
theorem po:((YtlabjopijpkiaaaGreat.Rows.lightSaysRow.mapsOut==prog.mapsAmong Tryz.f10.resultTypes.toList))=true:=by kernel_rfl
theorem pn:((YtlabjopijpkiaaaGreat.Rows.lightSaysRow.loops==(Tryz.f10.params.toList++YtlabjopijpkiaaaGreat.Rows.lightSaysSpec.plain.varTypes prog).any (prog.loopsFrom ·)))=true:=by kernel_rfl
theorem pk:((YtlabjopijpkiaaaGreat.Rows.lightSaysRow.wideKeys==(Tryz.f10.params.toList++YtlabjopijpkiaaaGreat.Rows.lightSaysSpec.plain.varTypes prog++Tryz.f10.resultTypes.toList).any (prog.wideKeysFrom ·)))=true:=by kernel_rfl
theorem pj:(YtlabjopijpkiaaaGreat.Rows.lightSaysSpec.vars.all (prog.varReadable ·))=true:=by kernel_rfl
theorem ph:(Tryz.f10.resultTypes.all (λt=>prog.readableRec t&&decide (t<prog.types.size)))=true:=by kernel_rfl
theorem pg:((YtlabjopijpkiaaaGreat.Rows.lightSaysRow.ifacesOut==Tryz.f10.resultTypes.toList.any (prog.ifacesRec ·)))=true:=by kernel_rfl
theorem pf:((YtlabjopijpkiaaaGreat.Rows.lightSaysRow.loopsOut==Tryz.f10.resultTypes.toList.any (prog.loopsFrom ·)))=true:=by kernel_rfl
theorem pe:((YtlabjopijpkiaaaGreat.Rows.lightSaysRow.plainKeys==prog.plainKeys))=true:=by kernel_rfl
theorem pd:(YtlabjopijpkiaaaGreat.Rows.lightSaysRow.shortTexts.isNone)=true:=by kernel_rfl
theorem pb:((YtlabjopijpkiaaaGreat.Rows.lightSaysRow.lifted==prog.liftsFinal))=true:=by kernel_rfl
theorem pa:((prog.make==some YtlabjopijpkiaaaGreat.Rows.lightSaysRow.make))=true:=by kernel_rfl
theorem o9:((YtlabjopijpkiaaaGreat.Rows.lightSaysRow.kinds==(if YtlabjopijpkiaaaGreat.Rows.lightSaysRow.domain.isEmpty then [] else Tryz.f10.params.toList.map λt=>match prog.underlying t with|some (.int k)=>some k|_=>none)))=true:=by kernel_rfl
theorem o8:((YtlabjopijpkiaaaGreat.Rows.lightSaysRow.pinned==YtlabjopijpkiaaaGreat.Rows.lightSaysRow.pinnedBy))=true:=by kernel_rfl
theorem o7:((YtlabjopijpkiaaaGreat.Rows.lightSaysRow.veiled==(Tryz.f10.params.toList++YtlabjopijpkiaaaGreat.Rows.lightSaysSpec.plain.varTypes prog++Tryz.f10.resultTypes.toList).any (prog.veiledRec ·)))=true:=by kernel_rfl
theorem o6:(YtlabjopijpkiaaaGreat.Rows.lightSaysRow.veiledFits prog Tryz.f10.params.toList (Tryz.f10.params.toList++YtlabjopijpkiaaaGreat.Rows.lightSaysSpec.plain.varTypes prog++Tryz.f10.resultTypes.toList))=true:=by kernel_rfl
theorem o5:joinedFacts prog 10 Tryz.f10 YtlabjopijpkiaaaGreat.Rows.lightSaysSpec YtlabjopijpkiaaaGreat.Rows.lightSaysRow=true:=by
 unfold joinedFacts;simp only[Bool.and_eq_true];exact⟨⟨⟨⟨⟨⟨⟨⟨⟨⟨⟨⟨⟨⟨⟨⟨⟨⟨⟨⟨⟨⟨⟨⟨⟨⟨⟨⟨⟨⟨⟨pC,AM⟩,AL⟩,pB⟩,pA⟩,pz⟩,AK⟩,py⟩,AJ⟩,px⟩,pw⟩,pv⟩,pt⟩,ps⟩,pq⟩,po⟩,pn⟩,pk⟩,pj⟩,ph⟩,pg⟩,pf⟩,pe⟩,pd⟩,AI⟩,AH⟩,pb⟩,pa⟩,o9⟩,o8⟩,o7⟩,o6⟩
end Go.TL
