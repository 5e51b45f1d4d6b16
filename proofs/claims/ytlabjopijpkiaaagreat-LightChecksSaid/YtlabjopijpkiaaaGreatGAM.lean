import Derived.Test.YtlabjopijpkiaaaGreatGAL
set_option maxHeartbeats 16000000
set_option maxRecDepth 20000
set_option linter.unusedSectionVars false
set_option linter.unusedSimpArgs false
set_option linter.unusedVariables false
namespace Go.TL
open Go.Proofs.Tryz
open Go.Proofs
theorem uk:(YtlabjopijpkiaaaGreat.Rows.lightChecksRow.wf (OpenSpec.ofChange YtlabjopijpkiaaaGreat.Rows.lightChecksSpec))=true:=by kernel_rfl
theorem uj:(Tryz.f8.params.all (prog.readableRec ·))=true:=by kernel_rfl
theorem ui:(namedTie prog YtlabjopijpkiaaaGreat.Rows.lightChecksRow.named YtlabjopijpkiaaaGreat.Rows.lightChecksSpec.vars)=true:=by kernel_rfl
theorem uh:((YtlabjopijpkiaaaGreat.Rows.lightChecksRow.stops==[]))=true:=by kernel_rfl
theorem ug:((YtlabjopijpkiaaaGreat.Rows.lightChecksRow.knobs==[]))=true:=by kernel_rfl
theorem uf:((YtlabjopijpkiaaaGreat.Rows.lightChecksRow.inPlace==prog.inPlace 8))=true:=by kernel_rfl
theorem ub:((YtlabjopijpkiaaaGreat.Rows.lightChecksRow.unfollowed==prog.unfollowed 8))=true:=by kernel_rfl
theorem ua:((YtlabjopijpkiaaaGreat.Rows.lightChecksRow.recurses==prog.recurses 8))=true:=by kernel_rfl
theorem tZ:((YtlabjopijpkiaaaGreat.Rows.lightChecksRow.named==prog.varsNamed 8))=true:=by kernel_rfl
theorem tY:((YtlabjopijpkiaaaGreat.Rows.lightChecksRow.maps==(Tryz.f8.params.toList++YtlabjopijpkiaaaGreat.Rows.lightChecksSpec.plain.varTypes prog).any (prog.mapsRec ·)))=true:=by kernel_rfl
theorem tX:((YtlabjopijpkiaaaGreat.Rows.lightChecksRow.ifaces==(Tryz.f8.params.toList++YtlabjopijpkiaaaGreat.Rows.lightChecksSpec.plain.varTypes prog).any (prog.ifacesRec ·)))=true:=by kernel_rfl
theorem tW:((YtlabjopijpkiaaaGreat.Rows.lightChecksRow.mapsOut==prog.mapsAmong Tryz.f8.resultTypes.toList))=true:=by kernel_rfl
theorem tV:((YtlabjopijpkiaaaGreat.Rows.lightChecksRow.loops==(Tryz.f8.params.toList++YtlabjopijpkiaaaGreat.Rows.lightChecksSpec.plain.varTypes prog).any (prog.loopsFrom ·)))=true:=by kernel_rfl
theorem tU:((YtlabjopijpkiaaaGreat.Rows.lightChecksRow.wideKeys==(Tryz.f8.params.toList++YtlabjopijpkiaaaGreat.Rows.lightChecksSpec.plain.varTypes prog++Tryz.f8.resultTypes.toList).any (prog.wideKeysFrom ·)))=true:=by kernel_rfl
theorem tT:(YtlabjopijpkiaaaGreat.Rows.lightChecksSpec.vars.all (prog.varReadable ·))=true:=by kernel_rfl
theorem tS:(Tryz.f8.resultTypes.all (λt=>prog.readableRec t&&decide (t<prog.types.size)))=true:=by kernel_rfl
theorem tR:((YtlabjopijpkiaaaGreat.Rows.lightChecksRow.ifacesOut==Tryz.f8.resultTypes.toList.any (prog.ifacesRec ·)))=true:=by kernel_rfl
theorem tQ:((YtlabjopijpkiaaaGreat.Rows.lightChecksRow.loopsOut==Tryz.f8.resultTypes.toList.any (prog.loopsFrom ·)))=true:=by kernel_rfl
theorem tP:((YtlabjopijpkiaaaGreat.Rows.lightChecksRow.plainKeys==prog.plainKeys))=true:=by kernel_rfl
theorem tO:(YtlabjopijpkiaaaGreat.Rows.lightChecksRow.shortTexts.isNone)=true:=by kernel_rfl
theorem tN:((YtlabjopijpkiaaaGreat.Rows.lightChecksRow.lifted==prog.liftsFinal))=true:=by kernel_rfl
theorem tM:((prog.make==some YtlabjopijpkiaaaGreat.Rows.lightChecksRow.make))=true:=by kernel_rfl
theorem tL:((YtlabjopijpkiaaaGreat.Rows.lightChecksRow.kinds==(if YtlabjopijpkiaaaGreat.Rows.lightChecksRow.domain.isEmpty then [] else Tryz.f8.params.toList.map λt=>match prog.underlying t with|some (.int k)=>some k|_=>none)))=true:=by kernel_rfl
theorem tK:((YtlabjopijpkiaaaGreat.Rows.lightChecksRow.pinned==YtlabjopijpkiaaaGreat.Rows.lightChecksRow.pinnedBy))=true:=by kernel_rfl
theorem tJ:((YtlabjopijpkiaaaGreat.Rows.lightChecksRow.veiled==(Tryz.f8.params.toList++YtlabjopijpkiaaaGreat.Rows.lightChecksSpec.plain.varTypes prog++Tryz.f8.resultTypes.toList).any (prog.veiledRec ·)))=true:=by kernel_rfl
theorem tI:(YtlabjopijpkiaaaGreat.Rows.lightChecksRow.veiledFits prog Tryz.f8.params.toList (Tryz.f8.params.toList++YtlabjopijpkiaaaGreat.Rows.lightChecksSpec.plain.varTypes prog++Tryz.f8.resultTypes.toList))=true:=by kernel_rfl
theorem tH:joinedFacts prog 8 Tryz.f8 YtlabjopijpkiaaaGreat.Rows.lightChecksSpec YtlabjopijpkiaaaGreat.Rows.lightChecksRow=true:=by
 unfold joinedFacts;simp only[Bool.and_eq_true];exact⟨⟨⟨⟨⟨⟨⟨⟨⟨⟨⟨⟨⟨⟨⟨⟨⟨⟨⟨⟨⟨⟨⟨⟨⟨⟨⟨⟨⟨⟨⟨uk,uw⟩,uv⟩,uj⟩,ui⟩,uh⟩,uu⟩,ug⟩,uq⟩,uf⟩,ub⟩,ua⟩,tZ⟩,tY⟩,tX⟩,tW⟩,tV⟩,tU⟩,tT⟩,tS⟩,tR⟩,tQ⟩,tP⟩,tO⟩,uo⟩,um⟩,tN⟩,tM⟩,tL⟩,tK⟩,tJ⟩,tI⟩
end Go.TL
