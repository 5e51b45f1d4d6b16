import Derived.Test.YtlabjopijpkiaaaGreatLAM
set_option maxHeartbeats 16000000
set_option maxRecDepth 20000
set_option linter.unusedSectionVars false
set_option linter.unusedSimpArgs false
set_option linter.unusedVariables false
namespace Go.TL
open Go.Proofs.Tryz
open Go.Proofs
theorem qq:(YtlabjopijpkiaaaGreat.Rows.lightReadsRow.wf (OpenSpec.ofChange YtlabjopijpkiaaaGreat.Rows.lightReadsSpec))=true:=by kernel_rfl
theorem qp:(f15.params.all (prog.readableRec ·))=true:=by kernel_rfl
theorem qo:(namedTie prog YtlabjopijpkiaaaGreat.Rows.lightReadsRow.named YtlabjopijpkiaaaGreat.Rows.lightReadsSpec.vars)=true:=by kernel_rfl
theorem qn:((YtlabjopijpkiaaaGreat.Rows.lightReadsRow.stops==[]))=true:=by kernel_rfl
theorem qm:((YtlabjopijpkiaaaGreat.Rows.lightReadsRow.knobs==[]))=true:=by kernel_rfl
theorem ql:((YtlabjopijpkiaaaGreat.Rows.lightReadsRow.inPlace==prog.inPlace 15))=true:=by kernel_rfl
theorem qk:((YtlabjopijpkiaaaGreat.Rows.lightReadsRow.unfollowed==prog.unfollowed 15))=true:=by kernel_rfl
theorem qj:((YtlabjopijpkiaaaGreat.Rows.lightReadsRow.recurses==prog.recurses 15))=true:=by kernel_rfl
theorem qi:((YtlabjopijpkiaaaGreat.Rows.lightReadsRow.named==prog.varsNamed 15))=true:=by kernel_rfl
theorem qh:((YtlabjopijpkiaaaGreat.Rows.lightReadsRow.maps==(f15.params.toList++YtlabjopijpkiaaaGreat.Rows.lightReadsSpec.plain.varTypes prog).any (prog.mapsRec ·)))=true:=by kernel_rfl
theorem qg:((YtlabjopijpkiaaaGreat.Rows.lightReadsRow.ifaces==(f15.params.toList++YtlabjopijpkiaaaGreat.Rows.lightReadsSpec.plain.varTypes prog).any (prog.ifacesRec ·)))=true:=by kernel_rfl
theorem qf:((YtlabjopijpkiaaaGreat.Rows.lightReadsRow.mapsOut==prog.mapsAmong f15.resultTypes.toList))=true:=by kernel_rfl
theorem qe:((YtlabjopijpkiaaaGreat.Rows.lightReadsRow.loops==(f15.params.toList++YtlabjopijpkiaaaGreat.Rows.lightReadsSpec.plain.varTypes prog).any (prog.loopsFrom ·)))=true:=by kernel_rfl
theorem qd:((YtlabjopijpkiaaaGreat.Rows.lightReadsRow.wideKeys==(f15.params.toList++YtlabjopijpkiaaaGreat.Rows.lightReadsSpec.plain.varTypes prog++f15.resultTypes.toList).any (prog.wideKeysFrom ·)))=true:=by kernel_rfl
theorem qc:(YtlabjopijpkiaaaGreat.Rows.lightReadsSpec.vars.all (prog.varReadable ·))=true:=by kernel_rfl
theorem qb:(f15.resultTypes.all (λt=>prog.readableRec t&&decide (t<prog.types.size)))=true:=by kernel_rfl
theorem qa:((YtlabjopijpkiaaaGreat.Rows.lightReadsRow.ifacesOut==f15.resultTypes.toList.any (prog.ifacesRec ·)))=true:=by kernel_rfl
theorem p':((YtlabjopijpkiaaaGreat.Rows.lightReadsRow.loopsOut==f15.resultTypes.toList.any (prog.loopsFrom ·)))=true:=by kernel_rfl
theorem p9:((YtlabjopijpkiaaaGreat.Rows.lightReadsRow.plainKeys==prog.plainKeys))=true:=by kernel_rfl
theorem p8:(YtlabjopijpkiaaaGreat.Rows.lightReadsRow.shortTexts.isNone)=true:=by kernel_rfl
theorem p7:((YtlabjopijpkiaaaGreat.Rows.lightReadsRow.lifted==prog.liftsFinal))=true:=by kernel_rfl
theorem p6:((prog.make==some YtlabjopijpkiaaaGreat.Rows.lightReadsRow.make))=true:=by kernel_rfl
theorem p5:((YtlabjopijpkiaaaGreat.Rows.lightReadsRow.kinds==(if YtlabjopijpkiaaaGreat.Rows.lightReadsRow.domain.isEmpty then [] else f15.params.toList.map λt=>match prog.underlying t with|some (.int k)=>some k|_=>none)))=true:=by kernel_rfl
theorem p1:((YtlabjopijpkiaaaGreat.Rows.lightReadsRow.pinned==YtlabjopijpkiaaaGreat.Rows.lightReadsRow.pinnedBy))=true:=by kernel_rfl
theorem p0:((YtlabjopijpkiaaaGreat.Rows.lightReadsRow.veiled==(f15.params.toList++YtlabjopijpkiaaaGreat.Rows.lightReadsSpec.plain.varTypes prog++f15.resultTypes.toList).any (prog.veiledRec ·)))=true:=by kernel_rfl
theorem pZ:(YtlabjopijpkiaaaGreat.Rows.lightReadsRow.veiledFits prog f15.params.toList (f15.params.toList++YtlabjopijpkiaaaGreat.Rows.lightReadsSpec.plain.varTypes prog++f15.resultTypes.toList))=true:=by kernel_rfl
theorem pY:joinedFacts prog 15 f15 YtlabjopijpkiaaaGreat.Rows.lightReadsSpec YtlabjopijpkiaaaGreat.Rows.lightReadsRow=true:=by
 unfold joinedFacts;simp only[Bool.and_eq_true];exact⟨⟨⟨⟨⟨⟨⟨⟨⟨⟨⟨⟨⟨⟨⟨⟨⟨⟨⟨⟨⟨⟨⟨⟨⟨⟨⟨⟨⟨⟨⟨qq,AM⟩,AL⟩,qp⟩,qo⟩,qn⟩,AK⟩,qm⟩,AJ⟩,ql⟩,qk⟩,qj⟩,qi⟩,qh⟩,qg⟩,qf⟩,qe⟩,qd⟩,qc⟩,qb⟩,qa⟩,p'⟩,p9⟩,p8⟩,AI⟩,AH⟩,p7⟩,p6⟩,p5⟩,p1⟩,p0⟩,pZ⟩
end Go.TL
