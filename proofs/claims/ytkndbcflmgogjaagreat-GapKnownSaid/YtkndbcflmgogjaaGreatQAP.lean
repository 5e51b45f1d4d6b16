import Derived.Test.YtkndbcflmgogjaaGreatQAO
set_option maxHeartbeats 16000000
set_option maxRecDepth 20000
set_option linter.unusedSectionVars false
set_option linter.unusedSimpArgs false
set_option linter.unusedVariables false
namespace Go.TL
open Go.Proofs.Tryz
open Go.Proofs
theorem lM:(YtkndbcflmgogjaaGreat.Rows.gapKnownRow.wf (OpenSpec.ofChange YtkndbcflmgogjaaGreat.Rows.gapKnownSpec))=true:=by kernel_rfl
theorem lL:(Tryz.f4.params.all (prog.readableRec ·))=true:=by kernel_rfl
theorem lK:(namedTie prog YtkndbcflmgogjaaGreat.Rows.gapKnownRow.named YtkndbcflmgogjaaGreat.Rows.gapKnownSpec.vars)=true:=by kernel_rfl
theorem lJ:((YtkndbcflmgogjaaGreat.Rows.gapKnownRow.stops==[]))=true:=by kernel_rfl
theorem lI:((YtkndbcflmgogjaaGreat.Rows.gapKnownRow.knobs==[]))=true:=by kernel_rfl
theorem lH:((YtkndbcflmgogjaaGreat.Rows.gapKnownRow.inPlace==prog.inPlace 4))=true:=by kernel_rfl
theorem lG:((YtkndbcflmgogjaaGreat.Rows.gapKnownRow.unfollowed==prog.unfollowed 4))=true:=by kernel_rfl
theorem lF:((YtkndbcflmgogjaaGreat.Rows.gapKnownRow.recurses==prog.recurses 4))=true:=by kernel_rfl
theorem lE:((YtkndbcflmgogjaaGreat.Rows.gapKnownRow.named==prog.varsNamed 4))=true:=by kernel_rfl
theorem lD:((YtkndbcflmgogjaaGreat.Rows.gapKnownRow.maps==(Tryz.f4.params.toList++YtkndbcflmgogjaaGreat.Rows.gapKnownSpec.plain.varTypes prog).any (prog.mapsRec ·)))=true:=by kernel_rfl
theorem lC:((YtkndbcflmgogjaaGreat.Rows.gapKnownRow.ifaces==(Tryz.f4.params.toList++YtkndbcflmgogjaaGreat.Rows.gapKnownSpec.plain.varTypes prog).any (prog.ifacesRec ·)))=true:=by kernel_rfl
theorem lB:((YtkndbcflmgogjaaGreat.Rows.gapKnownRow.mapsOut==prog.mapsAmong Tryz.f4.resultTypes.toList))=true:=by kernel_rfl
theorem lA:((YtkndbcflmgogjaaGreat.Rows.gapKnownRow.loops==(Tryz.f4.params.toList++YtkndbcflmgogjaaGreat.Rows.gapKnownSpec.plain.varTypes prog).any (prog.loopsFrom ·)))=true:=by kernel_rfl
theorem lz:((YtkndbcflmgogjaaGreat.Rows.gapKnownRow.wideKeys==(Tryz.f4.params.toList++YtkndbcflmgogjaaGreat.Rows.gapKnownSpec.plain.varTypes prog++Tryz.f4.resultTypes.toList).any (prog.wideKeysFrom ·)))=true:=by kernel_rfl
theorem ly:(YtkndbcflmgogjaaGreat.Rows.gapKnownSpec.vars.all (prog.varReadable ·))=true:=by kernel_rfl
theorem lx:(Tryz.f4.resultTypes.all (λt=>prog.readableRec t&&decide (t<prog.types.size)))=true:=by kernel_rfl
theorem lu:((YtkndbcflmgogjaaGreat.Rows.gapKnownRow.ifacesOut==Tryz.f4.resultTypes.toList.any (prog.ifacesRec ·)))=true:=by kernel_rfl
theorem lr:((YtkndbcflmgogjaaGreat.Rows.gapKnownRow.loopsOut==Tryz.f4.resultTypes.toList.any (prog.loopsFrom ·)))=true:=by kernel_rfl
theorem lq:((YtkndbcflmgogjaaGreat.Rows.gapKnownRow.plainKeys==prog.plainKeys))=true:=by kernel_rfl
theorem lp:(YtkndbcflmgogjaaGreat.Rows.gapKnownRow.shortTexts.isNone)=true:=by kernel_rfl
theorem ln:((YtkndbcflmgogjaaGreat.Rows.gapKnownRow.lifted==prog.liftsFinal))=true:=by kernel_rfl
theorem ll:((prog.make==some YtkndbcflmgogjaaGreat.Rows.gapKnownRow.make))=true:=by kernel_rfl
theorem lk:((YtkndbcflmgogjaaGreat.Rows.gapKnownRow.kinds==(if YtkndbcflmgogjaaGreat.Rows.gapKnownRow.domain.isEmpty then [] else Tryz.f4.params.toList.map λt=>match prog.underlying t with|some (.int k)=>some k|_=>none)))=true:=by kernel_rfl
theorem lj:((YtkndbcflmgogjaaGreat.Rows.gapKnownRow.pinned==YtkndbcflmgogjaaGreat.Rows.gapKnownRow.pinnedBy))=true:=by kernel_rfl
theorem lh:((YtkndbcflmgogjaaGreat.Rows.gapKnownRow.veiled==(Tryz.f4.params.toList++YtkndbcflmgogjaaGreat.Rows.gapKnownSpec.plain.varTypes prog++Tryz.f4.resultTypes.toList).any (prog.veiledRec ·)))=true:=by kernel_rfl
theorem lg:(YtkndbcflmgogjaaGreat.Rows.gapKnownRow.veiledFits prog Tryz.f4.params.toList (Tryz.f4.params.toList++YtkndbcflmgogjaaGreat.Rows.gapKnownSpec.plain.varTypes prog++Tryz.f4.resultTypes.toList))=true:=by kernel_rfl
theorem lf:joinedFacts prog 4 Tryz.f4 YtkndbcflmgogjaaGreat.Rows.gapKnownSpec YtkndbcflmgogjaaGreat.Rows.gapKnownRow=true:=by
 unfold joinedFacts;simp only[Bool.and_eq_true];exact⟨⟨⟨⟨⟨⟨⟨⟨⟨⟨⟨⟨⟨⟨⟨⟨⟨⟨⟨⟨⟨⟨⟨⟨⟨⟨⟨⟨⟨⟨⟨lM,lS⟩,lR⟩,lL⟩,lK⟩,lJ⟩,lQ⟩,lI⟩,lP⟩,lH⟩,lG⟩,lF⟩,lE⟩,lD⟩,lC⟩,lB⟩,lA⟩,lz⟩,ly⟩,lx⟩,lu⟩,lr⟩,lq⟩,lp⟩,lO⟩,lN⟩,ln⟩,ll⟩,lk⟩,lj⟩,lh⟩,lg⟩
end Go.TL
