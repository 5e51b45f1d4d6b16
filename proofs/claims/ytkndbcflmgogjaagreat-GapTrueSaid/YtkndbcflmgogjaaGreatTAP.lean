import Derived.Test.YtkndbcflmgogjaaGreatTAO
set_option linter.defProp false
set_option maxHeartbeats 16000000
set_option maxRecDepth 20000
set_option linter.unusedSectionVars false
set_option linter.unusedSimpArgs false
set_option linter.unusedVariables false
namespace Go.TL
open Go.Proofs.Tryz
open Go.Proofs
def km:(YtkndbcflmgogjaaGreat.Rows.gapTrueRow.wf (OpenSpec.ofChange YtkndbcflmgogjaaGreat.Rows.gapTrueSpec))=true:=by kernel_rfl
def kl:(Tryz.f3.params.all (prog.readableRec ·))=true:=by kernel_rfl
def kj:(namedTie prog YtkndbcflmgogjaaGreat.Rows.gapTrueRow.named YtkndbcflmgogjaaGreat.Rows.gapTrueSpec.vars)=true:=by kernel_rfl
def ki:((YtkndbcflmgogjaaGreat.Rows.gapTrueRow.stops==[]))=true:=by kernel_rfl
def kh:((YtkndbcflmgogjaaGreat.Rows.gapTrueRow.knobs==[]))=true:=by kernel_rfl
def kg:((YtkndbcflmgogjaaGreat.Rows.gapTrueRow.inPlace==prog.inPlace 3))=true:=by kernel_rfl
def j':((YtkndbcflmgogjaaGreat.Rows.gapTrueRow.unfollowed==prog.unfollowed 3))=true:=by kernel_rfl
def j9:((YtkndbcflmgogjaaGreat.Rows.gapTrueRow.recurses==prog.recurses 3))=true:=by kernel_rfl
def j8:((YtkndbcflmgogjaaGreat.Rows.gapTrueRow.named==prog.varsNamed 3))=true:=by kernel_rfl
def j7:((YtkndbcflmgogjaaGreat.Rows.gapTrueRow.maps==(Tryz.f3.params.toList++YtkndbcflmgogjaaGreat.Rows.gapTrueSpec.plain.varTypes prog).any (prog.mapsRec ·)))=true:=by kernel_rfl
def j6:((YtkndbcflmgogjaaGreat.Rows.gapTrueRow.ifaces==(Tryz.f3.params.toList++YtkndbcflmgogjaaGreat.Rows.gapTrueSpec.plain.varTypes prog).any (prog.ifacesRec ·)))=true:=by kernel_rfl
def j5:((YtkndbcflmgogjaaGreat.Rows.gapTrueRow.mapsOut==prog.mapsAmong Tryz.f3.resultTypes.toList))=true:=by kernel_rfl
def j4:((YtkndbcflmgogjaaGreat.Rows.gapTrueRow.loops==(Tryz.f3.params.toList++YtkndbcflmgogjaaGreat.Rows.gapTrueSpec.plain.varTypes prog).any (prog.loopsFrom ·)))=true:=by kernel_rfl
def j3:((YtkndbcflmgogjaaGreat.Rows.gapTrueRow.wideKeys==(Tryz.f3.params.toList++YtkndbcflmgogjaaGreat.Rows.gapTrueSpec.plain.varTypes prog++Tryz.f3.resultTypes.toList).any (prog.wideKeysFrom ·)))=true:=by kernel_rfl
def j2:(YtkndbcflmgogjaaGreat.Rows.gapTrueSpec.vars.all (prog.varReadable ·))=true:=by kernel_rfl
def j1:(Tryz.f3.resultTypes.all (λt=>prog.readableRec t&&decide (t<prog.types.size)))=true:=by kernel_rfl
def j0:((YtkndbcflmgogjaaGreat.Rows.gapTrueRow.ifacesOut==Tryz.f3.resultTypes.toList.any (prog.ifacesRec ·)))=true:=by kernel_rfl
def jZ:((YtkndbcflmgogjaaGreat.Rows.gapTrueRow.loopsOut==Tryz.f3.resultTypes.toList.any (prog.loopsFrom ·)))=true:=by kernel_rfl
def jY:((YtkndbcflmgogjaaGreat.Rows.gapTrueRow.plainKeys==prog.plainKeys))=true:=by kernel_rfl
def jX:(YtkndbcflmgogjaaGreat.Rows.gapTrueRow.shortTexts.isNone)=true:=by kernel_rfl
def jW:((YtkndbcflmgogjaaGreat.Rows.gapTrueRow.lifted==prog.liftsFinal))=true:=by kernel_rfl
def jV:((prog.make==some YtkndbcflmgogjaaGreat.Rows.gapTrueRow.make))=true:=by kernel_rfl
def jU:((YtkndbcflmgogjaaGreat.Rows.gapTrueRow.kinds==(if YtkndbcflmgogjaaGreat.Rows.gapTrueRow.domain.isEmpty then [] else Tryz.f3.params.toList.map λt=>match prog.underlying t with|some (.int k)=>some k|_=>none)))=true:=by kernel_rfl
def jT:((YtkndbcflmgogjaaGreat.Rows.gapTrueRow.pinned==YtkndbcflmgogjaaGreat.Rows.gapTrueRow.pinnedBy))=true:=by kernel_rfl
def jS:((YtkndbcflmgogjaaGreat.Rows.gapTrueRow.veiled==(Tryz.f3.params.toList++YtkndbcflmgogjaaGreat.Rows.gapTrueSpec.plain.varTypes prog++Tryz.f3.resultTypes.toList).any (prog.veiledRec ·)))=true:=by kernel_rfl
def jR:(YtkndbcflmgogjaaGreat.Rows.gapTrueRow.veiledFits prog Tryz.f3.params.toList (Tryz.f3.params.toList++YtkndbcflmgogjaaGreat.Rows.gapTrueSpec.plain.varTypes prog++Tryz.f3.resultTypes.toList))=true:=by kernel_rfl
def jQ:joinedFacts prog 3 Tryz.f3 YtkndbcflmgogjaaGreat.Rows.gapTrueSpec YtkndbcflmgogjaaGreat.Rows.gapTrueRow=true:=by
 unfold joinedFacts;simp only[Bool.and_eq_true];exact⟨⟨⟨⟨⟨⟨⟨⟨⟨⟨⟨⟨⟨⟨⟨⟨⟨⟨⟨⟨⟨⟨⟨⟨⟨⟨⟨⟨⟨⟨⟨km,ks⟩,kr⟩,kl⟩,kj⟩,ki⟩,kq⟩,kh⟩,kp⟩,kg⟩,j'⟩,j9⟩,j8⟩,j7⟩,j6⟩,j5⟩,j4⟩,j3⟩,j2⟩,j1⟩,j0⟩,jZ⟩,jY⟩,jX⟩,ko⟩,kn⟩,jW⟩,jV⟩,jU⟩,jT⟩,jS⟩,jR⟩
end Go.TL
