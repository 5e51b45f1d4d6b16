/- GapKnown: the chapter examples, walked through the program and its goroutines -/
import Derived.OpenShut
import Derived.Test.YtkndbcflmgogjaaGreatQAN
import Derived.Test.YtkndbcflmgogjaaGreatQAP
set_option maxHeartbeats 16000000
set_option maxRecDepth 20000
set_option linter.unusedSectionVars false
set_option linter.unusedSimpArgs false
set_option linter.unusedVariables false
namespace Go.TL
open Go.Proofs.Tryz
open Go.Conc Go.ConcM Go.Proofs
open Go.ChangeShapes Go.WideShapes Go.ChangeAt Go.RowKit
set_option maxRecDepth 100000 in
theorem lb (d:∀W:World,Comes prog (λv=>v=.bool true) W (solo (Go.Conc.G (Frame.enter prog 4 #[] .normal) []) W) #[])
  (a:Os) (f:a.Started) (H:Type) (enc:TypeId×Value->H) (F:Stop.Interp) :
  ReturnsInLeavingWide YtkndbcflmgogjaaGreat.Rows.gapKnownRow.assume checked a 4 .any (YtkndbcflmgogjaaGreat.Rows.gapKnownSpec.pre6 enc prog Tryz.f4 YtkndbcflmgogjaaGreat.Rows.gapKnownRow.domain YtkndbcflmgogjaaGreat.Rows.gapKnownRow.apart)
   ((OpenSpec.ofChange YtkndbcflmgogjaaGreat.Rows.gapKnownSpec).postWith enc prog Tryz.f4 F (outsideKept [.timePasses]) YtkndbcflmgogjaaGreat.Rows.gapKnownRow.apart YtkndbcflmgogjaaGreat.Rows.gapKnownRow.fresh YtkndbcflmgogjaaGreat.Rows.gapKnownRow.handsOn):=by
 refine returnsInLeavingWide_of_change_time (C:=checked) q0 f func4
  (ChangeSpec.witness6c (enc:=enc) (C:=checked) ⟨#[],#[],[]⟩ 8 Wf Wf Wf Wf) ?_
 intro W base args ds x y A b _ _ _;have g:=b;obtain⟨p,q,i,j,rfl,_,_⟩:=b;obtain⟨rfl,rfl,rfl⟩:=trodAll_none (args:=args) i;obtain⟨rfl,rfl⟩:=trodVars_none j;obtain⟨M,k,o,w',t',l,m,n,v,e,c,r,s,t,u⟩:=d W;refine⟨M,k,o,w',t',l,m,n,v,e,⟨?_,c.2.os⟩,r,s,t,u⟩;obtain⟨rfl,w⟩:=c;exact⟨_,_,_,[],[],[],g,trodAll_mk1 (shut_bool underlying4 _),trodAll_mk0,U,w.below.frame _,λh=>by cases h⟩
theorem k' (W:World):Comes prog (λv=>v=.bool true) W (solo (Go.Conc.G (Frame.enter prog 4 #[] .normal) []) W) #[]:=
 q1 (d:=0) (l:=[]) func4 U Wf Wf ⟨U,λi a u b c=>by simp at b⟩ (by rw[ntmps4];simp) lT
end Go.TL
namespace Go.Proofs.YtkndbcflmgogjaaGreat
open Go.Proofs.Tryz
open Go.TL
theorem gap_known:Rows.GapKnownSaid:=
 OpenClaim.holds_of_wide_leaving_time 4 Tryz.f4 U U U U U U U ⟨U,U,U,U,U⟩ U U U U U Wf func4 lf
  (of_decide_eq_true Wf) (by unfold Func.isWrapper;first|(rw[if_pos (by decide +kernel)];kernel_rfl)|(rw[if_neg (by decide +kernel)];exact⟨rfl,rfl⟩))
  (λa b H enc _ F=>lb k' a b H enc F)
end Go.Proofs.YtkndbcflmgogjaaGreat
