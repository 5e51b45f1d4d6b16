/- GapTrue: a torn gap that the kit makes holds its own words. -/
import Derived.Test.YtkndbcflmgogjaaGreatTAN
import Derived.Test.YtkndbcflmgogjaaGreatTAP
set_option maxHeartbeats 16000000
set_option maxRecDepth 20000
set_option linter.unusedSectionVars false
set_option linter.unusedSimpArgs false
set_option linter.unusedVariables false
namespace Go.TL
open Go.Proofs.Tryz
open Go.Conc Go.ConcM Go.Proofs
open Go.ChangeShapes Go.WideShapes Go.ChangeAt Go.RowKit
set_option maxRecDepth 100000 in
theorem jP(A:∀(W:World)(l:ψ)(v:Value),l.length<2 ^ 63->Θ (PK W) [] [] (δ I 1 l) v->Comes prog (λv=>v=.bool true) W (solo (Go.Conc.G (Frame.enter prog 3 #[v] .normal) []) W) #[])
  (k:Os) (B:k.Started) (H:Type) (enc:TypeId×Value->H) (F:Stop.Interp) :
  ReturnsInLeavingWide YtkndbcflmgogjaaGreat.Rows.gapTrueRow.assume checked k 3 .any (YtkndbcflmgogjaaGreat.Rows.gapTrueSpec.pre6 enc prog Tryz.f3 YtkndbcflmgogjaaGreat.Rows.gapTrueRow.domain YtkndbcflmgogjaaGreat.Rows.gapTrueRow.apart)
   ((OpenSpec.ofChange YtkndbcflmgogjaaGreat.Rows.gapTrueSpec).postWith enc prog Tryz.f3 F (outsideKept [.timePasses]) YtkndbcflmgogjaaGreat.Rows.gapTrueRow.apart YtkndbcflmgogjaaGreat.Rows.gapTrueRow.fresh YtkndbcflmgogjaaGreat.Rows.gapTrueRow.handsOn):=by
 refine returnsInLeavingWide_of_change_time (C:=checked) pj B func3
  (ChangeSpec.witness6c (enc:=enc) (C:=checked) ⟨#[],#[.slice none 0 0],[]⟩ 8 XL XL XL XL) ?_
 intro W base args ds ah ai D m _ _ _;have n:∀(j:Nat) t v,Tryz.f3.params[j]?=some t->args[j]?=some v->Value.okWide prog W .any base t v:=D;have r:=m;obtain⟨p,q,E,K,rfl,aj,ak⟩:=m;have s:DataW.TrodAll enc prog W 0 (λ_=>true) true Tryz.f3.params.toList args.toList ds p:=E;rw[params3]at s n;obtain⟨d,d0,rfl,rfl,u⟩:=trodAll_one s;obtain⟨rfl,rfl⟩:=trodVars_none K;have L:∀x∈p,x.block<W.heap.size:=λx f=>by simpa using r.lt x (List.mem_append_left _ f)
 have N:∀(g:World),Below W.heap.size W g->DataW.Trod enc prog g 0 (λb=>decide (b<W.heap.size)) true 22 d d0 p:=
  λg O=>Below.trod ph XL (of_decide_eq_true XL) u O L
 obtain⟨l,i,P⟩:∃l:ψ,l.length<2 ^ 63/\Θ (PK W) [] [] (δ I 1 l) d:=by
  obtain⟨al,len,cap,rfl⟩:=okWide_slice underlying22 (n 0 22 d U U);obtain⟨am,Q⟩:=u;rcases open_ints underlying22 underlying3 pg Q with⟨c,f⟩|⟨a,an,ao,R,c,_,i,S,T,f,V,ap⟩
  .simp[Value.cells]at c;obtain⟨rfl,rfl,rfl⟩:=c;exact⟨[],θ,.WI _ _ o⟩
  simp[Value.cells]at c;obtain⟨rfl,rfl,rfl⟩:=c;simp only[if_true]at T;refine⟨R.take len,?_,pe i J V⟩;rw[T5];unfold maxLen at S;omega
 obtain⟨M,X,Y,w',t',Z,aa,ab,v,e,w,ad,ae,af,ag⟩:=A W l d i P;refine⟨M,X,Y,w',t',Z,aa,ab,v,e,⟨?_,w.2.os⟩,ad,ae,af,ag⟩;obtain⟨rfl,y⟩:=w;exact⟨_,_,_,[],_,[],r,trodAll_mk1 (shut_bool underlying4 _),trodAll_mk1 (N _ y.below),U,y.below.frame _,λh=>by cases h⟩
theorem jO(W:World)(l:ψ)(v:Value)(e:l.length<2 ^ 63)(f:Θ (PK W) [] [] (δ I 1 l) v):Comes prog (λv=>v=.bool true) W (solo (Go.Conc.G (Frame.enter prog 3 #[v] .normal) []) W) #[]:=
 pk (d:=2) (l:=[δ I 1 l]) func3 U XL XL ⟨U,λi a u b c=>by
  match i with
  | 0=>simp at b c;subst b;subst c;exact f
  | i+1=>simp at b⟩ (by rw[ntmps3];simp) (kt l e)
end Go.TL
namespace Go.Proofs.YtkndbcflmgogjaaGreat
open Go.Proofs.Tryz
open Go.TL
theorem gap_true:Rows.GapTrueSaid:=
 OpenClaim.holds_of_wide_leaving_time 3 Tryz.f3 U U U U U U U ⟨U,U,U,U,U⟩ U U U U U XL func3 jQ
  (of_decide_eq_true XL) (by unfold Func.isWrapper;first|(rw[if_pos (by decide +kernel)];kernel_rfl)|(rw[if_neg (by decide +kernel)];exact⟨rfl,rfl⟩))
  (λa b H enc _ F=>jP jO a b H enc F)
end Go.Proofs.YtkndbcflmgogjaaGreat
