/- LightTrue: if all photographs are right with some inks and readings, Inks, Readings and Letters have them, and nothing is wrong. No conditions. -/
import Derived.Test.YtlabjopijpkiaaaGreatJBI
import Derived.Test.YtlabjopijpkiaaaGreatJBJ
set_option maxHeartbeats 16000000
set_option maxRecDepth 20000
set_option linter.unusedSectionVars false
set_option linter.unusedSimpArgs false
set_option linter.unusedVariables false
namespace Go.TL
open Go.Proofs.Tryz
open Go.Conc Go.ConcM Go.Proofs
open Go.ChangeShapes Go.WideShapes Go.ChangeAt Go.RowKit
set_option maxRecDepth 100000 in
theorem ov (A:∀(W:World) (l:List Int) (v:Value),l.length<2 ^ 63->π (Up W) [] [] (Z9 J 1 l) v->Comes prog (λv=>v=.bool true) W (solo (Go.Conc.G (Frame.enter prog 18 #[v] .normal) []) W) #[])
  (k:Os) (B:k.Started) (H:Type) (enc:TypeId×Value->H) (F:Stop.Interp) :
  ReturnsInLeavingWide YtlabjopijpkiaaaGreat.Rows.lightTrueRow.assume checked k 18 .any (YtlabjopijpkiaaaGreat.Rows.lightTrueSpec.pre6 enc prog f18 YtlabjopijpkiaaaGreat.Rows.lightTrueRow.domain YtlabjopijpkiaaaGreat.Rows.lightTrueRow.apart)
   ((OpenSpec.ofChange YtlabjopijpkiaaaGreat.Rows.lightTrueSpec).postWith enc prog f18 F (outsideKept [.timePasses]) YtlabjopijpkiaaaGreat.Rows.lightTrueRow.apart YtlabjopijpkiaaaGreat.Rows.lightTrueRow.fresh YtlabjopijpkiaaaGreat.Rows.lightTrueRow.handsOn):=by
 refine returnsInLeavingWide_of_change_time (C:=checked) FP B func18
  (ChangeSpec.witness6c (enc:=enc) (C:=checked) ⟨#[],#[.slice none 0 0],[]⟩ 8 (by kernel_rfl) (by kernel_rfl) (by kernel_rfl) (by kernel_rfl)) ?_
 intro W base args ds ag ah D m _ _ _;have n:∀(j:Nat) t v,f18.params[j]?=some t->args[j]?=some v->Value.okWide prog W .any base t v:=D;have r:=m;obtain⟨p,q,E,K,rfl,ai,aj⟩:=m;have s:DataW.TrodAll enc prog W 0 (λ_=>true) true f18.params.toList args.toList ds p:=E;rw[params18] at s n;obtain⟨d,d0,rfl,rfl,u⟩:=trodAll_one s;obtain⟨rfl,rfl⟩:=trodVars_none K;have L:∀x∈p,x.block<W.heap.size:=λx f=>by simpa using r.lt x (List.mem_append_left _ f)
 have M:∀(g:World),Below W.heap.size W g->DataW.Trod enc prog g 0 (λb=>decide (b<W.heap.size)) true 29 d d0 p:=
  λg N=>Below.trod FO (by kernel_rfl) (of_decide_eq_true (by kernel_rfl)) u N L
 obtain⟨l,i,O⟩:∃l:List Int,l.length<2 ^ 63/\π (Up W) [] [] (Z9 J 1 l) d:=by
  obtain⟨ak,len,cap,rfl⟩:=okWide_slice underlying29 (n 0 29 d rfl rfl);obtain⟨al,P⟩:=u;rcases open_ints underlying29 underlying3 FN P with⟨c,f⟩|⟨a,am,an,Q,c,_,i,R,S,f,T,ao⟩
  .simp[Value.cells] at c;obtain⟨rfl,rfl,rfl⟩:=c;exact⟨[],ZY,.Wo _ _ I⟩
  .simp[Value.cells] at c;obtain⟨rfl,rfl,rfl⟩:=c;simp only[if_true] at S;refine⟨Q.take len,?_,FM i U T⟩;rw[SY];unfold maxLen at R;omega
 obtain⟨V,X,o,w',t',Y,Z,aa,v,e,w,ab,ad,ae,af⟩:=A W l d i O;refine⟨V,X,o,w',t',Y,Z,aa,v,e,⟨?_,w.2.os⟩,ab,ad,ae,af⟩;obtain⟨rfl,y⟩:=w;exact⟨_,_,_,[],_,[],r,trodAll_mk1 (shut_bool underlying4 _),trodAll_mk1 (M _ y.below),rfl,y.below.frame _,λh=>by cases h⟩
theorem ou (W:World) (l:List Int) (v:Value) (e:l.length<2 ^ 63) (f:π (Up W) [] [] (Z9 J 1 l) v):Comes prog (λv=>v=.bool true) W (solo (Go.Conc.G (Frame.enter prog 18 #[v] .normal) []) W) #[]:=
 FQ (d:=2) (l:=[Z9 J 1 l]) func18 rfl (by kernel_rfl) (by kernel_rfl) ⟨rfl,λi a u b c=>by
  match i with
  | 0=>simp at b c;subst b;subst c;exact f
  | i+1=>simp at b⟩ (by rw[ntmps18];simp) (oX l e)
end Go.TL
namespace Go.Proofs.YtlabjopijpkiaaaGreat
open Go.Proofs.Tryz
open Go.TL
theorem light_true:Rows.LightTrueSaid:=
 OpenClaim.holds_of_wide_leaving_time 18 f18 rfl rfl rfl rfl rfl rfl rfl ⟨rfl,rfl,rfl,rfl,rfl⟩ rfl rfl rfl rfl rfl (by kernel_rfl) func18 ow
  (of_decide_eq_true (by kernel_rfl)) (by unfold Func.isWrapper;first|(rw[if_pos (by decide +kernel)];kernel_rfl)|(rw[if_neg (by decide +kernel)];exact⟨rfl,rfl⟩))
  (λa b H enc _ F=>ov ou a b H enc F)
end Go.Proofs.YtlabjopijpkiaaaGreat
