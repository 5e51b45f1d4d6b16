import Derived.Test.YtlabjopijpkiaaaGreatLAQ
import Derived.Test.YtlabjopijpkiaaaGreatLAR
set_option maxHeartbeats 16000000
set_option maxRecDepth 20000
set_option linter.unusedSectionVars false
set_option linter.unusedSimpArgs false
set_option linter.unusedVariables false
namespace Go.TL
open Go.Proofs.Tryz
open Go.Conc Go.ConcM Go.Proofs
open Go.ChangeShapes Go.WideShapes Go.ChangeAt Go.RowKit
set_option maxRecDepth 100000 in
theorem o4 (O:∀(W:World) (g:ω) (k:YV) (l:Int) (m:Int) (n:Bool) (f:ZZ) (args:ζ),f.length<2 ^ 63->XN (UW W) [] [] [Zq g,Zi k,I l,I m,ν n,δ I 1 f] args->Comes prog (λv=>v=.bool true) W (solo (Go.Conc.G (Frame.enter prog 10 args .normal) []) W) #[])
  (s:Os) (P:s.Started) (H:Type) (enc:TypeId×Value->H) (F:Stop.Interp) :
  ReturnsInLeavingWide YtlabjopijpkiaaaGreat.Rows.lightSaysRow.assume checked s 10 .any (YtlabjopijpkiaaaGreat.Rows.lightSaysSpec.pre6 enc prog Tryz.f10 YtlabjopijpkiaaaGreat.Rows.lightSaysRow.domain YtlabjopijpkiaaaGreat.Rows.lightSaysRow.apart)
   ((OpenSpec.ofChange YtlabjopijpkiaaaGreat.Rows.lightSaysSpec).postWith enc prog Tryz.f10 F (outsideKept [.timePasses]) YtlabjopijpkiaaaGreat.Rows.lightSaysRow.apart YtlabjopijpkiaaaGreat.Rows.lightSaysRow.fresh YtlabjopijpkiaaaGreat.Rows.lightSaysRow.handsOn):=by
 refine returnsInLeavingWide_of_change_time (C:=checked) BX P func10
  (ChangeSpec.witness6c (enc:=enc) (C:=checked) ⟨#[],#[.agg #[.slice none 0 0,.slice none 0 0,.slice none 0 0],.agg #[.int .i64 0,.int .i64 0,.int .i64 0],.int .i64 0,.int .i64 0,.bool false,.slice none 0 0],[]⟩ 8 Zr Zr Zr Zr) ?_
 intro W base args ds aO aP Q w _ _ _;have d:∀(j:Nat) t v,Tryz.f10.params[j]?=some t->args[j]?=some v->Value.okWide prog W .any base t v:=Q;have y:=w;obtain⟨p,q,R,S,rfl,aQ,aR⟩:=w;have r:DataW.TrodAll enc prog W 0 (λ_=>true) true Tryz.f10.params.toList args.toList ds p:=R;rw[params10] at r d;obtain⟨rfl,rfl⟩:=trodVars_none S;have T:∀x∈p,x.block<W.heap.size:=λx V=>by simpa using y.lt x (List.mem_append_left _ V)
 have X:∀t∈([26,28,3,3,4,29]:List TypeId),prog.readableRec t=true/\t<prog.types.size:=λt A=>by
  simp only[Y9,Yb,or_false] at A;rcases A with rfl|rfl|rfl|rfl|rfl|rfl<;>exact⟨by kernel_rfl,of_decide_eq_true Zr⟩
 have Y:=λ(Z:World) (aa:Below W.heap.size W Z)=>FY BW aa X r T;obtain⟨B,as0,d0,aS,aT,aU,ab,rfl,rfl,ad,ae⟩:=trodAll_cons r;obtain⟨D,aV,d1,aW,aX,aY,rfl,rfl,rfl,af,ag⟩:=trodAll_cons ae;obtain⟨E,aZ,d2,a0,a1,a2,rfl,rfl,rfl,ah,ai⟩:=trodAll_cons ag;obtain⟨J,a3,d3,a4,a5,a6,rfl,rfl,rfl,aj,ak⟩:=trodAll_cons ai;obtain⟨K,a7,d4,a8,a9,a',rfl,rfl,rfl,al,am⟩:=trodAll_cons ak;obtain⟨L,ba,d5,bb,bc,bd,rfl,rfl,rfl,an,ao⟩:=trodAll_cons am;obtain⟨rfl,rfl,rfl⟩:=trodAll_nil ao;obtain rfl:args=#[B,D,E,J,K,L]:=by
  cases args;simpa using ab
 obtain⟨ap,rfl,_⟩:=okWide_struct underlying26 (d 0 26 B U U);obtain⟨g,_,aq⟩:=Ie BS (λ_=>rfl) ad;obtain⟨ar,rfl,_⟩:=okWide_struct underlying28 (d 1 28 D U U);obtain⟨k,_,au⟩:=Ie FZ (λ_=>rfl) af;obtain⟨av,rfl⟩:=okWide_int underlying3 (d 2 3 E U U);obtain⟨l,be,aw⟩:=NT (OR underlying3) (λ_=>rfl) ah U;obtain⟨ax,rfl⟩:=okWide_int underlying3 (d 3 3 J U U);obtain⟨m,bf,ay⟩:=NT (OR underlying3) (λ_=>rfl) aj U;obtain⟨az,rfl⟩:=okWide_bool underlying4 (d 4 4 K U U);obtain⟨n,bg,aA⟩:=NT (BV underlying4) (λ_=>rfl) al U;obtain⟨aB,aC,aD,rfl⟩:=okWide_slice underlying29 (d 5 29 L U U);obtain⟨f,aE,aF⟩:=NT F0 (λ_=>rfl) an U;have aG:XN (UW W) [] [] [Zq g,Zi k,I l,I m,ν n,δ I 1 f] #[.agg ap,.agg ar,.int .i64 av,.int .i64 ax,.bool az,.slice aB aC aD]:=⟨U,λi a u b c=>by
  match i with
  | 0=>simp at b c;subst b;subst c;exact aq
  | 1=>simp at b c;subst b;subst c;exact au
  | 2=>simp at b c;subst b;subst c;exact aw
  | 3=>simp at b c;subst b;subst c;exact ay
  | 4=>simp at b c;subst b;subst c;exact aA
  | 5=>simp at b c;subst b;subst c;exact aF
  | i+6=>simp at b⟩
 obtain⟨aH,aI,o,w',t',aJ,aK,aL,v,e,M,b,c,aM,aN⟩:=O W g k l m n f _ aE.1 aG;refine⟨aH,aI,o,w',t',aJ,aK,aL,v,e,⟨?_,M.2.os⟩,b,c,aM,aN⟩;obtain⟨rfl,N⟩:=M;exact⟨_,_,_,[],_,[],y,trodAll_mk1 (shut_bool underlying4 _),Y _ N.below,U,N.below.frame _,λh=>by cases h⟩
theorem o3 (W:World) (b:ω) (c:YV) (e:Int) (f:Int) (g:Bool) (a:ZZ) (args:ζ) (h:a.length<2 ^ 63) (i:XN (UW W) [] [] [Zq b,Zi c,I e,I f,ν g,δ I 1 a] args):Comes prog (λv=>v=.bool true) W (solo (Go.Conc.G (Frame.enter prog 10 args .normal) []) W) #[]:=
 BY (d:=12) (l:=[Zq b,Zi c,I e,I f,ν g,δ I 1 a]) func10 U Zr Zr i (by rw[ntmps10];simp) (pD b c e f g a h)
end Go.TL
namespace Go.Proofs.YtlabjopijpkiaaaGreat
open Go.Proofs.Tryz
open Go.TL
theorem light_says:Rows.LightSaysSaid:=
 OpenClaim.holds_of_wide_leaving_time 10 Tryz.f10 U U U U U U U ⟨U,U,U,U,U⟩ U U U U U Zr func10 o5
  (of_decide_eq_true Zr) (by unfold Func.isWrapper;first|(rw[if_pos (by decide +kernel)];kernel_rfl)|(rw[if_neg (by decide +kernel)];exact⟨rfl,rfl⟩))
  (λa b H enc _ F=>o4 o3 a b H enc F)
end Go.Proofs.YtlabjopijpkiaaaGreat
