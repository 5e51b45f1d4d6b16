/- LightChecks -/
import Derived.Test.YtlabjopijpkiaaaGreatGAK
import Derived.Test.YtlabjopijpkiaaaGreatGAM
set_option maxHeartbeats 16000000
set_option maxRecDepth 20000
set_option linter.unusedSectionVars false
set_option linter.unusedSimpArgs false
set_option linter.unusedVariables false
namespace Go.TL
open Go.Proofs.Tryz
open Go.Conc Go.ConcM Go.Proofs
open Go.ChangeShapes Go.WideShapes Go.ChangeAt Go.RowKit
set_option maxRecDepth 100000 in
theorem tG (P:∀(W:World) (l:ο) (m:Y9) (f:List Int) (g:List Int) (n:Int) (r:Int) (k:List Int) (args:Array Value),f.length<2 ^ 63->g.length<2 ^ 63->k.length<2 ^ 63->X1 (U0 W) [] [] [Zd l,Zv m,κ R 1 f,κ R 1 g,R n,R r,κ R 1 k] args->Comes prog (λv=>v=.bool true) W (solo (Go.Conc.G (Frame.enter prog 8 args .normal) []) W) #[])
  (w:Os) (Q:w.Started) (H:Type) (enc:TypeId×Value->H) (F:Stop.Interp) :
  ReturnsInLeavingWide YtlabjopijpkiaaaGreat.Rows.lightChecksRow.assume checked w 8 .any (YtlabjopijpkiaaaGreat.Rows.lightChecksSpec.pre6 enc prog Tryz.f8 YtlabjopijpkiaaaGreat.Rows.lightChecksRow.domain YtlabjopijpkiaaaGreat.Rows.lightChecksRow.apart)
   ((OpenSpec.ofChange YtlabjopijpkiaaaGreat.Rows.lightChecksSpec).postWith enc prog Tryz.f8 F (outsideKept [.timePasses]) YtlabjopijpkiaaaGreat.Rows.lightChecksRow.apart YtlabjopijpkiaaaGreat.Rows.lightChecksRow.fresh YtlabjopijpkiaaaGreat.Rows.lightChecksRow.handsOn):=by
 refine returnsInLeavingWide_of_change_time (C:=checked) vT Q func8
  (ChangeSpec.witness6c (enc:=enc) (C:=checked) ⟨#[],#[.agg #[.slice none 0 0,.slice none 0 0,.slice none 0 0],.agg #[.int .i64 0,.int .i64 0,.int .i64 0],.slice none 0 0,.slice none 0 0,.int .i64 0,.int .i64 0,.slice none 0 0],[]⟩ 8 (by kernel_rfl) (by kernel_rfl) (by kernel_rfl) (by kernel_rfl)) ?_
 intro W base args ds aZ a0 S y _ _ _;have d:∀(j:Nat) t v,Tryz.f8.params[j]?=some t->args[j]?=some v->Value.okWide prog W .any base t v:=S;have A:=y;obtain⟨p,q,T,U,rfl,a1,a2⟩:=y;have s:DataW.TrodAll enc prog W 0 (λ_=>true) true Tryz.f8.params.toList args.toList ds p:=T;rw[params8] at s d;obtain⟨rfl,rfl⟩:=trodVars_none U;have V:∀x∈p,x.block<W.heap.size:=λx X=>by simpa using A.lt x (List.mem_append_left _ X)
 have Y:∀t∈([26,28,29,29,3,3,29]:List TypeId),prog.readableRec t=true/\t<prog.types.size:=λt B=>by
  simp only[YZ,XY,or_false] at B;rcases B with rfl|rfl|rfl|rfl|rfl|rfl|rfl<;>exact⟨by kernel_rfl,of_decide_eq_true (by kernel_rfl)⟩
 have Z:=λ(aa:World) (ab:Below W.heap.size W aa)=>D1 vS ab Y s V;obtain⟨D,as0,d0,a3,a4,a5,ad,rfl,rfl,ae,af⟩:=trodAll_cons s;obtain⟨E,a6,d1,a7,a8,a9,rfl,rfl,rfl,ag,ah⟩:=trodAll_cons af;obtain⟨I,a',d2,ba,bb,bc,rfl,rfl,rfl,ai,aj⟩:=trodAll_cons ah;obtain⟨J,bd,d3,be,bf,bg,rfl,rfl,rfl,ak,al⟩:=trodAll_cons aj;obtain⟨K,bh,d4,bi,bj,bk,rfl,rfl,rfl,am,an⟩:=trodAll_cons al;obtain⟨L,bl,d5,bm,bn,bo,rfl,rfl,rfl,ao,ap⟩:=trodAll_cons an;obtain⟨M,bp,d6,bq,br,bs,rfl,rfl,rfl,aq,ar⟩:=trodAll_cons ap;obtain⟨rfl,rfl,rfl⟩:=trodAll_nil ar;obtain rfl:args=#[D,E,I,J,K,L,M]:=by
  cases args;simpa using ad
 obtain⟨au,rfl,_⟩:=okWide_struct underlying26 (d 0 26 D rfl rfl);obtain⟨l,_,av⟩:=D2 vJ (λ_=>rfl) ae;obtain⟨aw,rfl,_⟩:=okWide_struct underlying28 (d 1 28 E rfl rfl);obtain⟨m,_,ax⟩:=D2 D3 (λ_=>rfl) ag;obtain⟨ay,az,aA,rfl⟩:=okWide_slice underlying29 (d 2 29 I rfl rfl);obtain⟨f,aB,aC⟩:=Mf JG (λ_=>rfl) ai rfl;obtain⟨aD,aE,aF,rfl⟩:=okWide_slice underlying29 (d 3 29 J rfl rfl);obtain⟨g,aG,aH⟩:=Mf JG (λ_=>rfl) ak rfl;obtain⟨aI,rfl⟩:=okWide_int underlying3 (d 4 3 K rfl rfl);obtain⟨n,bt,aJ⟩:=Mf (OM underlying3) (λ_=>rfl) am rfl;obtain⟨aK,rfl⟩:=okWide_int underlying3 (d 5 3 L rfl rfl);obtain⟨r,bu,aL⟩:=Mf (OM underlying3) (λ_=>rfl) ao rfl;obtain⟨aM,aN,aO,rfl⟩:=okWide_slice underlying29 (d 6 29 M rfl rfl);obtain⟨k,aP,aQ⟩:=Mf JG (λ_=>rfl) aq rfl;have aR:X1 (U0 W) [] [] [Zd l,Zv m,κ R 1 f,κ R 1 g,R n,R r,κ R 1 k] #[.agg au,.agg aw,.slice ay az aA,.slice aD aE aF,.int .i64 aI,.int .i64 aK,.slice aM aN aO]:=⟨rfl,λi a u b c=>by
  match i with
  | 0=>simp at b c;subst b;subst c;exact av
  | 1=>simp at b c;subst b;subst c;exact ax
  | 2=>simp at b c;subst b;subst c;exact aC
  | 3=>simp at b c;subst b;subst c;exact aH
  | 4=>simp at b c;subst b;subst c;exact aJ
  | 5=>simp at b c;subst b;subst c;exact aL
  | 6=>simp at b c;subst b;subst c;exact aQ
  | i+7=>simp at b⟩
 obtain⟨aS,aT,o,w',t',aU,aV,aW,v,e,N,b,c,aX,aY⟩:=P W l m f g n r k _ aB.1 aG.1 aP.1 aR;refine⟨aS,aT,o,w',t',aU,aV,aW,v,e,⟨?_,N.2.os⟩,b,c,aX,aY⟩;obtain⟨rfl,O⟩:=N;exact⟨_,_,_,[],_,[],A,trodAll_mk1 (shut_bool underlying4 _),Z _ O.below,rfl,O.below.frame _,λh=>by cases h⟩
theorem tF (W:World) (e:ο) (f:Y9) (a:List Int) (b:List Int) (g:Int) (h:Int) (c:List Int) (args:Array Value) (k:a.length<2 ^ 63) (m:b.length<2 ^ 63) (i:c.length<2 ^ 63) (j:X1 (U0 W) [] [] [Zd e,Zv f,κ R 1 a,κ R 1 b,R g,R h,κ R 1 c] args):Comes prog (λv=>v=.bool true) W (solo (Go.Conc.G (Frame.enter prog 8 args .normal) []) W) #[]:=
 vU (d:=14) (l:=[Zd e,Zv f,κ R 1 a,κ R 1 b,R g,R h,κ R 1 c]) func8 rfl (by kernel_rfl) (by kernel_rfl) j (by rw[ntmps8];simp) (uy e f a b g h c i)
end Go.TL
namespace Go.Proofs.YtlabjopijpkiaaaGreat
open Go.Proofs.Tryz
open Go.TL
theorem light_checks:Rows.LightChecksSaid:=
 OpenClaim.holds_of_wide_leaving_time 8 Tryz.f8 rfl rfl rfl rfl rfl rfl rfl ⟨rfl,rfl,rfl,rfl,rfl⟩ rfl rfl rfl rfl rfl (by kernel_rfl) func8 tH
  (of_decide_eq_true (by kernel_rfl)) (by unfold Func.isWrapper;first|(rw[if_pos (by decide +kernel)];kernel_rfl)|(rw[if_neg (by decide +kernel)];exact⟨rfl,rfl⟩))
  (λa b H enc _ F=>tG tF a b H enc F)
end Go.Proofs.YtlabjopijpkiaaaGreat
