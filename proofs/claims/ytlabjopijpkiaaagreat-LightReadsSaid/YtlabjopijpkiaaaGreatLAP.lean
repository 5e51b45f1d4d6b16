/-  -/
import Derived.Test.YtlabjopijpkiaaaGreatLAN
import Derived.Test.YtlabjopijpkiaaaGreatLAO
set_option maxHeartbeats 16000000
set_option maxRecDepth 20000
set_option linter.unusedSectionVars false
set_option linter.unusedSimpArgs false
set_option linter.unusedVariables false
namespace Go.TL
open Go.Proofs.Tryz
open Go.Conc Go.ConcM Go.Proofs
open Go.ChangeShapes Go.WideShapes Go.ChangeAt Go.RowKit
set_option maxRecDepth 100000 in
theorem pX (M:∀(W:World) (g:ω) (k:YV) (l:Int) (m:Bool) (f:ZZ) (args:ζ),f.length<2 ^ 63->XN (UW W) [] [] [Zq g,Zi k,I l,ν m,δ I 1 f] args->Comes prog (λv=>v=.bool true) W (solo (Go.Conc.G (Frame.enter prog 15 args .normal) []) W) #[])
  (r:Os) (N:r.Started) (H:Type) (enc:TypeId×Value->H) (F:Stop.Interp) :
  ReturnsInLeavingWide YtlabjopijpkiaaaGreat.Rows.lightReadsRow.assume checked r 15 .any (YtlabjopijpkiaaaGreat.Rows.lightReadsSpec.pre6 enc prog f15 YtlabjopijpkiaaaGreat.Rows.lightReadsRow.domain YtlabjopijpkiaaaGreat.Rows.lightReadsRow.apart)
   ((OpenSpec.ofChange YtlabjopijpkiaaaGreat.Rows.lightReadsSpec).postWith enc prog f15 F (outsideKept [.timePasses]) YtlabjopijpkiaaaGreat.Rows.lightReadsRow.apart YtlabjopijpkiaaaGreat.Rows.lightReadsRow.fresh YtlabjopijpkiaaaGreat.Rows.lightReadsRow.handsOn):=by
 refine returnsInLeavingWide_of_change_time (C:=checked) BX N func15
  (ChangeSpec.witness6c (enc:=enc) (C:=checked) ⟨#[],#[.agg #[.slice none 0 0,.slice none 0 0,.slice none 0 0],.agg #[.int .i64 0,.int .i64 0,.int .i64 0],.int .i64 0,.bool false,.slice none 0 0],[]⟩ 8 Zr Zr Zr Zr) ?_
 intro W base args ds aI aJ O s _ _ _;have d:∀(j:Nat) t v,f15.params[j]?=some t->args[j]?=some v->Value.okWide prog W .any base t v:=O;have w:=s;obtain⟨p,q,P,Q,rfl,aK,aL⟩:=s;have n:DataW.TrodAll enc prog W 0 (λ_=>true) true f15.params.toList args.toList ds p:=P;rw[params15] at n d;obtain⟨rfl,rfl⟩:=trodVars_none Q;have R:∀x∈p,x.block<W.heap.size:=λx S=>by simpa using w.lt x (List.mem_append_left _ S)
 have T:∀t∈([26,28,3,4,29]:List TypeId),prog.readableRec t=true/\t<prog.types.size:=λt y=>by
  simp only[Y9,Yb,or_false] at y;rcases y with rfl|rfl|rfl|rfl|rfl<;>exact⟨by kernel_rfl,of_decide_eq_true Zr⟩
 have V:=λ(X:World) (Y:Below W.heap.size W X)=>FY BW Y T n R;obtain⟨A,as0,d0,aM,aN,aO,Z,rfl,rfl,aa,ab⟩:=trodAll_cons n;obtain⟨B,aP,d1,aQ,aR,aS,rfl,rfl,rfl,ad,ae⟩:=trodAll_cons ab;obtain⟨D,aT,d2,aU,aV,aW,rfl,rfl,rfl,af,ag⟩:=trodAll_cons ae;obtain⟨E,aX,d3,aY,aZ,a0,rfl,rfl,rfl,ah,ai⟩:=trodAll_cons ag;obtain⟨J,a1,d4,a2,a3,a4,rfl,rfl,rfl,aj,ak⟩:=trodAll_cons ai;obtain⟨rfl,rfl,rfl⟩:=trodAll_nil ak;obtain rfl:args=#[A,B,D,E,J]:=by
  cases args;simpa using Z
 obtain⟨al,rfl,_⟩:=okWide_struct underlying26 (d 0 26 A U U);obtain⟨g,_,am⟩:=Ie BS (λ_=>rfl) aa;obtain⟨an,rfl,_⟩:=okWide_struct underlying28 (d 1 28 B U U);obtain⟨k,_,ao⟩:=Ie FZ (λ_=>rfl) ad;obtain⟨ap,rfl⟩:=okWide_int underlying3 (d 2 3 D U U);obtain⟨l,a5,aq⟩:=NT (OR underlying3) (λ_=>rfl) af U;obtain⟨ar,rfl⟩:=okWide_bool underlying4 (d 3 4 E U U);obtain⟨m,a6,au⟩:=NT (BV underlying4) (λ_=>rfl) ah U;obtain⟨av,aw,ax,rfl⟩:=okWide_slice underlying29 (d 4 29 J U U);obtain⟨f,ay,az⟩:=NT F0 (λ_=>rfl) aj U;have aA:XN (UW W) [] [] [Zq g,Zi k,I l,ν m,δ I 1 f] #[.agg al,.agg an,.int .i64 ap,.bool ar,.slice av aw ax]:=⟨U,λi a u b c=>by
  match i with
  | 0=>simp at b c;subst b;subst c;exact am
  | 1=>simp at b c;subst b;subst c;exact ao
  | 2=>simp at b c;subst b;subst c;exact aq
  | 3=>simp at b c;subst b;subst c;exact au
  | 4=>simp at b c;subst b;subst c;exact az
  | i+5=>simp at b⟩
 obtain⟨aB,aC,o,w',t',aD,aE,aF,v,e,K,b,c,aG,aH⟩:=M W g k l m f _ ay.1 aA;refine⟨aB,aC,o,w',t',aD,aE,aF,v,e,⟨?_,K.2.os⟩,b,c,aG,aH⟩;obtain⟨rfl,L⟩:=K;exact⟨_,_,_,[],_,[],w,trodAll_mk1 (shut_bool underlying4 _),V _ L.below,U,L.below.frame _,λh=>by cases h⟩
theorem pW (W:World) (b:ω) (c:YV) (e:Int) (f:Bool) (a:ZZ) (args:ζ) (g:a.length<2 ^ 63) (h:XN (UW W) [] [] [Zq b,Zi c,I e,ν f,δ I 1 a] args):Comes prog (λv=>v=.bool true) W (solo (Go.Conc.G (Frame.enter prog 15 args .normal) []) W) #[]:=
 BY (d:=10) (l:=[Zq b,Zi c,I e,ν f,δ I 1 a]) func15 U Zr Zr h (by rw[ntmps15];simp) (qs b c e f a g)
end Go.TL
namespace Go.Proofs.YtlabjopijpkiaaaGreat
open Go.Proofs.Tryz
open Go.TL
theorem light_reads:Rows.LightReadsSaid:=
 OpenClaim.holds_of_wide_leaving_time 15 f15 U U U U U U U ⟨U,U,U,U,U⟩ U U U U U Zr func15 pY
  (of_decide_eq_true Zr) (by unfold Func.isWrapper;first|(rw[if_pos (by decide +kernel)];kernel_rfl)|(rw[if_neg (by decide +kernel)];exact⟨rfl,rfl⟩))
  (λa b H enc _ F=>pX pW a b H enc F)
end Go.Proofs.YtlabjopijpkiaaaGreat
