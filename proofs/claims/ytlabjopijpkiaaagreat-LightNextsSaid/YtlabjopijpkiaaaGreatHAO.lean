/- LightNexts -/
import Derived.Test.YtlabjopijpkiaaaGreatHAL
import Derived.Test.YtlabjopijpkiaaaGreatHAN
set_option maxHeartbeats 16000000
set_option maxRecDepth 20000
set_option linter.unusedSectionVars false
set_option linter.unusedSimpArgs false
set_option linter.unusedVariables false
namespace Go.TL
open Go.Proofs.Tryz
open Go.Conc Go.ConcM Go.Proofs
open Go.ChangeShapes Go.WideShapes Go.ChangeAt Go.RowKit
set_option maxRecDepth 100000 in
theorem qk (L:∀(W:World) (g:Δ) (k:Y9) (l:Int) (m:Bool) (f:List Int) (args:Array Value),f.length<2 ^ 63->XN (Uu W) [] [] [Zh g,Zr k,R l,ε m,ν R 1 f] args->Comes prog (λv=>v=.bool true) W (solo (Go.Conc.G (Frame.enter prog 3 args .normal) []) W) #[])
  (r:Os) (M:r.Started) (H:Type) (enc:TypeId×Value->H) (F:Stop.Interp) :
  ReturnsInLeavingWide YtlabjopijpkiaaaGreat.Rows.lightNextsRow.assume checked r 3 .any (YtlabjopijpkiaaaGreat.Rows.lightNextsSpec.pre6 enc prog Tryz.f3 YtlabjopijpkiaaaGreat.Rows.lightNextsRow.domain YtlabjopijpkiaaaGreat.Rows.lightNextsRow.apart)
   ((OpenSpec.ofChange YtlabjopijpkiaaaGreat.Rows.lightNextsSpec).postWith enc prog Tryz.f3 F (outsideKept [.timePasses]) YtlabjopijpkiaaaGreat.Rows.lightNextsRow.apart YtlabjopijpkiaaaGreat.Rows.lightNextsRow.fresh YtlabjopijpkiaaaGreat.Rows.lightNextsRow.handsOn):=by
 refine returnsInLeavingWide_of_change_time (C:=checked) tH M func3
  (ChangeSpec.witness6c (enc:=enc) (C:=checked) ⟨#[],#[.agg #[.slice none 0 0,.slice none 0 0,.slice none 0 0],.agg #[.int .i64 0,.int .i64 0,.int .i64 0],.int .i64 0,.bool false,.slice none 0 0],[]⟩ 8 (by kernel_rfl) (by kernel_rfl) (by kernel_rfl) (by kernel_rfl)) ?_
 intro W base args ds aH aI N s _ _ _;have d:∀(j:Nat) t v,Tryz.f3.params[j]?=some t->args[j]?=some v->Value.okWide prog W .any base t v:=N;have w:=s;obtain⟨p,q,O,P,rfl,aJ,aK⟩:=s;have n:DataW.TrodAll enc prog W 0 (λ_=>true) true Tryz.f3.params.toList args.toList ds p:=O;rw[params3] at n d;obtain⟨rfl,rfl⟩:=trodVars_none P;have Q:∀x∈p,x.block<W.heap.size:=λx S=>by simpa using w.lt x (List.mem_append_left _ S)
 have T:∀t∈([26,28,3,4,29]:List TypeId),prog.readableRec t=true/\t<prog.types.size:=λt y=>by
  simp only[Zf,Yk,or_false] at y;rcases y with rfl|rfl|rfl|rfl|rfl<;>exact⟨by kernel_rfl,of_decide_eq_true (by kernel_rfl)⟩
 have U:=λ(V:World) (X:Below W.heap.size W V)=>Cp tG X T n Q;obtain⟨A,as0,d0,aL,aM,aN,Y,rfl,rfl,Z,aa⟩:=trodAll_cons n;obtain⟨B,aO,d1,aP,aQ,aR,rfl,rfl,rfl,ab,ad⟩:=trodAll_cons aa;obtain⟨D,aS,d2,aT,aU,aV,rfl,rfl,rfl,ae,af⟩:=trodAll_cons ad;obtain⟨E,aW,d3,aX,aY,aZ,rfl,rfl,rfl,ag,ah⟩:=trodAll_cons af;obtain⟨I,a0,d4,a1,a2,a3,rfl,rfl,rfl,ai,aj⟩:=trodAll_cons ah;obtain⟨rfl,rfl,rfl⟩:=trodAll_nil aj;obtain rfl:args=#[A,B,D,E,I]:=by
  cases args;simpa using Y
 obtain⟨ak,rfl,_⟩:=okWide_struct underlying26 (d 0 26 A rfl rfl);obtain⟨g,_,al⟩:=Cq tv (λ_=>rfl) Z;obtain⟨am,rfl,_⟩:=okWide_struct underlying28 (d 1 28 B rfl rfl);obtain⟨k,_,an⟩:=Cq Cr (λ_=>rfl) ab;obtain⟨ao,rfl⟩:=okWide_int underlying3 (d 2 3 D rfl rfl);obtain⟨l,a4,ap⟩:=GH (MQ underlying3) (λ_=>rfl) ae rfl;obtain⟨aq,rfl⟩:=okWide_bool underlying4 (d 3 4 E rfl rfl);obtain⟨m,a5,ar⟩:=GH (tE underlying4) (λ_=>rfl) ag rfl;obtain⟨au,av,aw,rfl⟩:=okWide_slice underlying29 (d 4 29 I rfl rfl);obtain⟨f,ax,ay⟩:=GH Cs (λ_=>rfl) ai rfl;have az:XN (Uu W) [] [] [Zh g,Zr k,R l,ε m,ν R 1 f] #[.agg ak,.agg am,.int .i64 ao,.bool aq,.slice au av aw]:=⟨rfl,λi a u b c=>by
  match i with
  | 0=>simp at b c;subst b;subst c;exact al
  | 1=>simp at b c;subst b;subst c;exact an
  | 2=>simp at b c;subst b;subst c;exact ap
  | 3=>simp at b c;subst b;subst c;exact ar
  | 4=>simp at b c;subst b;subst c;exact ay
  | i+5=>simp at b⟩
 obtain⟨aA,aB,o,w',t',aC,aD,aE,v,e,J,b,c,aF,aG⟩:=L W g k l m f _ ax.1 az;refine⟨aA,aB,o,w',t',aC,aD,aE,v,e,⟨?_,J.2.os⟩,b,c,aF,aG⟩;obtain⟨rfl,K⟩:=J;exact⟨_,_,_,[],_,[],w,trodAll_mk1 (shut_bool underlying4 _),U _ K.below,rfl,K.below.frame _,λh=>by cases h⟩
theorem qj (W:World) (b:Δ) (c:Y9) (e:Int) (f:Bool) (a:List Int) (args:Array Value) (g:a.length<2 ^ 63) (h:XN (Uu W) [] [] [Zh b,Zr c,R e,ε f,ν R 1 a] args):Comes prog (λv=>v=.bool true) W (solo (Go.Conc.G (Frame.enter prog 3 args .normal) []) W) #[]:=
 tI (d:=10) (l:=[Zh b,Zr c,R e,ε f,ν R 1 a]) func3 rfl (by kernel_rfl) (by kernel_rfl) h (by rw[ntmps3];simp) (qT b c e f a g)
end Go.TL
namespace Go.Proofs.YtlabjopijpkiaaaGreat
open Go.Proofs.Tryz
open Go.TL
theorem light_nexts:Rows.LightNextsSaid:=
 OpenClaim.holds_of_wide_leaving_time 3 Tryz.f3 rfl rfl rfl rfl rfl rfl rfl ⟨rfl,rfl,rfl,rfl,rfl⟩ rfl rfl rfl rfl rfl (by kernel_rfl) func3 ql
  (of_decide_eq_true (by kernel_rfl)) (by unfold Func.isWrapper;first|(rw[if_pos (by decide +kernel)];kernel_rfl)|(rw[if_neg (by decide +kernel)];exact⟨rfl,rfl⟩))
  (λa b H enc _ F=>qk qj a b H enc F)
end Go.Proofs.YtlabjopijpkiaaaGreat
