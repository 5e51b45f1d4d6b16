/- LightWrongs -/
import Derived.Test.YtlabjopijpkiaaaGreatCAM
import Derived.Test.YtlabjopijpkiaaaGreatCAO
set_option maxHeartbeats 16000000
set_option maxRecDepth 20000
set_option linter.unusedSectionVars false
set_option linter.unusedSimpArgs false
set_option linter.unusedVariables false
namespace Go.TL
open Go.Proofs.Tryz
open Go.Conc Go.ConcM Go.Proofs
open Go.ChangeShapes Go.WideShapes Go.ChangeAt Go.RowKit
set_option maxRecDepth 100000 in
theorem qJ (J:∀(W:World) (g:υ) (k:ZF) (l:Int) (d:List Int) (args:Array Value),d.length<2 ^ 63->XT (Uy W) [] [] [ZB g,Z2 k,R l,ζ R 1 d] args->Comes prog (λv=>v=.bool true) W (solo (Go.Conc.G (Frame.enter prog 17 args .normal) []) W) #[])
  (n:Os) (K:n.Started) (H:Type) (enc:TypeId×Value->H) (F:Stop.Interp) :
  ReturnsInLeavingWide YtlabjopijpkiaaaGreat.Rows.lightWrongsRow.assume checked n 17 .any (YtlabjopijpkiaaaGreat.Rows.lightWrongsSpec.pre6 enc prog f17 YtlabjopijpkiaaaGreat.Rows.lightWrongsRow.domain YtlabjopijpkiaaaGreat.Rows.lightWrongsRow.apart)
   ((OpenSpec.ofChange YtlabjopijpkiaaaGreat.Rows.lightWrongsSpec).postWith enc prog f17 F (outsideKept [.timePasses]) YtlabjopijpkiaaaGreat.Rows.lightWrongsRow.apart YtlabjopijpkiaaaGreat.Rows.lightWrongsRow.fresh YtlabjopijpkiaaaGreat.Rows.lightWrongsRow.handsOn):=by
 refine returnsInLeavingWide_of_change_time (C:=checked) tJ K func17
  (ChangeSpec.witness6c (enc:=enc) (C:=checked) ⟨#[],#[.agg #[.slice none 0 0,.slice none 0 0,.slice none 0 0],.agg #[.int .i64 0,.int .i64 0,.int .i64 0],.int .i64 0,.slice none 0 0],[]⟩ 8 (by kernel_rfl) (by kernel_rfl) (by kernel_rfl) (by kernel_rfl)) ?_
 intro W base args ds aB aC L r _ _ _;have f:∀(j:Nat) t v,f17.params[j]?=some t->args[j]?=some v->Value.okWide prog W .any base t v:=L;have s:=r;obtain⟨p,q,M,N,rfl,aD,aE⟩:=r;have m:DataW.TrodAll enc prog W 0 (λ_=>true) true f17.params.toList args.toList ds p:=M;rw[params17] at m f;obtain⟨rfl,rfl⟩:=trodVars_none N;have O:∀x∈p,x.block<W.heap.size:=λx P=>by simpa using s.lt x (List.mem_append_left _ P)
 have Q:∀t∈([26,28,3,29]:List TypeId),prog.readableRec t=true/\t<prog.types.size:=λt w=>by
  simp only[Zm,YM,or_false] at w;rcases w with rfl|rfl|rfl|rfl<;>exact⟨by kernel_rfl,of_decide_eq_true (by kernel_rfl)⟩
 have S:=λ(T:World) (U:Below W.heap.size W T)=>Co tI U Q m O;obtain⟨y,as0,d0,aF,aG,aH,V,rfl,rfl,X,Y⟩:=trodAll_cons m;obtain⟨A,aI,d1,aJ,aK,aL,rfl,rfl,rfl,Z,aa⟩:=trodAll_cons Y;obtain⟨B,aM,d2,aN,aO,aP,rfl,rfl,rfl,ab,ad⟩:=trodAll_cons aa;obtain⟨D,aQ,d3,aR,aS,aT,rfl,rfl,rfl,ae,af⟩:=trodAll_cons ad;obtain⟨rfl,rfl,rfl⟩:=trodAll_nil af;obtain rfl:args=#[y,A,B,D]:=by
  cases args;simpa using V
 obtain⟨ag,rfl,_⟩:=okWide_struct underlying26 (f 0 26 y rfl rfl);obtain⟨g,_,ah⟩:=Cp tz (λ_=>rfl) X;obtain⟨ai,rfl,_⟩:=okWide_struct underlying28 (f 1 28 A rfl rfl);obtain⟨k,_,aj⟩:=Cp Cr (λ_=>rfl) Z;obtain⟨ak,rfl⟩:=okWide_int underlying3 (f 2 3 B rfl rfl);obtain⟨l,aU,al⟩:=Cq (MO underlying3) (λ_=>rfl) ab rfl;obtain⟨am,an,ao,rfl⟩:=okWide_slice underlying29 (f 3 29 D rfl rfl);obtain⟨d,ap,aq⟩:=Cq Cs (λ_=>rfl) ae rfl;have ar:XT (Uy W) [] [] [ZB g,Z2 k,R l,ζ R 1 d] #[.agg ag,.agg ai,.int .i64 ak,.slice am an ao]:=⟨rfl,λi a u b c=>by
  match i with
  | 0=>simp at b c;subst b;subst c;exact ah
  | 1=>simp at b c;subst b;subst c;exact aj
  | 2=>simp at b c;subst b;subst c;exact al
  | 3=>simp at b c;subst b;subst c;exact aq
  | i+4=>simp at b⟩
 obtain⟨au,av,o,w',t',aw,ax,ay,v,e,E,b,c,az,aA⟩:=J W g k l d _ ap.1 ar;refine⟨au,av,o,w',t',aw,ax,ay,v,e,⟨?_,E.2.os⟩,b,c,az,aA⟩;obtain⟨rfl,I⟩:=E;exact⟨_,_,_,[],_,[],s,trodAll_mk1 (shut_bool underlying4 _),S _ I.below,rfl,I.below.frame _,λh=>by cases h⟩
theorem qI (W:World) (b:υ) (c:ZF) (e:Int) (a:List Int) (args:Array Value) (f:a.length<2 ^ 63) (g:XT (Uy W) [] [] [ZB b,Z2 c,R e,ζ R 1 a] args):Comes prog (λv=>v=.bool true) W (solo (Go.Conc.G (Frame.enter prog 17 args .normal) []) W) #[]:=
 tK (d:=8) (l:=[ZB b,Z2 c,R e,ζ R 1 a]) func17 rfl (by kernel_rfl) (by kernel_rfl) g (by rw[ntmps17];simp) (rj b c e a f)
end Go.TL
namespace Go.Proofs.YtlabjopijpkiaaaGreat
open Go.Proofs.Tryz
open Go.TL
theorem light_wrongs:Rows.LightWrongsSaid:=
 OpenClaim.holds_of_wide_leaving_time 17 f17 rfl rfl rfl rfl rfl rfl rfl ⟨rfl,rfl,rfl,rfl,rfl⟩ rfl rfl rfl rfl rfl (by kernel_rfl) func17 qK
  (of_decide_eq_true (by kernel_rfl)) (by unfold Func.isWrapper;first|(rw[if_pos (by decide +kernel)];kernel_rfl)|(rw[if_neg (by decide +kernel)];exact⟨rfl,rfl⟩))
  (λa b H enc _ F=>qJ qI a b H enc F)
end Go.Proofs.YtlabjopijpkiaaaGreat
