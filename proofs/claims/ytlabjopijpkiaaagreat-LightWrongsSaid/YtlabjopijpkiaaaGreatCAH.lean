import Derived.Conc.Own2
import Derived.Test.YtlabjopijpkiaaaGreatCAG
set_option maxHeartbeats 16000000
set_option maxRecDepth 20000
set_option linter.unusedSectionVars false
set_option linter.unusedSimpArgs false
set_option linter.unusedVariables false
namespace Go.TL
open Go.IntKind (i32 i64 u32 u64)
open Go.Proofs.Tryz
open Go.Conc Go.Proofs
open Go.ConcN (sumTo upd sumTo_upd upd_ne upd_same sumTo_congr le_sumTo)
theorem Dm {a b:δ} {t u:Tok} (c:PV a t) (d:PV b u) (h:mwd a=mwd b):a.Y7=b.Y7/\a.wk=b.wk/\a.sv=b.sv/\a.nw=b.nw:=by
 have:=c.Y7;have:=c.wk;have:=c.sv;have:=d.Y7;have:=d.wk;have:=d.sv;simp only[mwd] at h;omega
section
variable {Q:Value->Prop} {mn:Bool} {x:ZZ} {c:Frame} {rest:List Frame} {S:ο} {B:Z8} {σ:Ρ} {H:Ψ} {s m k:Nat} {sp:Spec} {v:Option (Nat×δ)} {t:Tok}
theorem Lv (b:Vr x s m sp) {a:δ} (h:a.toSpec=sp):a.top<7:=by have:=b.top;rw[show a.top=sp.top by rw[<-h]];exact this
theorem wi (d:Vr x s m sp) (y:PT Q mn x c rest S H s k sp) {φ:Nat} {a:δ} (B:Lw Q mn x c rest S H s m k sp φ) (p:a.toSpec=sp) {b st:Bool} {f τ:Int} (i:PV a (.ch k (.act b) .work)) (C:st=true->b=true) (N:0<=f) (O:f<=4) :
  Va Q mn x c rest S H s m (.ch k (.act b) .work) (some (φ,a)) 1 (.code (Yr [0] QJ)::.code (Yr [1] QJ)::.inBlock 1::UA) (YV m (mwd a) b st f τ++[(7,.z (.int .i32 (R2 a.Y7 a.wk a.sv a.nw b st)))]):=by
 letI:ZN:=X3;have g:=d.seq;have ad:=Dn i;have ae:=Lv d p;have af:=i.Y7;have ag:=i.wk;have ah:=i.sv;have ai:=i.nw;have r:=Hc a.Y7 U a.wk U a.sv U a.nw U;rw[<-R3] at r;have P:∀(w:Option (Nat×δ)) (env:Δ),Z7 env 0=.z (ptr m 0)->Va Q mn x c rest S H s m (.ch k .own .work) w 1 [.code Lx] env:=λw env h=>Dq d y h;have R:∀(t:Nat) (D:δ),t<φ->¬XY .i32 (mwd a) 5=0->Va Q mn x c rest S H s m (.ch k .q .work) (some (t,D)) 1 (.code TF::.inBlock 1::UA) (YV m (mwd a) b st f τ):=λt D T X=>wj d y B T X;refine V.Zp (g _ _ _) ?_;unfold QJ Ro TG Rp;refine W.Ze ?_;refine W.part (A:=[]) Υ [0,1,2,3,4] [5] rfl λY u=>?_;(try simp);(repeat (rw[Ν];simp[YV]));(try simp[YV]);apply u;refine W.stop ?_;refine V.Jf (g _ _ _).here (UT _) (sp:=sp) d.spec (by rw[Zo];exact id) d.ZO ⟨⟨rfl,rfl,by simp[Frame.enter],rfl⟩,I9,⟨_,rfl⟩,rfl,rfl,rfl⟩ (λl e n hv=>.inl ?_) (λl e n hv=>?_)
 ·
  have E:=n.view φ a R4
  have aj:l<φ:=by
   rcases OO l φ with h|h
   .exact h
   .exact absurd (by rw[E.2 U]) hv
  unfold We;rw[UY];refine V.Zp (g _ _ _) ?_;refine W.ZC ?_;refine Y1 ?_;refine Η rfl ?_;refine W.Ze ?_;refine Xy [0,1,2] [3,4] ?_;refine W.stop ?_;refine V.M5 (g _ _ _).here (sp:=sp) d.spec (by rw[Zo];exact id) ⟨rfl,rfl,by simp[Frame.enter],rfl⟩ rfl rfl rfl M4 rfl I8 mwd (λa w p Z=>Z.Rv (by rw[p];exact d.ZO)) (λo F v=>.inl ?_);have ak:=v.view l e R4;have I:=v.Vs.Tf;rw[Zo] at I;unfold We;rw[UY];refine V.Zp (g _ _ _) ?_;refine W.part (A:=[]) Υ [4] [] rfl λY u=>?_;(try simp);(repeat (rw[Ν];simp));(try simp);apply u;refine W.ZC ?_;refine W.inBlock ?_;refine W.forget (YV m (mwd F) b st f τ) (by simp[YV]) (.stop ?_);exact B o F b st f τ U v.spec I C N O
 .have E:=n.view φ a R4
  have J:=n.Vs.Tf;rw[Zo] at J;obtain⟨aa,K,L,M⟩:=Dm J i hv;by_cases j:a.Y7=0/\a.sv=0
  .refine⟨{e with Y7:=1,wk:=if b then 0 else e.wk},.ch k .own .work,?_,rfl,⟨rfl,rfl,rfl⟩,by rw[Zo];exact .acq U U,λo ab=>?_⟩
   .simp[R2,R3,K,L,M,j.1,j.2]
   .rw[WY];rw[j.1,j.2] at r;refine V.Zp (g _ _ _) ?_;refine W.ZC ?_;refine Y1 ?_;refine Γ rfl ?_;refine WC r ?_;refine W.exit rfl (.stop ?_);exact P _ _ rfl
  .have al:a.Y7=1\/a.sv=1:=U
   refine⟨{e with nw:=e.nw+1,wk:=if b then 0 else e.wk,sv:=if(st&&decide (a.Y7=1)) then 1 else e.sv},.ch k .q .work,?_,rfl,⟨rfl,rfl,rfl⟩,by rw[Zo];exact .queue (st&&decide (a.Y7=1)) U (λh=>by simp at h;exact⟨C h.1,U⟩),λo ab=>?_⟩
   .simp only[R2,if_neg j,R3,aa,K,L,M];simp
   .rw[WY];refine V.Zp (g _ _ _) ?_;refine W.ZC ?_;refine Y1 ?_;refine Γ rfl ?_;refine W.forget (YV m (mwd a) b st f τ) (by simp[YV]) (.stop ?_);exact R o _ U U
theorem wh (f:Vr x s m sp) {φ:Nat} {b st:Bool} {a τ:Int} {g:Nat} {j:δ} (B:0<=a) (C:a<4)
  (r:∀(l:Nat) (e:δ),l<=g->e.toSpec=sp->PV e (.ch k (.act b) .work)->Va Q mn x c rest S H s m (.ch k (.act b) .work) (some (l,e)) 1 UA (YV m (mwd e) b st (a+1) τ)) :
  Va Q mn x c rest S H s m (.ch k (.act b) .work) (some (g,j)) 1 (.code (Yr [0,0,1,0,1,0] TG)::.code (Yr [0,0,1,0,1,1] TG)::.code Ro::.inBlock 1::UA) [(0,.z (ptr m 0)),(2,.z (.int .i64 τ)),(3,.z (.bool st)),(4,.z (.bool b)),(5,.z (.int .i64 a))]:=by
 letI:ZN:=X3;have d:=f.seq;have n:i64.wrap (a+1)=a+1:=by simp only[IntKind.wrap_i64];omega
 refine V.Zp (d _ _ _) ?_;unfold TG Rp;refine Y1 ?_;refine W.Ze (.stop ?_);refine V.Jc (d _ _ _) (vs:=[]) ⟨⟨rfl,rfl,by simp[Frame.enter],rfl⟩,wB,⟨_,rfl⟩,rfl,rfl,rfl⟩ ?_;refine V.Zp (d _ _ _) ?_;refine W.ZC ?_;refine Y1 ?_;refine Y8 λt h=>?_;(try simp);(repeat (rw[Ν];simp[n]));(try simp[n]);apply h;refine Y1 ?_;refine W.Ze ?_;refine Xy [0,1,2] [3,4] ?_;refine W.stop ?_;refine V.M5 (d _ _ _).here (sp:=sp) f.spec (by rw[Zo];exact id) ⟨rfl,rfl,by simp[Frame.enter],rfl⟩ rfl rfl rfl M4 rfl I8 mwd (λD w u v=>v.Rv (by rw[u];exact f.ZO)) (λy o i=>.inl ?_);have E:=i.view g j R4;have p:=i.Vs.Tf;rw[Zo] at p;unfold We;rw[UY];refine V.Zp (d _ _ _) ?_;refine W.part (A:=[]) Υ [4] [] rfl λt h=>?_;(try simp);(repeat (rw[Ν];simp));(try simp);apply h;refine W.ZC ?_;refine W.exit rfl ?_;refine W.forget (YV m (mwd o) b st (a+1) τ) (by simp[YV]) (.stop ?_);exact r y o U i.spec p
theorem we (o:Vr x s m sp) (ak:PT Q mn x c rest S H s k sp):∀(N φ:Nat) (a:δ) (f st:Bool) (d τ:Int),φ*8+(4-d).toNat<N->a.toSpec=sp->PV a (.ch k (.act f) .work)->(st=true->f=true)->0<=d->d<=4->
  Va Q mn x c rest S H s m (.ch k (.act f) .work) (some (φ,a)) 1 (.code TG::UA) (YV m (mwd a) f st d τ):=by
 letI:ZN:=X3;have p:=o.seq;intro N
 induction N with
 | zero=>intro φ a f st d τ h;omega
 | succ N al=>
  intro φ a f st d τ aw X r v Y am;have an:=Dn r;have ax:=Lv o X;have ay:=r.Y7;have az:=r.wk;have aA:=r.sv;have aB:=r.nw;have w:=Hc a.Y7 U a.wk U a.sv U a.nw U;have Φ:=Ja a.Y7 U a.wk U a.sv U a.nw U;have L:=wJ a.Y7 U a.wk U a.sv U a.nw U;have B:=G9 a.Y7 U a.wk U a.sv U a.nw U;rw[<-R3] at w Φ B L;have Z:∀(l:Nat) (g:δ) (e t:Bool) (n C:Int),l*8+(4-n).toNat<N->g.toSpec=sp->PV g (.ch k (.act e) .work)->(t=true->e=true)->0<=n->n<=4->
    Va Q mn x c rest S H s m (.ch k (.act e) .work) (some (l,g)) 1 UA (YV m (mwd g) e t n C):=λl g e t n C F I D i u M=>by
   have:=al l g e t n C F I D i u M;refine V.XS (p _ _ _) rfl ?_;exact W.inLoop (.stop this)
  have ao:Lw Q mn x c rest S H s m k sp φ:=λl g e t n C F I D i u M=>Z l g e t n C U I D i u M
  have aa:Va Q mn x c rest S H s m (.ch k (.act f) .work) (some (φ,a)) 1 (.code Ro::.inBlock 1::UA) (YV m (mwd a) f st d τ):=by
   rw[R3];exact wu o U U U U an v (by rw[<-R3];exact wi o ak ao X r v Y am)
  have E:∀(O:Nat) (ab:δ) (e:Bool),d<4->(O<=φ)->(st=true->e=true)->Va Q mn x c rest S H s m (.ch k (.act e) .work) (some (O,ab)) 1 (.code (Yr [0,0,1,0,1,0] TG)::.code (Yr [0,0,1,0,1,1] TG)::.code Ro::.inBlock 1::UA) [(0,.z (ptr m 0)),(2,.z (.int .i64 τ)),(3,.z (.bool st)),(4,.z (.bool e)),(5,.z (.int .i64 d))]:=λO ab e F I D=>
   wh o (φ:=φ) Y F λl g ad ae P=>Z l g e st (d+1) τ U ae P D U U
  refine V.Zp (p _ _ _) ?_;unfold TG Rp;refine Y1 ?_;by_cases af:a.Y7=1/\a.sv=0
  .rw[af.1,af.2] at w;refine W.Ze ?_;refine W.part (A:=[]) Υ [0,1,2,3,4] [5,6] rfl λj b=>?_;(try simp);(repeat (rw[Ν];simp[YV,w]));(try simp[YV,w]);apply b;refine W.stop ?_;refine V.canSpin (p _ _ _) ⟨⟨rfl,rfl,by simp[Frame.enter],rfl⟩,wC,⟨_,rfl⟩,rfl,rfl,rfl⟩ λy ap=>?_;refine V.Zp (p _ _ _) ?_;refine W.part (A:=[]) Υ [6] [] rfl λj b=>?_;(try simp);(repeat (rw[Ν];simp[YV]));(try simp[YV]);apply b;refine W.ZC ?_;cases y with
   | false=>
    refine Η rfl ?_
    first|apply W4|apply wb|apply WN|apply wd
    refine W.forget (YV m (mwd a) f st d τ) (by simp[YV]) (.stop ?_);exact aa
   | true=>
    have i:=ap rfl;refine Γ rfl ?_;refine Y1 ?_;cases f with
    | true=>
     (repeat (first|apply W4|apply wb|apply WN|apply wd|refine Γ rfl ?_|refine Η rfl ?_|(refine Y8 λj b=>?_;simp;(repeat (rw[Ν];simp[YV]));apply b)));refine W.forget [(0,.z (ptr m 0)),(2,.z (.int .i64 τ)),(3,.z (.bool st)),(4,.z (.bool true)),(5,.z (.int .i64 d))] J (.stop ?_);exact E φ a true i (Z1 _) (λ_=>rfl)
    | false=>
     by_cases ag:a.wk=0
     .by_cases R:a.nw=0
      .rw[ag] at Φ;rw[R] at B;(repeat (first|apply W4|apply wb|apply WN|apply wd|refine Γ rfl ?_|refine Η rfl ?_|(refine Y8 λj b=>?_;simp;(repeat (rw[Ν];simp[YV,Φ,B]));apply b)));refine W.forget [(0,.z (ptr m 0)),(2,.z (.int .i64 τ)),(3,.z (.bool st)),(4,.z (.bool false)),(5,.z (.int .i64 d))] J (.stop ?_);exact E φ a false i (Z1 _) v
      .rw[ag] at Φ;have ah:((a.nw:Int) != 0)=true:=by simp;omega
       refine W.Ze ?_;refine W.part (A:=[]) Υ [0,1,2,3,4,5,6,7,8,9,10,11,12,13,14,15,16,17,18] [19,20] rfl λj b=>?_;(try simp);(repeat (rw[Ν];simp[YV,Φ,B,L,R,ah]));(try simp[YV,Φ,B,L,R,ah]);apply b;refine W.stop ?_;refine V.Jf (p _ _ _).here (UT _) (sp:=sp) o.spec (by rw[Zo];exact id) o.ZO ⟨⟨rfl,rfl,by simp[Frame.enter],rfl⟩,I9,⟨_,rfl⟩,rfl,rfl,rfl⟩ (λai T K hv=>.inl ?_) (λai T K hv=>?_)
       .have aq:=K.view φ a R4;unfold We;rw[UY];refine V.Zp (p _ _ _) ?_;refine W.part (A:=[]) Υ [20] [] rfl λj b=>?_;(try simp);(repeat (rw[Ν];simp[YV]));(try simp[YV]);apply b;refine W.ZC ?_;refine Η rfl ?_;refine Y1 ?_;refine W.forget [(0,.z (ptr m 0)),(2,.z (.int .i64 τ)),(3,.z (.bool st)),(4,.z (.bool false)),(5,.z (.int .i64 d))] (by simp[YV]) (.stop ?_);exact E ai T false i U v
       .have aq:=K.view φ a R4
        have aj:=K.Vs.Tf;rw[Zo] at aj;obtain⟨ad,ae,P,ar⟩:=Dm aj r hv;refine⟨{T with wk:=1},.ch k (.act true) .work,?_,rfl,⟨rfl,rfl,rfl⟩,by rw[Zo];exact .Bg U U U U,λau aC=>?_⟩
        .simp[R3,ad,P,ar]
        .rw[WY];refine V.Zp (p _ _ _) ?_;refine W.part (A:=[]) Υ [20] [] rfl λj b=>?_;(try simp);(repeat (rw[Ν];simp[YV]));(try simp[YV]);apply b;refine W.ZC ?_;refine Γ rfl ?_;refine Y8 λj b=>?_;(try simp);(repeat (rw[Ν];simp[YV]));(try simp[YV]);apply b;refine Y1 ?_;refine W.forget [(0,.z (ptr m 0)),(2,.z (.int .i64 τ)),(3,.z (.bool st)),(4,.z (.bool true)),(5,.z (.int .i64 d))] (by simp[YV]) (.stop ?_);exact E au _ true i U (λ_=>rfl)
     .have av:a.wk=1:=U
      rw[av] at Φ;(repeat (first|apply W4|apply wb|apply WN|apply wd|refine Γ rfl ?_|refine Η rfl ?_|(refine Y8 λj b=>?_;simp;(repeat (rw[Ν];simp[YV,Φ]));apply b)));refine W.forget [(0,.z (ptr m 0)),(2,.z (.int .i64 τ)),(3,.z (.bool st)),(4,.z (.bool false)),(5,.z (.int .i64 d))] J (.stop ?_);exact E φ a false i (Z1 _) v
  .have u:¬XY .i32 (mwd a) 5=1:=by rw[w];omega
   refine Y8 λj b=>?_;(try simp);(repeat (rw[Ν];simp[YV,u]));(try simp[YV,u]);apply b;refine Η rfl ?_
   first|apply W4|apply wb|apply WN|apply wd
   refine W.forget (YV m (mwd a) f st d τ) (by simp[YV]) (.stop ?_);exact aa
theorem wc (a:Vr x s m sp):Dr Q mn x s m k sp:=by
 intro c rest S B σ H v j l;letI:ZN:=X3;have b:=a.seq;have n:=λφ d o st e τ p r t u y=>we a l (φ*8+(4-e).toNat+1) φ d o st e τ (Qu _) p r t u y;refine V.Rt (z:=one _) (vs:=[ptr m 0]) func213 rfl j (by simp[ntmps213]) ?_ _ rfl;refine V.Zp (b _ _ _) ?_;refine WE ?_;refine W.Ze ?_;refine Xy [0,1,2] [3,4] ?_;refine W.stop ?_;refine V.M5 (b _ _ _).here (sp:=sp) a.spec (by rw[Zo];exact id) ⟨rfl,rfl,by simp[Frame.enter],rfl⟩ rfl rfl rfl M4 rfl I8 mwd (λd w C D=>D.Rv (by rw[C];exact a.ZO)) (λE f g=>.inl ?_);have i:=g.Vs.Tf;rw[Zo] at i;unfold We;rw[UY];refine V.Zp (b _ _ _) ?_;refine W.part (A:=[]) Υ [4] [] rfl λI F=>?_;(try simp);(repeat (rw[Ν];simp));(try simp);apply F;refine W.ZC ?_;refine Y1 ?_;refine W.loop ?_;refine W.forget (YV m (mwd f) false false 0 0) (by simp[YV]) (.stop ?_);exact n E f false false 0 0 g.spec i (λh=>by cases h) U U
theorem wa (a:Vr x s m sp) (e:Holds S B σ H) (f:PT Q mn x c rest S H s k sp):Zb prog Q mn (ZJ x s (.ch k .idle .work) v 0) (Frame.enter prog 144 #[ptr m 0] .normal) (c::rest) H:=by
 letI:ZN:=X3;have b:=a.seq;refine V.Rt (z:=one _) (vs:=[ptr m 0]) func144 rfl e (by simp[ntmps144]) ?_ _ rfl;refine V.Zp (b _ _ _) ?_;refine Y1 ?_;refine W.Ze ?_;refine Xy [0,1,2] [3] ?_;refine W.stop ?_;refine V.call (b _ _ _) ⟨rfl,rfl,by simp[Frame.enter],rfl⟩ rfl rfl rfl ⟨_,func175,rfl,rfl⟩ λu g w t1 A h d hv=>?_;obtain rfl:=TJ (l:=[ptr m 0]) hv;obtain rfl:g=[]:=YP.1 d.holds.len;rintro y rfl;refine wv a d.holds (wc a) λi j L E n o p r t=>?_;rw[V6 rfl];refine Zb.leave0 (b _ _ _) rfl rfl rfl rfl func144 rfl ?_;exact f i j L E (h.ext.trans n) o p r t
end
noncomputable def Dl:Code:=f215.body.getD .skip
noncomputable def G4:Code:=Yr [1,1,0,1,0,0] Dl
noncomputable def Dk:List Item:=[.inLoop G4,.inBlock 0]
theorem v':∀n<8,0<n->Q3 .i32 (i32.wrap (WX 0 0 0 n-8)) 2=WX 0 1 0 (n-1):=by decide +kernel
theorem v9:∀b<2,∀c<2,∀n<8,XY .i32 (i32.wrap (WX 0 b c n+1)) 1=1:=by decide +kernel
abbrev XE:ο:=λ_ _=>none
theorem Lu {S b:ο} {B B':Z8} {σ σ':Ρ} {env:Δ} {t:Array Value} (c:∀p∈env,∃v,p.2=I.z v) (h:YS S B σ env t):YS b B' σ' env t:=by
 intro i;have d:∀(env:Δ),(∀p∈env,∃v,p.2=I.z v)->(∃v,Z7 env i=.z v)\/Z7 env i=.Zk:=by
  intro env
  induction env with
  | nil=>exact λ_=>.inr rfl
  | cons p l f=>
   intro h;obtain⟨j,a⟩:=p;simp only[Z7];split
   .exact .inl (h (j,a) J)
   .exact f λq g=>h q (by simp[g])
 have hi:=h i;rcases d env c with⟨v,e⟩|e
 .rw[e] at hi ⊢;generalize t.getD i undef=u at hi;cases hi;exact .z _
 .rw[e];exact .Zk _
theorem M3 (H:Ψ):Holds XE [] [] H:=⟨λb o v h=>(by cases h),rfl,λid r bo h=>(by simp at h),λi j a c b d e _ h=>(by simp at h),λid r b N h=>(by simp at h)⟩
theorem XA.none {m nt:Nat} {S:ο} {B:Z8} {H H':Ψ} {env:Δ} {t:Array Value} (h:XA m nt S B H [] env t) (a:∀p∈env,∃v,p.2=I.z v):XA 0 nt XE [] H' [] env t:=⟨M3 H',Lu a h.Zn,h.size,Z1 _⟩
section
variable {Q:Value->Prop} {mn:Bool} {x:ZZ} {c:Frame} {rest:List Frame} {S:ο} {B:Z8} {σ:Ρ} {H:Ψ} {s m k:Nat} {sp:Spec} {v:Option (Nat×δ)} {t:Tok}
abbrev G3 (Q:Value->Prop) (mn:Bool) (x:ZZ) (c:Frame) (rest:List Frame) (H:Ψ) (s m:Nat) (w:Int) (t:Tok) (v:Option (Nat×δ)) (K:List Item) (env:Δ):Prop:=
 V prog Q mn (one (ZJ x s t v 1)) (Frame.enter prog 215 #[ptr m 0,.int .i32 w] .normal) (c::rest) 43 ⟨XE,[],H,[],0⟩ K env []
def Lt (Q:Value->Prop) (mn:Bool) (x:ZZ) (c:Frame) (rest:List Frame) (H:Ψ) (s k d:Nat):Prop:=
 ∀(v:Option (Nat×δ)) (b:ο) (a:Ψ),Ext XE [] H b [] a->Zb prog Q mn (ZJ x s (.ch k .done .work) v d) (c.finish (.tuple #[])) rest a
theorem G2 (a:Vr x s m sp) (b:Lt Q mn x c rest H s k 1) {w:Int} {K:List Item} {env:Δ} (e:t=.ch k .done .work):G3 Q mn x c rest H s m w t v (.code .ret::K) env:=by
 letI:ZN:=X3;have d:=a.seq;subst e;refine V.Hg (d _ _ _) rfl rfl rfl rfl func215 rfl λf g h i j=>?_;obtain rfl:g=[]:=YP.1 j.len;rintro y rfl;exact b v f h i.ext
def Dj (k:Nat) (a:δ) (t:Tok):Prop:=((a.nw=0\/a.Y7=1\/a.wk=1\/a.sv=1)/\t=.ch k .done .work)\/(0<a.nw/\a.Y7=0/\a.wk=0/\a.sv=0/\t=.ch k .uc .work)
theorem Di (b:Vr x s m sp) (D:Lt Q mn x c rest H s k 1) {w:Int}:∀(N φ:Nat) (a:δ) (t:Tok),φ<N->a.Y7<=1->a.wk<=1->a.sv<=1->a.nw<7->Dj k a t->
  G3 Q mn x c rest H s m w t (some (φ,a)) (.code G4::Dk) [(0,.z (ptr m 0)),(4,.z (.int .i32 (mwd a)))]:=by
 letI:ZN:=X3;have d:=b.seq;intro N
 induction N with
 | zero=>intro φ a t h;omega
 | succ N ad=>
  intro φ a t ao ap aq ar au K;have l:=wM a.Y7 U a.wk U a.sv U a.nw U;have i:=G9 a.Y7 U a.wk U a.sv U a.nw U;rw[<-R3] at l i;have L:∀(n:Nat) (e:δ) (t':Tok),n<N->e.Y7<=1->e.wk<=1->e.sv<=1->e.nw<7->Dj k e t'->G3 Q mn x c rest H s m w t' (some (n,e)) Dk [(0,.z (ptr m 0)),(4,.z (.int .i32 (mwd e)))]:=λn e t' E o p r M ae=>by
   have:=ad n e t' E o p r M ae;refine V.XS (d _ _ _) rfl ?_;exact W.inLoop (.stop this)
  refine V.Zp (d _ _ _) ?_;unfold G4 Dl;refine Y1 ?_;rcases K with⟨K,rfl⟩|⟨E,o,p,r,rfl⟩
  .by_cases u:a.nw=0
   .rw[u] at i;refine WC i ?_;exact .stop (G2 b D rfl)
   .have O:¬XY .i32 (mwd a) 7=0:=by rw[l];omega
    have af:(XY .i32 (mwd a) 7 != 0)=true:=by simpa using O
    refine WC (Τ i (Τ u (Τ O af))) ?_;exact .stop (G2 b D rfl)
  .have u:¬a.nw=0:=U
   have ag:¬(a.nw:Int)=0:=U
   have P:mwd a=WX 0 0 0 a.nw:=by rw[R3,o,p,r]
   have F:=v' a.nw U E;rw[<-P] at F;rw[o,p,r] at l;refine WC (Τ i (Τ u (Τ ag l))) ?_;refine W.Ze ?_;refine W.part (A:=[]) Υ [0,1,2,3,4] [5] rfl λR j=>?_;(try simp);(repeat (rw[Ν];simp[F]));(try simp[F]);apply j;refine W.stop ?_;refine V.Jf (d _ _ _).here (UT _) (sp:=sp) b.spec (by rw[Zo];exact id) b.ZO ⟨⟨rfl,rfl,by simp[Frame.enter],rfl⟩,I9,⟨_,rfl⟩,rfl,rfl,rfl⟩ (λv f y hv=>.inl ?_) (λv f y hv=>?_)
   .have ah:=y.view φ a R4
    have M:v<φ:=by
     rcases OO v φ with h|h
     .exact h
     .exact absurd (by rw[ah.2 U]) hv
    unfold We;rw[UY];refine V.Zp (d _ _ _) ?_;refine W.ZC ?_;refine Η rfl ?_;refine Y1 ?_;refine W.Ze ?_;refine Xy [0,1,2] [3,4] ?_;refine W.stop ?_;refine V.M5 (d _ _ _).here (sp:=sp) b.spec (by rw[Zo];exact id) ⟨rfl,rfl,by simp[Frame.enter],rfl⟩ rfl rfl rfl M4 rfl (by kernel_rfl) mwd (λa w ai aj=>aj.Rv (by rw[ai];exact b.ZO)) (λS g I=>?_);have av:=I.view v f R4;have B:=I.Vs.Tf;have ak:=Lv b I.spec;have T:=B.Y7;have X:=B.wk;have Y:=B.sv;have aw:=B.nw;by_cases Z:g.nw=0\/g.Y7=1\/g.wk=1\/g.sv=1
    .refine .inr ⟨.ch k .done .work,by rw[Zo];exact .Bb Z,λaa al=>?_⟩;rw[WY];refine V.Zp (d _ _ _) ?_;refine W.part (A:=[]) Υ [4] [] rfl λR j=>?_;(try simp);(repeat (rw[Ν];simp));(try simp);apply j;refine W.ZC ?_;refine Y1 ?_;refine W.forget [(0,.z (ptr m 0)),(4,.z (.int .i32 (mwd g)))] J (.stop ?_);exact L aa g _ U T X Y U (.inl ⟨Z,rfl⟩)
    .refine .inl ?_;unfold We;rw[UY];refine V.Zp (d _ _ _) ?_;refine W.part (A:=[]) Υ [4] [] rfl λR j=>?_;(try simp);(repeat (rw[Ν];simp));(try simp);apply j;refine W.ZC ?_;refine Y1 ?_;refine W.forget [(0,.z (ptr m 0)),(4,.z (.int .i32 (mwd g)))] J (.stop ?_);exact L S g _ U T X Y U (.inr ⟨U,U,U,U,rfl⟩)
   .have C:=y.Vs.Tf
    have ak:=Lv b y.spec
    have f1:=C.Y7;have f2:=C.wk;have f3:=C.sv;have f4:=C.nw
    have f5:f.Y7=0/\f.wk=0/\f.sv=0/\f.nw=a.nw:=by
     rw[P] at hv;simp only[mwd,WX] at hv;omega
    refine⟨{f with nw:=f.nw-1,wk:=1},.ch k .us .work,?_,rfl,⟨rfl,rfl,rfl⟩,by rw[Zo];exact .Bc U U U U,λS al=>?_⟩
    .simp[R3,f5]
    .rw[WY];refine V.Zp (d _ _ _) ?_;refine W.ZC ?_;refine Γ rfl ?_;refine Y1 ?_;refine W.Ze ?_;refine Xy [0,1,2] [3] ?_;refine W.stop ?_;refine V.DF (d _ _ _).here (sp:=sp) b.spec (by rw[Zo];exact id) b.ZO (vs:=[ptr m 1,.bool false,.int .i64 2]) rfl ⟨⟨rfl,rfl,by simp[Frame.enter],rfl⟩,Du,⟨_,rfl⟩,rfl,rfl,rfl⟩ (λaa ab am=>?_);have an:=am.Vs.Tf;refine⟨by have:=an.YD;omega,{ab with YD:=ab.YD+1},.ch k .done .work,rfl,rfl,⟨rfl,rfl,rfl⟩,by rw[Zo];exact .post,λax ay=>?_⟩;rw[WY];refine V.Zp (d _ _ _) ?_;refine W.ZC (.stop ?_);exact G2 b D rfl
theorem v8 (e:Vr x s m sp) (i:Lt Q mn x c rest H s k 1) {a:δ} {φ:Nat} (K:a.toSpec=sp) (l:a.Y7=0) (n:a.wk<=1) (o:a.sv<=1) (p:a.nw<7)
  (u:(a.sv=0/\(a.nw=0\/a.wk=1)/\t=.ch k .done .work)\/(a.sv=0/\0<a.nw/\a.wk=0/\t=.ch k .uc .work)\/(a.sv=1/\t=.ch k .us .work)) :
  Zb prog Q mn (ZJ x s t (some (φ,a)) 1) (Frame.enter prog 215 #[ptr m 0,.int .i32 (mwd a)] .normal) (c::rest) H:=by
 letI:ZN:=X3;have f:=e.seq;have g:=v9 a.wk U a.sv U a.nw U;have b:=Hb 0 U a.wk U a.sv U a.nw U;have v:mwd a=WX 0 a.wk a.sv a.nw:=by rw[R3,l]
 rw[<-v] at g b;refine V.Rt (z:=one _) (vs:=[ptr m 0,.int .i32 (mwd a)]) (S:=XE) func215 rfl (M3 H) (by simp[ntmps215]) ?_ _ rfl;refine V.Zp (f _ _ _) ?_;rcases u with⟨d,j,rfl⟩|⟨d,j,w,rfl⟩|⟨d,rfl⟩
 .rw[d] at b;refine WC (Τ g b) ?_;refine W.loop ?_;refine W.forget [(0,.z (ptr m 0)),(4,.z (.int .i32 (mwd a)))] J (.stop ?_);exact Di e i (φ+1) φ a _ (Qu _) U n o p (.inl ⟨j.imp id λh=>.inr (.inl h),rfl⟩)
 .rw[d] at b;refine WC (Τ g b) ?_;refine W.loop ?_;refine W.forget [(0,.z (ptr m 0)),(4,.z (.int .i32 (mwd a)))] J (.stop ?_);exact Di e i (φ+1) φ a _ (Qu _) U n o p (.inr ⟨j,l,w,d,rfl⟩)
 .rw[d] at b;refine WC (Τ g b) ?_;refine W.Ze ?_;refine Xy [0,1,2] [3] ?_;refine W.stop ?_;refine V.DF (f _ _ _).here (sp:=sp) e.spec (by rw[Zo];exact id) e.ZO (vs:=[ptr m 1,.bool true,.int .i64 2]) rfl ⟨⟨rfl,rfl,by simp[Frame.enter],rfl⟩,Du,⟨_,rfl⟩,rfl,rfl,rfl⟩ (λL r A=>?_);have B:=A.Vs.Tf;refine⟨by have:=B.YD;omega,{r with YD:=r.YD+1},.ch k .done .work,rfl,rfl,⟨rfl,rfl,rfl⟩,by rw[Zo];exact .post,λM N=>?_⟩;rw[WY];refine V.Zp (f _ _ _) ?_;refine W.ZC (.stop ?_);refine V.Jd (f _ _ _) rfl rfl rfl rfl func215 rfl λC D E F I=>?_;obtain rfl:D=[]:=YP.1 I.len;rintro y rfl;exact i _ C E F.ext
end
noncomputable def Ls:Code:=f176.body.getD .skip
theorem v7:(prog.funcs[176]?).any (·.norace)=true:=by kernel_rfl
section
variable {Q:Value->Prop} {mn:Bool} {x:ZZ} {c:Frame} {rest:List Frame} {S:ο} {B:Z8} {σ:Ρ} {H:Ψ} {s m k:Nat} {sp:Spec} {v:Option (Nat×δ)} {t:Tok}
abbrev Dh (Q:Value->Prop) (mn:Bool) (x:ZZ) (c:Frame) (rest:List Frame) (H:Ψ) (s m:Nat) (t:Tok) (v:Option (Nat×δ)) (d:Nat) (K:List Item) (env:Δ):Prop:=
 V prog Q mn (one (ZJ x s t v d)) (Frame.enter prog 176 #[ptr m 0] .normal) (c::rest) 21 ⟨XE,[],H,[],0⟩ K env []
theorem Dg {c:ο} {H H':Ψ} (h:Ext XE [] H c [] H'):Ext XE [] H XE [] H':=
 ⟨λb o v h=>(by cases h),λb a d=>h.Xp b a d,λb a=>h.blocks b a,λb o v h=>(by cases h),h.grow⟩
theorem Df (b:Vr x s m sp) (d:Lt Q mn x c rest H s k 0) {env:Δ}:Dh Q mn x c rest H s m (.ch k .done .work) v 1 [.code (Yr [1,1,1] Ls)] env:=by
 letI:ZN:=X3;have a:=b.seq;refine V.Zp (a _ _ _) ?_;unfold Ls;refine W.Ze (.stop ?_);refine V.enable (a _ _ _).here (UT _) ⟨⟨rfl,rfl,by simp[Frame.enter],rfl⟩,O4,⟨_,rfl⟩,rfl,rfl,rfl⟩ ?_;rw[LA];refine V.Zp (a _ _ _) ?_;refine W.ZC (.stop ?_);refine V.Jd (a _ _ _) rfl rfl rfl rfl func176 rfl λe f g h i=>?_;obtain rfl:f=[]:=YP.1 i.len;rintro y rfl;exact d _ e g h.ext
theorem v5 (d:Vr x s m sp) (Y:Holds S B σ H) {L:List Nat}
  (Z:∀(F:ο) (H':Ψ),Ext S [] H F [] H'->Holds F [] [] H'->∃g E,Split H' g E/\sp.XV (L++[k]) E/\Lt Q mn x c rest g s k 0) :
  Zb prog Q mn (ZJ x s (.ch k (.YI L) .work) v 0) (Frame.enter prog 176 #[ptr m 0] .normal) (c::rest) H:=by
 letI:ZN:=X3;have e:=d.seq;refine V.Rt (z:=one _) (vs:=[ptr m 0]) func176 rfl Y (by simp[ntmps176]) ?_ _ rfl;refine V.Zp (e _ _ _) ?_;refine Y1 ?_;refine Γ rfl ?_;refine Y1 ?_;refine W.Ze ?_;refine Xy [0,1,2] [3] ?_;refine W.stop ?_;refine V.M5 (e _ _ _).here (sp:=sp) d.spec (by rw[Zo];exact id) ⟨rfl,rfl,by simp[Frame.enter],rfl⟩ rfl rfl rfl M4 rfl v7 mwd (λI w n o=>o.Rv (by rw[n];exact d.ZO)) (λaD aE aF=>.inl ?_);unfold We;rw[UY];refine V.Zp (e _ _ _) ?_;refine W.ZC ?_;refine Y1 ?_;refine W.forget [(0,.z (ptr m 0))] J ?_;refine W.Ze ?_;refine Xy [0] [1,2] ?_;refine W.stop ?_;refine V.conv (e _ _ _).here (sp:=sp) d.spec (by rw[Zo];exact id) ⟨rfl,rfl,by simp[Frame.enter],rfl⟩ rfl rfl rfl G8 O3 G7 rfl (λI w n o=>⟨_,o.Rv (by rw[n];exact d.ZO)⟩) (λφ I aG=>?_);unfold We;rw[UY];refine V.H9 d.rel rfl (sp:=sp) (L:=L) d.spec d.ZO Zo ⟨⟨rfl,rfl,by simp[Frame.enter],rfl⟩,DC,⟨_,rfl⟩,rfl,rfl,rfl⟩ λaa ab g t1 ad p=>?_;obtain rfl:ab=[]:=YP.1 p.holds.len;obtain⟨r,E,ae,af,K⟩:=Z aa g ad.ext p.holds;refine⟨r,E,ae,af,?_⟩;rw[WY];refine V.here (x:=one _) (S:=XE) (B:=[]) (σ:=[]) (m:=0) (nt:=21) ?_ (p.none J) _ rfl;refine V.Zp (e _ _ _) ?_;refine W.ZC ?_;refine Y1 ?_;refine W.Ze (.stop ?_);refine V.disable (e _ _ _).here ⟨⟨rfl,rfl,by simp[Frame.enter],rfl⟩,Ly,⟨_,rfl⟩,rfl,rfl,rfl⟩ ?_;rw[LB];refine V.Zp (e _ _ _) ?_;refine W.ZC ?_;refine Y1 ?_;refine W.Ze ?_;refine Xy [0,1,2] [3,4] ?_;refine W.stop ?_;refine V.DL (e _ _ _).here (UT _) (sp:=sp) d.spec (by rw[Zo];exact id) d.ZO ⟨⟨rfl,rfl,by simp[Frame.enter],rfl⟩,Dy,⟨_,rfl⟩,rfl,rfl,rfl⟩ (λaH b u=>?_);have f:=u.Vs.Tf;rw[Zo] at f;have ag:=f.hold rfl;have aI:=Lv d u.spec;have f1:=f.wk;have f2:=f.sv;have f3:=f.nw;have M:mwd {b with Y7:=0}=i32.wrap (mwd b+-1):=by simp only[mwd,IntKind.wrap_i32,ag];omega
 have N:∀(t:Tok) (O:Nat),(b.sv=0/\(b.nw=0\/b.wk=1)/\t=.ch k .done .work)\/(b.sv=0/\0<b.nw/\b.wk=0/\t=.ch k .uc .work)\/(b.sv=1/\t=.ch k .us .work)->
   Dh Q mn x c rest r s m t (some (O,{b with Y7:=0})) 1 [.code (Yr [1,1,0] Ls),.code (Yr [1,1,1] Ls)] [(0,.z (ptr m 0)),(2,.z (.int .i32 (mwd {b with Y7:=0})))]:=λt O P=>by
  refine V.Zp (e _ _ _) ?_;unfold Ls;refine Y1 ?_;by_cases i:mwd {b with Y7:=0}=0
  .refine WC i ?_;have ah:t=.ch k .done .work:=by
    simp only[mwd] at i;rcases P with⟨_,_,h⟩|⟨_,h,_⟩|⟨h,_⟩
    .exact h
    .omega
    .omega
   subst ah;exact .stop (Df d K)
  .have ai:(mwd {b with Y7:=0} != 0)=true:=by simpa using i
   refine WC (Τ i ai) ?_;refine W.Ze ?_;refine Xy [0,1] [2] ?_;refine W.stop ?_;refine V.call (e _ _ _) ⟨rfl,rfl,by simp[Frame.enter],rfl⟩ rfl rfl rfl ⟨_,func215,rfl,rfl⟩ λaJ aj aK t4 aL ak R al=>?_;obtain rfl:=TJ (l:=[ptr m 0,.int .i32 (mwd {b with Y7:=0})]) al;obtain rfl:aj=[]:=YP.1 R.holds.len;rintro y rfl;refine v8 d (λaM aN am an=>?_) (by exact u.spec) rfl f1 f2 (by show b.nw<7;omega) P;rw[V6 rfl];have ao:Ext XE [] r XE [] am:=(Dg ak.ext).trans (Dg an);refine V.here (x:=one _) (S:=XE) (B:=[]) (σ:=[]) (m:=0) (nt:=21) ?_ ((R.put (a:=SD) rfl (.z _)).none J) _ rfl;refine V.Zp (e _ _ _) ?_;refine W.ZC (.stop ?_);exact Df d λap aq ar au=>K ap aq ar (ao.trans au)
 by_cases T:b.sv=1
 .refine⟨{b with Y7:=0},.ch k .us .work,M,rfl,⟨rfl,rfl,rfl⟩,by rw[Zo];exact .Bd T,λC _=>?_⟩;rw[WY];refine V.Zp (e _ _ _) ?_;refine W.part (A:=[]) Υ [4] [] rfl λav D=>?_;(try simp);(repeat (rw[Ν];simp));(try simp);apply D;refine W.ZC ?_
  first|apply W4|apply wb|apply WN|apply wd
  refine W.forget [(0,.z (ptr m 0)),(2,.z (.int .i32 (mwd {b with Y7:=0})))] J (.stop ?_);exact N _ C (.inr (.inr ⟨T,rfl⟩))
 .have j:b.sv=0:=U
  have step:∀(t:Tok),(b.sv=0/\(b.nw=0\/b.wk=1)/\t=.ch k .done .work)\/(b.sv=0/\0<b.nw/\b.wk=0/\t=.ch k .uc .work)->Act b (.ch k .fin .work) {b with Y7:=0} t->∃o' t',mwd o'=i32.wrap (mwd b+-1)/\o'.YD=b.YD/\M6 b o'/\Act b (.ch k .fin .work) o' t'/\((b.sv=0/\(b.nw=0\/b.wk=1)/\t'=.ch k .done .work)\/(b.sv=0/\0<b.nw/\b.wk=0/\t'=.ch k .uc .work))/\o'={b with Y7:=0}:=λt aw ax=>⟨_,t,M,rfl,⟨rfl,rfl,rfl⟩,ax,aw,rfl⟩;obtain⟨o',t',ay,az,aA,aB,aC,rfl⟩:∃o' t',mwd o'=i32.wrap (mwd b+-1)/\o'.YD=b.YD/\M6 b o'/\Act b (.ch k .fin .work) o' t'/\((b.sv=0/\(b.nw=0\/b.wk=1)/\t'=.ch k .done .work)\/(b.sv=0/\0<b.nw/\b.wk=0/\t'=.ch k .uc .work))/\o'={b with Y7:=0}:=by
   by_cases X:b.nw=0\/b.wk=1
   .exact step _ (.inl ⟨j,X,rfl⟩) (.Bf j X)
   .exact step _ (.inr ⟨j,U,U,rfl⟩) (.Be j U U)
  refine⟨_,t',ay,az,aA,by rw[Zo];exact aB,λC _=>?_⟩;rw[WY];refine V.Zp (e _ _ _) ?_;refine W.part (A:=[]) Υ [4] [] rfl λav D=>?_;(try simp);(repeat (rw[Ν];simp));(try simp);apply D;refine W.ZC ?_
  first|apply W4|apply wb|apply WN|apply wd
  refine W.forget [(0,.z (ptr m 0)),(2,.z (.int .i32 (mwd {b with Y7:=0})))] J (.stop ?_);exact N _ C (aC.imp id λh=>.inl h)
theorem Zb.leaveD [ZN] {P:Program} {Q:Value->Prop} {mn:Bool} {x:ZZ} {c b:Frame} {rest:List Frame} {H:Ψ} {t:Array Value} {ops:Array Oper} {fn:Func} (a:Seq (one x)) (d:b.mode=.run) (e:b.roundOf=none) (f:b.defers=[]) (g:b.kind=.deferred) (i:P.funcs[b.fn]?=some fn) (j:fn.results=#[])
  (k:c.mode=.returning) (h:Zb P Q mn x c rest H):Zb P Q mn x (π b t [.inRegion ops []]) (c::rest) H:=by
 refine ν.ZC (x:=one x) a d (.Qm a d e (.H4 a rfl f g i ?_)) x rfl;rw[results_none j];refine Ω.pure' ?_;simp only[k];intro y l;cases l;exact h
theorem v3 (h:Vr x s m sp) (p:Holds S B σ H) (r:c.mode=.returning) {L:List Nat}
  (t:∀(j:ο) (H':Ψ),Ext S [] H j [] H'->Holds j [] [] H'->∃d E,Split H' d E/\sp.XV (L++[k]) E/\∀(v:Option (Nat×δ)) (e:ο) (b:Ψ),Ext XE [] d e [] b->Zb prog Q mn (ZJ x s (.ch k .done .work) v 0) c rest b) :
  Zb prog Q mn (ZJ x s (.ch k (.YI L) .work) v 0) (Frame.enter prog 145 #[ptr m 0] .deferred) (c::rest) H:=by
 letI:ZN:=X3;have f:=h.seq;rw[SG (body:=f145.body.getD .skip) func145 rfl];refine V.here (x:=one _) (m:=0) (nt:=6) (env:=entry 0 [.z (ptr m 0)]) ?_ (XA.enter p.bare ⟨rfl,λi a v g n=>?_⟩ (Z1 _) J) _ rfl
 .refine V.XS (f _ _ _) rfl ?_;simp only[f145,Option.getD_some];refine Y1 ?_;refine W.Ze ?_;refine Xy [0,1,2] [3] ?_;refine W.stop ?_;refine V.call (f _ _ _) ⟨rfl,rfl,by simp[Frame.enter],rfl⟩ rfl rfl rfl ⟨_,func176,rfl,rfl⟩ λR u d t1 T w o hv=>?_;obtain rfl:=TJ (l:=[ptr m 0]) hv;obtain rfl:u=[]:=YP.1 o.holds.len;rintro y rfl;refine v5 h o.holds (L:=L) λe b A C=>?_;obtain⟨D,E,F,I,K⟩:=t e b (w.ext.trans A) C;refine⟨D,E,F,I,λM N O P=>?_⟩;rw[V6 rfl];refine Zb.leaveD (f _ _ _) rfl rfl rfl rfl func145 rfl r ?_;exact K M N O P
 .cases i with
  | zero=>simp at g n;subst g;subst n;exact .z _
  | succ i=>simp at g
end
structure Uf (x:ZZ) (s:Nat) (sp:Spec):Prop where
 rel:x.rel=false
 Z5:x.Z5=λ_=>none
 spec:x.spec s=some sp
 top:sp.top<7
 still:∀a,a≠s->Ti (x.tok a)
theorem Uf.seq {x:ZZ} {s:Nat} {sp:Spec} (h:Uf x s sp):∀t v d,@Seq X3 (one (ZJ x s t v d)):=λt v d=>@Seq.O6 X3 _ trivial h.rel h.Z5
abbrev Wh (c w:Nat):Int:=(c:Int)*4294967296+w
theorem I7:∀c<8,∀w<2,XY .u64 (Wh c w) 2147483648=0:=by decide +kernel
theorem I6:∀c<8,∀w<2,i32.wrap ((Wh c w).fdiv (2 ^ min 32 u64.bits))=c:=by decide +kernel
theorem I5:∀c<8,∀w<2,u32.wrap (XY .u64 (Wh c w) 2147483647)=w:=by decide +kernel
theorem vZ:∀c<7,∀w<2,u64.wrap (Wh c w+4294967296)=Wh (c+1) w:=by decide +kernel
theorem vY:∀c<8,∀w<2,0<c->u64.wrap (Wh c w+18446744069414584320)=Wh (c-1) w:=by decide +kernel
theorem vX:∀c<8,u64.wrap (Wh c 0+1)=Wh c 1:=by decide +kernel
theorem De:u64.wrap 1=1:=Z0
theorem Dd:u64.wrap (2 ^ min 32 u64.bits)=4294967296:=Z0
theorem G1:i32.wrap 1=1:=Z0
theorem O2 (a:δ):YZ a=Wh a.cnt a.wt:=rfl
section
variable {Q:Value->Prop} {mn:Bool} {x:ZZ} {c:Frame} {rest:List Frame} {S:ο} {B:Z8} {σ:Ρ} {H:Ψ} {s k:Nat} {sp:Spec} {v:Option (Nat×δ)} {t:Tok}
theorem I4 (b:Uf x s sp) {a:δ} (h:a.toSpec=sp):a.top<7:=by have:=b.top;rw[show a.top=sp.top by rw[<-h]];exact this
def M1 (Q:Value->Prop) (mn:Bool) (x:ZZ) (c:Frame) (rest:List Frame) (S:ο) (H:Ψ) (r:Value):Prop:=
 ∀(a:ο) (H':Ψ),Ext S [] H a [] H'->Holds a [] [] H'->Zb prog Q mn x (c.finish r) rest H'
theorem vW (f:Uf x s sp) (h:¬Xj t) {d:Int} (i:Holds S B σ H)
  (j:∀φ a,Seen (ZJ x s t v 1) s sp φ a->∃o' t',YZ o'=u64.wrap (YZ a+d)/\o'.YU=a.YU/\QK a o'/\Act a t o' t'/\∀b,b<φ->M1 Q mn (ZJ x s t' (some (b,o')) 1) c rest S H (.int .u64 (YZ o'))) :
  Zb prog Q mn (ZJ x s t v 1) (Frame.enter prog 166 #[ptr s 0,.int .u64 d] .normal) (c::rest) H:=by
 letI:ZN:=X3;have e:=f.seq;refine V.Rt (z:=one _) (vs:=[ptr s 0,.int .u64 d]) func166 rfl i (by simp[ntmps166]) ?_ _ rfl;refine V.Zp (e _ _ _) ?_;refine WE ?_;refine W.Ze ?_;refine Xy [0,1,2,3] [4,5] ?_;refine W.stop ?_;refine V.Hh (e _ _ _).here (UT _) (sp:=sp) f.spec (by rw[Zo];exact h) ⟨⟨rfl,rfl,by simp[Frame.enter],rfl⟩,Dx,⟨_,rfl⟩,rfl,rfl,rfl⟩ (λφ a k=>?_);obtain⟨o',t',l,m,n,o,p⟩:=j φ a k;refine⟨o',t',l,m,n,by rw[Zo];exact o,λb r=>?_⟩;rw[WY];refine V.Zp (e _ _ _) ?_;refine W.part (A:=[]) Υ [5] [] rfl λF u=>?_;(try simp);(repeat (rw[Ν];simp));(try simp);apply u;refine W.ZC (.stop ?_);refine V.PX (e _ _ _) rfl rfl rfl rfl func166 rfl rfl λw C D E g=>?_;obtain rfl:C=[]:=YP.1 g.len;rintro y rfl;exact p b r w D E.ext g
theorem GZ (l:Uf x s sp) (m:¬Xj t) (n:Holds S B σ H)
  (o:∀φ a,Seen (ZJ x s t v 1) s sp φ a->M1 Q mn (ZJ x s t (some (φ,a)) 1) c rest S H (.int .u64 (YZ a))\/∃t',Act a t a t'/\∀e,e<φ->M1 Q mn (ZJ x s t' (some (e,a)) 1) c rest S H (.int .u64 (YZ a))) :
  Zb prog Q mn (ZJ x s t v 1) (Frame.enter prog 168 #[ptr s 0] .normal) (c::rest) H:=by
 letI:ZN:=X3;have b:=l.seq;refine V.Rt (z:=one _) (vs:=[ptr s 0]) func168 rfl n (by simp[ntmps168]) ?_ _ rfl;refine V.Zp (b _ _ _) ?_;refine WE ?_;refine W.Ze ?_;refine Xy [0,1,2] [3,4] ?_;refine W.stop ?_;refine V.Hi (b _ _ _).here (UT _) (sp:=sp) l.spec (by rw[Zo];exact m) ⟨⟨rfl,rfl,by simp[Frame.enter],rfl⟩,Dw,⟨_,rfl⟩,rfl,rfl,rfl⟩ (λφ a p=>(o φ a p).imp (λh=>?_) (λ⟨t',r,u⟩=>⟨t',by rw[Zo];exact r,λe w=>?_⟩))
 .unfold We;rw[UY];refine V.Zp (b _ _ _) ?_;refine W.part (A:=[]) Υ [4] [] rfl λC f=>?_;(try simp);(repeat (rw[Ν];simp));(try simp);apply f;refine W.ZC (.stop ?_);refine V.PX (b _ _ _) rfl rfl rfl rfl func168 rfl rfl λg i j k d=>?_;obtain rfl:i=[]:=YP.1 d.len;rintro y rfl;exact h g j k.ext d
 .rw[WY];refine V.Zp (b _ _ _) ?_;refine W.part (A:=[]) Υ [4] [] rfl λC f=>?_;(try simp);(repeat (rw[Ν];simp));(try simp);apply f;refine W.ZC (.stop ?_);refine V.PX (b _ _ _) rfl rfl rfl rfl func168 rfl rfl λg i j k d=>?_;obtain rfl:i=[]:=YP.1 d.len;rintro y rfl;exact u e w g j k.ext d
theorem vV (o:Uf x s sp) (p:¬Xj t) (r:Holds S B σ H) {e g:Int}
  (u:∀φ a,Seen (ZJ x s t v 1) s sp φ a->¬YZ a=e->M1 Q mn (ZJ x s t (some (φ,a)) 1) c rest S H (.bool false))
  (w:∀φ a,Seen (ZJ x s t v 1) s sp φ a->YZ a=e->∃o' t',YZ o'=g/\o'.YU=a.YU/\QK a o'/\Act a t o' t'/\∀f,f<φ->M1 Q mn (ZJ x s t' (some (f,o')) 1) c rest S H (.bool true)) :
  Zb prog Q mn (ZJ x s t v 1) (Frame.enter prog 179 #[ptr s 0,.int .u64 e,.int .u64 g] .normal) (c::rest) H:=by
 letI:ZN:=X3;have b:=o.seq;refine V.Rt (z:=one _) (vs:=[ptr s 0,.int .u64 e,.int .u64 g]) func179 rfl r (by simp[ntmps179]) ?_ _ rfl;refine V.Zp (b _ _ _) ?_;refine WE ?_;refine W.Ze ?_;refine Xy [0,1,2,3,4] [5,6] ?_;refine W.stop ?_;refine V.xe (b _ _ _).here (UT _) (sp:=sp) o.spec (by rw[Zo];exact p) ⟨⟨rfl,rfl,by simp[Frame.enter],rfl⟩,wE,⟨_,rfl⟩,rfl,rfl,rfl⟩ (λφ a i hv=>?_) (λφ a i hv=>?_)
 .have h:=u φ a i hv;unfold We;rw[UY];refine V.Zp (b _ _ _) ?_;refine W.part (A:=[]) Υ [6] [] rfl λC j=>?_;(try simp);(repeat (rw[Ν];simp));(try simp);apply j;refine W.ZC (.stop ?_);refine V.PX (b _ _ _) rfl rfl rfl rfl func179 rfl rfl λk l m n d=>?_;obtain rfl:l=[]:=YP.1 d.len;rintro y rfl;exact h k m n.ext d
 .obtain⟨o',t',D,E,F,I,J⟩:=w φ a i hv;refine⟨o',t',D,E,F,by rw[Zo];exact I,λf K=>?_⟩;rw[WY];refine V.Zp (b _ _ _) ?_;refine W.part (A:=[]) Υ [6] [] rfl λC j=>?_;(try simp);(repeat (rw[Ν];simp));(try simp);apply j;refine W.ZC (.stop ?_);refine V.PX (b _ _ _) rfl rfl rfl rfl func179 rfl rfl λk l m n d=>?_;obtain rfl:l=[]:=YP.1 d.len;rintro y rfl;exact J f K k m n.ext d
end
theorem XA.O1 {m nt:Nat} {S a:ο} {B:Z8} {H H':Ψ} {env:Δ} {t:Array Value} (h:XA m nt S B H [] env t) (b:∀p∈env,∃v,p.2=I.z v) (c:Holds a [] [] H'):XA 0 nt a [] H' [] env t:=⟨c,Lu b h.Zn,h.size,Z1 _⟩
theorem Zb.GY [ZN] {P:Program} {d:Value->Prop} {mn:Bool} {x:ZZ} {c b:Frame} {rest:List Frame} {H:Ψ} {t:Array Value} {k:List Item} {fn:Func} {f:FuncId} (e:Seq (one x)) (j:Seq (one {x with deaf:=x.deaf-1})) (hd:0<x.deaf) (g:b.mode=.run) (i:b.roundOf=none) (l:b.defers=[Go.Conc.dcall f #[]]) (m:b.kind=.normal) (n:P.funcs[b.fn]?=some fn) (o:fn.results=#[])
  (p:Entry P f (λ_=>do mark .enable;pure Extern.Race.none_)) (h:Zb P d mn {x with deaf:=x.deaf-1} (c.finish (.tuple #[])) rest H):Zb P d mn x (π b t (.code .ret::k)) (c::rest) H:=by
 refine ν.ret (x:=one x) e g i (λy a=>?_) x rfl;cases a;refine Zb.w8 e.here hd g i l p ?_;refine ν.back (f:={π {b with defers:=[]} t (.code .ret::k) with mode:=.returning}) (x:=one {x with deaf:=x.deaf-1}) j rfl rfl (.inl m) n ?_ _ rfl;rw[results_none o];refine Ω.pure' (λy a=>?_);cases a;exact h
section
variable {Q:Value->Prop} {mn:Bool} {x:ZZ} {c:Frame} {rest:List Frame} {S:ο} {B:Z8} {σ:Ρ} {H:Ψ} {s n p:Nat} {sp:Spec} {v:Option (Nat×δ)} {t:Tok}
theorem vU (g:Uf x s sp) (L:n<sp.top) (M:Holds S B σ H)
  (N:∀v,M1 Q mn (ZJ x s (.par (n+1) (p+1) .add) v 0) c rest S H (.tuple #[])) :
  Zb prog Q mn (ZJ x s (.par n p .add) v 0) (Frame.enter prog 140 #[ptr s 0,.int .i64 1] .normal) (c::rest) H:=by
 letI:ZN:=X3;have e:=g.seq;refine V.Rt (z:=one _) (vs:=[ptr s 0,.int .i64 1]) func140 rfl M (by simp[ntmps140]) ?_ _ rfl;refine V.Zp (e _ _ _) ?_;refine WE ?_;refine W.Ze (.stop ?_);refine V.disable (e _ _ _).here ⟨⟨rfl,rfl,by simp[Frame.enter],rfl⟩,Ly,⟨_,rfl⟩,rfl,rfl,rfl⟩ ?_;rw[LB];refine V.Zp (e _ _ _) ?_;refine W.ZC ?_;refine Y1 ?_;refine W.Ze (.stop ?_);refine V.Hf (e _ _ _) ⟨rfl,rfl,by simp[Frame.enter],rfl⟩ rfl rfl rfl ?_;refine V.Zp (e _ _ _) ?_;refine W.ZC ?_;refine WE ?_;refine W.Ze (.stop ?_);refine V.Jc (e _ _ _) (vs:=[]) ⟨⟨rfl,rfl,by simp[Frame.enter],rfl⟩,Dz,⟨_,rfl⟩,rfl,rfl,rfl⟩ ?_;refine V.Zp (e _ _ _) ?_;refine W.ZC ?_;refine WE ?_;refine W.Ze ?_;refine W.part (A:=[]) Υ [0,1,2,3,4,5] [6,7] rfl λO k=>?_;(try simp);(repeat (rw[Ν];simp[De,Dd]));(try simp[De,Dd]);apply k;refine W.stop ?_;refine V.call (e _ _ _) ⟨rfl,rfl,by simp[Frame.enter],rfl⟩ rfl rfl rfl ⟨_,func166,rfl,rfl⟩ λam P an t1 ao R o hv=>?_;obtain rfl:=TJ (l:=[ptr s 0,.int .u64 4294967296]) hv;obtain rfl:P=[]:=YP.1 o.holds.len;rintro y rfl;refine vW g id o.holds λφ f j=>?_;have u:=j.Vs.PU;rw[Zo] at u;obtain⟨C,ap,aq,ar,T⟩:=u.add n p rfl;have X:=I4 g j.spec;have D:n<f.top:=by rw[show f.top=sp.top by rw[<-j.spec]];exact L
 have Y:∀a b c d:Nat,a=b+1->b<=c->c<d->d<7->a<8/\b<7/\0<a/\¬a=0:=λa b c d i au av aw=>U;obtain⟨cc,r⟩:=Ι (f.cnt+1);obtain⟨t,Z,aa,ax⟩:=Y cc f.cnt n f.top r T D X;have E:YZ {f with cnt:=cc}=Wh cc 0:=by rw[O2];simp only[C]
 refine⟨{f with cnt:=cc},.par (n+1) (p+1) .add,?_,rfl,⟨rfl,rfl,rfl⟩,by rw[r];exact .add D,λay az ab ad ae af=>?_⟩
 .rw[E,O2,C,vZ f.cnt Z 0 Z0,r]
 have f1:=I7 cc t 0 Z0
 have f2:=I6 cc t 0 Z0
 have f3:=I5 cc t 0 Z0;rw[E];generalize Wh cc 0=w at f1 f2 f3;rw[V6 rfl];refine V.here (x:=one _) (m:=0) (nt:=117) ?_ ((o.put (a:=.z (.int .u64 w)) rfl (.z _)).O1 J af) _ rfl;have F:∀(v:Option (Nat×δ)) (env:Δ) (K:List Item),V prog Q mn (one (ZJ x s (.par (n+1) (p+1) .add) v 1)) {Frame.enter prog 140 #[ptr s 0,.int .i64 1] .normal with defers:=[Go.Conc.dcall 161 #[]]} (c::rest) 117 ⟨ab,[],ad,[],0⟩ (.code .ret::K) env []:=λv env K ag ah ai t3 aj I=>by
  rintro y rfl;obtain rfl:ah=[]:=YP.1 I.holds.len;exact Zb.GY (e _ _ _) (e _ _ 0) (UT _) rfl rfl rfl rfl func140 rfl O4 (N v ag ai ((R.ext.trans ae).trans aj.ext) I.holds)
 refine V.Zp (e _ _ _) ?_;refine W.part (A:=[]) Υ [7] [] rfl λO k=>?_;(try simp);(repeat (rw[Ν];simp));(try simp);apply k;refine W.ZC ?_;by_cases i:cc=1
 .refine WC (Τ f1 (Τ f2 (Τ f3 (Τ @G1 i)))) ?_;refine W.Ze ?_;refine Xy [0,1,2] [3,4] ?_;refine W.stop ?_;refine V.conv (e _ _ _).here (sp:=sp) g.spec (by rw[Zo];exact id) ⟨rfl,rfl,by simp[Frame.enter],rfl⟩ rfl rfl rfl Dt O3 Ds rfl (λf w aA ak=>⟨_,ak.Ji⟩) (λφ f j=>?_);unfold We;rw[UY];refine V.xg g.rel Zo J ⟨⟨rfl,rfl,by simp[Frame.enter],rfl⟩,wG,⟨_,rfl⟩,rfl,rfl,rfl⟩ ?_;refine V.Zp (e _ _ _) ?_;refine W.ZC ?_;refine WC (Τ f1 (Τ f2 (Τ f3 (Τ @G1 i)))) ?_;exact .stop (F _ _ _)
 .have al:¬(cc:Int)=1:=λh=>i (by exact_mod_cast h);refine WC (Τ f1 (Τ f2 (Τ f3 (Τ @G1 (Τ i (Τ al aa)))))) ?_;exact .stop (F _ _ _)
end
noncomputable def Lr:Code:=f146.body.getD .skip
noncomputable def S8:Code:=Yr [1,0,0] Lr
noncomputable def N9:List Item:=[.inLoop S8,.inBlock 0]
theorem Dc:XY .u64 0 2147483648=0:=Z0
theorem Db:XY .u64 0 2147483647=0:=Z0
theorem I3:u32.wrap 0=0:=Z0
theorem Da:i32.wrap 0=0:=Z0
section
variable {Q:Value->Prop} {mn:Bool} {x:ZZ} {c:Frame} {rest:List Frame} {S:ο} {B:Z8} {σ:Ρ} {H:Ψ} {s n p:Nat} {sp:Spec} {v:Option (Nat×δ)} {t:Tok}
abbrev O0 (Q:Value->Prop) (mn:Bool) (x:ZZ) (c:Frame) (rest:List Frame) (S:ο) (H:Ψ) (s:Nat) (t:Tok) (v:Option (Nat×δ)) (d:Nat) (K:List Item) (env:Δ):Prop:=
 V prog Q mn (one (ZJ x s t v d)) (Frame.enter prog 146 #[ptr s 0] .normal) (c::rest) 84 ⟨S,[],H,[],0⟩ K env []
def QI (Q:Value->Prop) (mn:Bool) (x:ZZ) (c:Frame) (rest:List Frame) (S:ο) (H:Ψ) (s n:Nat) (sp:Spec):Prop:=
 ∀(d:ο) (H':Ψ) (e f:List Nat) (b a:Ψ),Ext S [] H d [] H'->Holds d [] [] H'->e.Perm (List.range n)->Ur sp.D e b->(sp.ZO≠none->f.Perm (List.range n)/\sp.XV f a)->(sp.ZO=none->a=Ψ.empty)->Apart H' b->Apart H' a->Apart b a->(∃w,Fits H' w/\Fits b w/\Fits a w)->
  ∀(v:Option (Nat×δ)) (h:ο) (g:Ψ),Ext XE [] (join (join H' b) a) h [] g->Zb prog Q mn (ZJ x s (.par n 0 .ZQ) v 0) (c.finish (.tuple #[])) rest g
theorem QI.later {a:ο} {b:Ψ} (h:QI Q mn x c rest S H s n sp) (d:Ext S [] H a [] b):QI Q mn x c rest a b s n sp:=
 λe H' f g i j k l m o p r t u w y v A B C=>h e H' f g i j (d.trans k) l m o p r t u w y v A B C
theorem C' (b:Uf x s sp) (d:∀(v:Option (Nat×δ)) (e:ο) (a:Ψ),Ext XE [] H e [] a->Zb prog Q mn (ZJ x s (.par n 0 .ZQ) v 0) (c.finish (.tuple #[])) rest a) {K:List Item} {env:Δ}:O0 Q mn x c rest XE H s (.par n 0 .ZQ) v 0 (.code .ret::K) env:=by
 letI:ZN:=X3;have f:=b.seq;refine V.Hg (f _ _ _) rfl rfl rfl rfl func146 rfl λg h i j k=>?_;obtain rfl:h=[]:=YP.1 k.len;rintro y rfl;exact d v g i j.ext
theorem C9 (a:Uf x s sp) (e:QI Q mn x c rest S H s n sp):O0 Q mn x c rest S H s (.par n 0 .SW) v 1 (.code (Yr [0,1] S8)::.inBlock 1::N9) [(0,.z (ptr s 0)),(2,.z (.int .u64 0))]:=by
 letI:ZN:=X3;have b:=a.seq;refine V.Zp (b _ _ _) ?_;unfold S8 Lr;refine WC (Τ @Dc (Τ @Db (Τ @I3 @Da))) ?_;refine W.Ze (.stop ?_);refine V.enable (b _ _ _).here (UT _) ⟨⟨rfl,rfl,by simp[Frame.enter],rfl⟩,O4,⟨_,rfl⟩,rfl,rfl,rfl⟩ ?_;rw[LA];refine V.Zp (b _ _ _) ?_;refine W.ZC ?_;refine W.Ze ?_;refine Xy [0] [1,2] ?_;refine W.stop ?_;refine V.conv (b _ _ _).here (sp:=sp) a.spec (by rw[Zo];exact id) ⟨rfl,rfl,by simp[Frame.enter],rfl⟩ rfl rfl rfl G6 O3 G5 rfl (λf w K g=>⟨_,g.Tg⟩) (λφ f L=>?_);unfold We;rw[UY];refine V.Kv a.rel rfl (sp:=sp) a.spec Zo (.inl rfl) ⟨⟨rfl,rfl,by simp[Frame.enter],rfl⟩,I',⟨_,rfl⟩,rfl,rfl,rfl⟩ λh i j t1 k l o p r d t u y A C D E F=>?_;rw[WY];obtain rfl:i=[]:=YP.1 d.holds.len;have I:=e h j k l o p r.ext d.holds t u y A C D E F;refine V.here (x:=one _) (S:=XE) (B:=[]) (σ:=[]) (m:=0) (nt:=84) ?_ (d.none J) _ rfl;refine V.Zp (b _ _ _) ?_;refine W.ZC ?_;refine WC (Τ @Dc (Τ @Db (Τ @I3 @Da))) ?_;exact .stop (C' a I)
theorem vT (e:Uf x s sp) (p:QI Q mn x c rest S H s n sp):O0 Q mn x c rest S H s (.par n 0 .w4) v 1 (.code (Yr [0,1,1,1,1,1,0,1,1,1,1] S8)::.inBlock 1::N9) [(0,.z (ptr s 0))]:=by
 letI:ZN:=X3;have b:=e.seq;refine V.Zp (b _ _ _) ?_;unfold S8 Lr;refine Y1 ?_;refine W.Ze ?_;refine Xy [0,1,2] [3,4,5] ?_;refine W.stop ?_;refine V.call (b _ _ _) ⟨rfl,rfl,by simp[Frame.enter],rfl⟩ rfl rfl rfl ⟨_,func168,rfl,rfl⟩ λi f j t1 ab g d hv=>?_;obtain rfl:=TJ (l:=[ptr s 0]) hv;obtain rfl:f=[]:=YP.1 d.holds.len;rintro y rfl;refine GZ e id d.holds λφ h k=>.inl λad ae r t=>?_;have o:=k.Vs.PU;rw[Zo] at o;obtain⟨u,af,C⟩:=o.fin n 0 (.inr (.inl rfl));have D:YZ h=0:=by simp only[YZ,u,C];rfl
 rw[D,V6 rfl];have E:=p.later (g.ext.trans r);refine V.here (x:=one _) (m:=0) (nt:=84) ?_ ((d.put (a:=.z (.int .u64 0)) rfl (.z _)).O1 J t) _ rfl;refine V.Zp (b _ _ _) ?_;refine W.part (A:=[]) Υ [4,5] [] rfl λag F=>?_;(try simp);(repeat (rw[Ν];simp));(try simp);apply F;refine W.ZC ?_;refine WE ?_;refine W.Ze (.stop ?_);refine V.enable (b _ _ _).here (UT _) ⟨⟨rfl,rfl,by simp[Frame.enter],rfl⟩,O4,⟨_,rfl⟩,rfl,rfl,rfl⟩ ?_;rw[LA];refine V.Zp (b _ _ _) ?_;refine W.ZC ?_;refine W.Ze ?_;refine Xy [0] [1,2] ?_;refine W.stop ?_;refine V.conv (b _ _ _).here (sp:=sp) e.spec (by rw[Zo];exact id) ⟨rfl,rfl,by simp[Frame.enter],rfl⟩ rfl rfl rfl G6 O3 G5 rfl (λh w ah I=>⟨_,I.Tg⟩) (λφ h k=>?_);unfold We;rw[UY];refine V.Kv e.rel rfl (sp:=sp) e.spec Zo (.inr rfl) ⟨⟨rfl,rfl,by simp[Frame.enter],rfl⟩,I',⟨_,rfl⟩,rfl,rfl,rfl⟩ λi f j t1 K L M N g d O P R T U X Y Z=>?_;rw[WY];obtain rfl:f=[]:=YP.1 d.holds.len;have aa:=E i j K L M N g.ext d.holds O P R T U X Y Z;refine V.here (x:=one _) (S:=XE) (B:=[]) (σ:=[]) (m:=0) (nt:=84) ?_ (d.none J) _ rfl;refine V.Zp (b _ _ _) ?_;refine W.ZC ?_;refine WE ?_;exact .stop (C' e aa)
theorem vS {a b d:Nat} (h:a<=b) (c:b<7):a<8/\a<7:=U
theorem vR {a b:Nat} (h:a<b):¬b=0:=U
theorem vQ (b:Uf x s sp) (f:QI Q mn x c rest S H s n sp) {φ:Nat} {a:δ}:O0 Q mn x c rest S H s (.par n 0 .w3) (some (φ,a)) 1 (.code (Yr [0,1,1,1,1,1,0,1,1,1,0] S8)::.code (Yr [0,1,1,1,1,1,0,1,1,1,1] S8)::.inBlock 1::N9) [(0,.z (ptr s 0)),(5,.z (.bool false))]:=by
 letI:ZN:=X3;have d:=b.seq;have woken:∀v,O0 Q mn x c rest S H s (.par n 0 .w4) v 1 (.code (Yr [0,1,1,1,1,1,0,1,1,1,1] S8)::.inBlock 1::N9) [(0,.z (ptr s 0))]:=λv=>vT b f;refine V.Zp (d _ _ _) ?_;unfold S8 Lr;refine W.Ze ?_;refine Xy [0,1,2,3] [4] ?_;refine W.stop ?_;refine V.xc (d _ _ _).here (sp:=sp) b.spec (by rw[Zo];exact id) (vs:=[ptr s 1,.bool false]) rfl (λg e=>by rw[Lz e];exact b.still g e) ⟨⟨rfl,rfl,by simp[Frame.enter],rfl⟩,wz,⟨_,rfl⟩,rfl,rfl,rfl⟩ (λi a j h=>by rw[Zo];exact h) (λi a j h=>?_);refine⟨{a with YU:=a.YU-1},.par n 0 .w4,rfl,rfl,⟨rfl,rfl,rfl⟩,by rw[Zo];exact .wake h,λk l=>?_⟩;rw[WY];refine V.Zp (d _ _ _) ?_;refine W.ZC ?_;refine W.forget [(0,.z (ptr s 0))] J (.stop ?_);exact woken _
theorem vP (f:Uf x s sp):∀(N φ:Nat) (b:δ) (S:ο) (H:Ψ),φ<N->b.toSpec=sp->0<b.cnt->b.cnt<=b.top->b.wt=0->QI Q mn x c rest S H s n sp->
  O0 Q mn x c rest S H s (.par n 0 .add) (some (φ,b)) 1 (.code (Yr [0,1] S8)::.inBlock 1::N9) [(0,.z (ptr s 0)),(2,.z (.int .u64 (YZ b)))]:=by
 letI:ZN:=X3;have e:=f.seq;intro N
 induction N with
 | zero=>intro φ b S H h;exact absurd h (PA _)
 | succ N ah=>
  intro φ b S H ai P R aj ak g;have al:=I4 f P;obtain⟨k,aD⟩:=vS (d:=0) aj al;have f1:=I7 b.cnt k 0 Z0;have f2:=I6 b.cnt k 0 Z0;have f3:=I5 b.cnt k 0 Z0;have f4:=vX b.cnt k;have T:YZ b=Wh b.cnt 0:=by rw[O2,ak]
  have U:¬b.cnt=0:=vR R
  have am:¬(b.cnt:Int)=0:=λh=>U (by exact_mod_cast h);rw[<-T] at f1 f2 f3 f4;have sleep:∀(S H) (φ:Nat) (b:δ),QI Q mn x c rest S H s n sp->O0 Q mn x c rest S H s (.par n 0 .w3) (some (φ,b)) 1 (.code (Yr [0,1,1,1,1,1,0,1,1,1,0] S8)::.code (Yr [0,1,1,1,1,1,0,1,1,1,1] S8)::.inBlock 1::N9) [(0,.z (ptr s 0)),(5,.z (.bool false))]:=λS H φ b g=>vQ f g;have an:∀(S H v),QI Q mn x c rest S H s n sp->O0 Q mn x c rest S H s (.par n 0 .SW) v 1 (.code (Yr [0,1] S8)::.inBlock 1::N9) [(0,.z (ptr s 0)),(2,.z (.int .u64 0))]:=λS H v g=>C9 f g;refine V.Zp (e _ _ _) ?_;unfold S8 Lr;refine WC (Τ f2 (Τ f3 (Τ U am))) ?_;refine W.Ze ?_;refine W.part (A:=[]) Υ [0,1,2,3,4,5] [6] rfl λX i=>?_;(try simp);(repeat (rw[Ν];simp[f4]));(try simp[f4]);apply i;refine W.stop ?_;refine V.call (e _ _ _) ⟨rfl,rfl,by simp[Frame.enter],rfl⟩ rfl rfl rfl ⟨_,func179,rfl,rfl⟩ λaE ao aF t1 aG Y o hv=>?_;obtain rfl:=TJ (l:=[ptr s 0,.int .u64 (YZ b),.int .u64 (Wh b.cnt 1)]) hv;obtain rfl:ao=[]:=YP.1 o.holds.len;rintro y rfl;refine vV f id o.holds (λp r t hv ap aq D E=>?_) (λp r t hv=>?_)
  .have Z:=t.view φ b R4
   have ar:p<N:=by
    rcases OO p φ with h|h
    .exact KY h (Nat.le_of_lt_succ ai)
    .exact absurd (by rw[Z.2 (Nat.le_antisymm Z.1 h)]) hv
   have u:=g.later (Y.ext.trans D);rw[V6 rfl];refine V.here (x:=one _) (m:=0) (nt:=84) ?_ ((o.put (a:=.z (.bool false)) rfl (.z _)).O1 J E) _ rfl;refine V.Zp (e _ _ _) ?_;refine W.ZC ?_;refine Η rfl ?_;refine Y1 ?_;refine W.inLoop ?_;refine W.forget [(0,.z (ptr s 0))] J ?_;refine Y1 ?_;refine W.Ze ?_;refine Xy [0,1,2] [3,4] ?_;refine W.stop ?_;refine V.call (e _ _ _) ⟨rfl,rfl,by simp[Frame.enter],rfl⟩ rfl rfl rfl ⟨_,func168,rfl,rfl⟩ λaH au aI t3 aJ aa B av=>?_;obtain rfl:=TJ (l:=[ptr s 0]) av;obtain rfl:au=[]:=YP.1 B.holds.len;rintro y rfl;refine GZ f id B.holds λab j F=>?_;have I:=F.Vs.PU;rw[Zo] at I;obtain⟨C,aw,ax,ay,az⟩:=I.add n 0 rfl;have aA:=F.view p r R4;by_cases K:j.cnt=0
   .refine .inr ⟨.par n 0 .SW,.thru K,λaK aL ad ae L M=>?_⟩;have aB:YZ j=0:=by simp only[YZ,C,K];rfl
    rw[aB,V6 rfl];have O:=u.later (aa.ext.trans L);refine V.here (x:=one _) (m:=0) (nt:=84) ?_ ((B.put (a:=.z (.int .u64 0)) rfl (.z _)).O1 J M) _ rfl;refine V.Zp (e _ _ _) ?_;refine W.part (A:=[]) Υ [4] [] rfl λX i=>?_;(try simp);(repeat (rw[Ν];simp));(try simp);apply i;refine W.ZC ?_;refine W.forget [(0,.z (ptr s 0)),(2,.z (.int .u64 0))] J (.stop ?_);exact an _ _ _ O
   .refine .inl λad ae L M=>?_;rw[V6 rfl];have O:=u.later (aa.ext.trans L);refine V.here (x:=one _) (m:=0) (nt:=84) ?_ ((B.put (a:=.z (.int .u64 (YZ j))) rfl (.z _)).O1 J M) _ rfl;refine V.Zp (e _ _ _) ?_;refine W.part (A:=[]) Υ [4] [] rfl λX i=>?_;(try simp);(repeat (rw[Ν];simp));(try simp);apply i;refine W.ZC ?_;refine W.forget [(0,.z (ptr s 0)),(2,.z (.int .u64 (YZ j)))] J (.stop ?_);exact ah ab j ad ae (OR aA.1 ar) F.spec (Nat.pos_of_ne_zero K) I.cnt C O
  .have af:=t.Vs.PU;rw[Zo] at af;obtain⟨C,aw,ax,ay,az⟩:=af.add n 0 rfl;have ag:r.cnt=b.cnt:=by rw[T,O2,C] at hv;simp only[Wh] at hv;omega
   refine⟨{r with wt:=1},.par n 0 .w3,?_,rfl,⟨rfl,rfl,rfl⟩,.FX (by rw[ag];exact R),λab aM ap aq D E=>?_⟩
   .rw[O2];simp only[ag]
   rw[V6 rfl];have u:=g.later (Y.ext.trans D);refine V.here (x:=one _) (m:=0) (nt:=84) ?_ ((o.put (a:=.z (.bool true)) rfl (.z _)).O1 J E) _ rfl;refine V.Zp (e _ _ _) ?_;refine W.ZC ?_;refine Γ rfl ?_;refine WE ?_;refine W.Ze ?_;refine Xy [0,1,2] [3,4] ?_;refine W.stop ?_;refine V.conv (e _ _ _).here (sp:=sp) f.spec (by rw[Zo];exact id) ⟨rfl,rfl,by simp[Frame.enter],rfl⟩ rfl rfl rfl Dt O3 Ds rfl (λb w P aC=>⟨_,aC.Ji⟩) (λφ b t=>?_);unfold We;rw[UY];refine V.xf f.rel Zo J ⟨⟨rfl,rfl,by simp[Frame.enter],rfl⟩,wF,⟨_,rfl⟩,rfl,rfl,rfl⟩ ?_;refine V.Zp (e _ _ _) ?_;refine W.ZC ?_;refine WC f1 ?_;refine W.forget [(0,.z (ptr s 0)),(5,.z (.bool false))] J (.stop ?_);exact sleep _ _ _ _ u
theorem vO (e:Uf x s sp) (E:Holds S B σ H) (p:QI Q mn x c rest S H s n sp) :
  Zb prog Q mn (ZJ x s (.par n 0 .add) v 0) (Frame.enter prog 146 #[ptr s 0] .normal) (c::rest) H:=by
 letI:ZN:=X3;have b:=e.seq;refine V.Rt (z:=one _) (vs:=[ptr s 0]) func146 rfl E (by simp[ntmps146]) ?_ _ rfl;refine V.Zp (b _ _ _) ?_;refine WE ?_;refine W.Ze (.stop ?_);refine V.disable (b _ _ _).here ⟨⟨rfl,rfl,by simp[Frame.enter],rfl⟩,Ly,⟨_,rfl⟩,rfl,rfl,rfl⟩ ?_;rw[LB];refine V.Zp (b _ _ _) ?_;refine W.ZC ?_;refine Y1 ?_;refine W.loop ?_;refine Y1 ?_;refine W.Ze ?_;refine Xy [0,1,2] [3,4] ?_;refine W.stop ?_;refine V.call (b _ _ _) ⟨rfl,rfl,by simp[Frame.enter],rfl⟩ rfl rfl rfl ⟨_,func168,rfl,rfl⟩ λM F N t3 O r f I=>?_;obtain rfl:=TJ (l:=[ptr s 0]) I;obtain rfl:F=[]:=YP.1 f.holds.len;rintro y rfl;refine GZ e id f.holds λt d u=>?_;have g:=u.Vs.PU;rw[Zo] at g;obtain⟨w,P,R,T,U⟩:=g.add n 0 rfl;by_cases h:d.cnt=0
 .refine .inr ⟨.par n 0 .SW,.thru h,λX Y C D i j=>?_⟩;have K:YZ d=0:=by simp only[YZ,w,h];rfl
  rw[K,V6 rfl];have k:=p.later (r.ext.trans i);refine V.here (x:=one _) (m:=0) (nt:=84) ?_ ((f.put (a:=.z (.int .u64 0)) rfl (.z _)).O1 J j) _ rfl;refine V.Zp (b _ _ _) ?_;refine W.part (A:=[]) Υ [4] [] rfl λL o=>?_;(try simp);(repeat (rw[Ν];simp));(try simp);apply o;refine W.ZC ?_;refine W.forget [(0,.z (ptr s 0)),(2,.z (.int .u64 0))] J (.stop ?_);exact C9 e k
 .refine .inl λC D i j=>?_;rw[V6 rfl];have k:=p.later (r.ext.trans i);refine V.here (x:=one _) (m:=0) (nt:=84) ?_ ((f.put (a:=.z (.int .u64 (YZ d))) rfl (.z _)).O1 J j) _ rfl;refine V.Zp (b _ _ _) ?_;refine W.part (A:=[]) Υ [4] [] rfl λL o=>?_;(try simp);(repeat (rw[Ν];simp));(try simp);apply o;refine W.ZC ?_;refine W.forget [(0,.z (ptr s 0)),(2,.z (.int .u64 (YZ d)))] J (.stop ?_);exact vP e (t+1) t d C D (Qu _) u.spec (Nat.pos_of_ne_zero h) g.cnt w k
end
end Go.TL
namespace Go.TL
open Go.IntKind (i32 i64 u32 u64)
open Go.Proofs.Tryz
open Go.Conc Go.Proofs
open Go.ConcN (sumTo upd sumTo_upd upd_ne upd_same sumTo_congr le_sumTo)
variable [ZN]
def Zc.M0:Zc->I->Prop
 | .ok a,b=>a=b
 | .Y9 p r,b=>p/\r.M0 b
 | .bad,_=>False
def VF (P:Program) {b:Type} (s:Sem b) (a:b):Prop:=∀w,s.run P w=.ok a w/\∀es,s.events P w es=es
section
variable {P:Program} {T:ZR} {α β:Type}
theorem VF.pure (a:α):VF P (Pure.pure a) a:=λw=>⟨J,λes=>J⟩
theorem VF.bind {s:Sem α} {f:α->Sem β} {a:α} {b:β} (h:VF P s a) (k:VF P (f a) b):VF P (s >>= f) b:=λw=>⟨by simp[(h w).1,(k w).1,Result.andThen],λes=>by simp[(h w).1,(h w).2,(k w).2,Result.evThen]⟩
theorem VF.program:VF P Go.program P:=λw=>⟨J,λes=>J⟩
theorem VF.underlying {t:TypeId} {d:TypeDesc} (h:P.underlying t=some d):VF P (Go.underlying t) d:=λw=>⟨run_underlying h w,λes=>J⟩
theorem VF.sizeOf {t:TypeId} {i:TypeInfo} (hi:P.info? t=some i):VF P (Go.sizeOf t) i.size:=by
 unfold Go.sizeOf Go.typeInfo;refine VF.bind (VF.bind .program ?_) (VF.pure _);show VF P (match P.info? t with|some i=>Pure.pure i|none=>_) i;rw[hi];exact .pure _
theorem vN {d:BinOp} {f:TypeId} {p q:Operand} {x y v:Value} (h:(Qj d x y).M0 (.z v)):VF P (do eqGuard d f p q x y;binOp d f x y) v:=by
 unfold Qj at h;split at h
 case h_25=>exact h.elim
 case h_1=>
  obtain⟨a,b⟩:=h;cases b;have c:¬(_:Int)<0:=OM.2 a;simp only[eqGuard,binOp,Op.shift,c,if_false];exact .pure _
 case h_2=>
  obtain⟨a,b⟩:=h;cases b;have c:¬(_:Int)<0:=OM.2 a;simp only[eqGuard,binOp,Op.shift,c,if_false];exact .pure _
 case h_6=>
  split at h
  .rename_i e;subst e;obtain⟨a,b⟩:=h;cases b;simp only[eqGuard,binOp,Op.intDiv,a,if_false,ne_eq,not_true_eq_false];exact .pure _
  .exact h.elim
 case h_7=>
  split at h
  .rename_i e;subst e;obtain⟨a,b⟩:=h;cases b;simp only[eqGuard,binOp,Op.intDiv,a,if_false,ne_eq,not_true_eq_false];exact .pure _
  .exact h.elim
 case h_18=>
  obtain⟨a,b⟩:=h;cases b;have c:¬((_:Int) > i64.max):=OM.2 a;simp only[eqGuard,binOp,Op.stringOp,c,if_false];exact .pure _
 all_goals first
  |(cases h;exact .pure _)
  |(split at h
    .rename_i e;subst e;cases h;simp only[eqGuard,binOp,Op.intArith,Op.intBits,Op.intCmp,ne_eq,not_true_eq_false,if_false];exact .pure _
    .exact h.elim)
def MZ (T:ZR) (env:Δ) (o:Oper):Zc:=match o.op with
 | .move x=>.ok (η env x)
 | .assign x=>.ok (η env x)
 | .pick c a b=>Nq (η env c) (η env a) (η env b)
 | .binOp e _ x y _=>match η env x,η env y with
  | .z a,.z b=>Qj e a b
  | _,_=>.bad
 | .unOp e _ x=>NA e (η env x)
 | .convert s d x=>Ns T s d (η env x)
 | .nilCheck x=>match η env x with
  | .z (.pointer (some a))=>.ok (.z (.pointer (some a)))
  | _=>.bad
 | .fieldAddr g x f=>match η env x with
  | .z (.pointer (some ⟨b,o',none⟩))=>match Xi T g f with|some (o,_)=>.ok (.z (.pointer (some ⟨b,o'+o,none⟩)))|none=>.bad
  | _=>.bad
 | _=>.bad
theorem vM (m:Zz P T) {env:Δ} {o:Oper} {v:Value} (h:(MZ T env o).M0 (.z v)) {ρ:Operand->Value} (d:∀y u,η env y=.z u->ρ y=u):VF P (execOp ρ o) (.value v):=by
 have l:∀{s:Sem Value} {u:Value},VF P s u->VF P (do Pure.pure (Next.value (<-s))) (.value u):=λA=>.bind A (.pure _);unfold MZ at h;unfold execOp;split at h<;>rename_i B<;>first|(rw[B];simp only)|exact h.elim
 .rw[d _ _ h];exact .pure _
 .rw[d _ _ h];exact .pure _
 .rename_i c a b;unfold Nq at h;split at h
  .rename_i p C;rw[d _ _ C];refine VF.bind (a:=p) (VF.pure _) ?_;split at h
   .rename_i y z r D;cases h;rw[d _ _ r,d _ _ D];cases p<;>exact .pure _
   .cases p with
    | true=>rw[d a v h];exact .pure _
    | false=>rw[d b v h];exact .pure _
  .exact h.elim
 .split at h
  .rename_i x y g r;rw[d _ _ g,d _ _ r];exact l (vN h)
  .exact h.elim
 .unfold NA at h;split at h
  .rename_i p t;rw[d _ _ t];split at h
   .cases h;exact l (.pure _)
   .exact h.elim
  .rename_i k n t;rw[d _ _ t];split at h
   .cases h;exact l (.pure _)
   .exact h.elim
  .exact h.elim
 .unfold Ns at h;split at h
  .rename_i i j hi E;split at h
   .rename_i k kk n w g;cases h;rw[d _ _ g];refine l ?_;unfold convert;refine .bind (.underlying (m _ _ hi).1.1) (.bind (.underlying (m _ _ E).1.1) ?_);rw[w];exact .pure _
   .exact h.elim
  .exact h.elim
 .split at h
  .rename_i a g;cases h;rw[d _ _ g];exact .pure _
  .exact h.elim
 .split at h
  .rename_i b o' g;rw[d _ _ g];split at h
   .rename_i K L e;cases h;refine l ?_;unfold Xi at e;split at e<;>try cases e
    rename_i i hi;split at e<;>try cases e
    rename_i M w;split at e<;>try cases e
    rename_i x g;split at e<;>try cases e
    rename_i N F;split at e<;>try cases e
    rename_i H;unfold Instr.fieldAt;refine .bind (.underlying (m _ _ hi).1.1) ?_;rw[w];simp only[g];refine .bind (a:=⟨b,o',none⟩) (.pure _) ?_;obtain⟨f,I,J,_⟩:=(m _ _ F).2;refine .bind (a:=⟨b,o'+x.offset,none⟩) ?_ (.pure _);unfold fieldPlace;refine .bind (.sizeOf I) ?_;rw[J,if_neg H,Pq];exact .pure _
   .exact h.elim
  .exact h.elim
end
theorem vL (vs:List Value) {nt:Nat} (d:vs.length<=nt):YS XE [] [] (entry 0 (vs.map I.z)) (vs.toArray++Array.replicate (nt-vs.length) undef):=by
 have e:XT XE [] [] (vs.map I.z) vs.toArray:=⟨J,λi a v b c=>by
  simp only[Yh,List.getElem?_toArray] at b c;rw[c] at b;cases b;exact .z v⟩
 have:=(XA.enter (M3 Ψ.empty) (m:=0) (nt:=nt) e (Z1 _) (by simpa using d)).Zn;simpa using this
def GX (P:Program) (mn:Bool) (a:Goroutine->Prop):Prop:=∀g g',VS g->(∀w,stepG P mn g w=.go g' w #[])->a g'->a g
def Θ (a:Goroutine->Prop) (b:Frame) (cs:List Frame) (nt:Nat) (k:List Item) (env:Δ):Prop:=∀t:Array Value,t.size=nt->YS XE [] [] env t->a (Go.Conc.G (π b t k) cs)
def TE (T:ZR) (nt:Nat) (ops:Array Oper):List Nat->Δ->(Δ->Prop)->Prop
 | [],env,K=>K env
 | i::is,env,K=>Xm ops[i]? λo=>W2 nt o=true/\Xm (XM env ops o) λw=>
   Ws w (TE T nt ops is (Zt o env .Zk) K) (∃v,(MZ T env o).M0 (.z v)/\TE T nt ops is (Zt o env (.z v)) K)
theorem N8 {T:ZR} {nt:Nat} {ops:Array Oper} {env:Δ} {K:Δ->Prop}:TE T nt ops [] env K=K env:=XB rfl rfl
def N7 (T:ZR) (nt:Nat) (ops:Array Oper) (is:List Nat) (o:Oper) (env:Δ) (K:Δ->Prop):Zc->Prop
 | .ok (.z v)=>TE T nt ops is (Zt o env (.z v)) K
 | .Y9 p (.ok (.z v))=>p/\TE T nt ops is (Zt o env (.z v)) K
 | _=>False
theorem vK {T:ZR} {nt:Nat} {ops:Array Oper} {is:List Nat} {o:Oper} {env:Δ} {K:Δ->Prop} {v:Value}:N7 T nt ops is o env K (.ok (.z v))=TE T nt ops is (Zt o env (.z v)) K:=XB rfl rfl
theorem vJ {T:ZR} {nt:Nat} {ops:Array Oper} {is:List Nat} {o:Oper} {env:Δ} {K:Δ->Prop} {v:Value} {p:Prop}:N7 T nt ops is o env K (.Y9 p (.ok (.z v)))=(p/\TE T nt ops is (Zt o env (.z v)) K):=XB rfl rfl
theorem vI {T:ZR} {nt:Nat} {ops:Array Oper} {is:List Nat} {o:Oper} {env:Δ} {K:Δ->Prop} {r r':Zc} (h:r=r'):N7 T nt ops is o env K r=N7 T nt ops is o env K r':=by rw[h]
theorem vH {T:ZR} {nt:Nat} {ops:Array Oper} {is:List Nat} {o:Oper} {env:Δ} {K:Δ->Prop} {r:Zc} (h:N7 T nt ops is o env K r):∃v,r.M0 (.z v)/\TE T nt ops is (Zt o env (.z v)) K:=by
 unfold N7 at h;split at h
 .exact⟨_,rfl,h⟩
 .exact⟨_,⟨h.1,rfl⟩,h.2⟩
 .exact h.elim
theorem WW {T:ZR} {nt:Nat} {ops:Array Oper} {i:Nat} {is:List Nat} {env:Δ} {K:Δ->Prop} (h:Xm ops[i]? λo=>W2 nt o=true/\Xm (XM env ops o) λw=>Ws w (TE T nt ops is (Zt o env .Zk) K) (N7 T nt ops is o env K (MZ T env o))):TE T nt ops (i::is) env K:=by
 unfold TE;unfold Xm at h ⊢;split at h
 .exact h.elim
 rename_i o a;refine⟨h.1,?_⟩
 replace h:=h.2
 split at h
 .exact h.elim
 rename_i w b;exact⟨h.1,λe=>vH (h.2 e)⟩
section
variable {P:Program} {T:ZR} {mn:Bool} {Yi:Goroutine->Prop} {b:Frame} {cs:List Frame} {nt:Nat} {k:List Item} {env:Δ} {ops:Array Oper} {i:Nat} {rest:List Nat} {op:Oper}
variable (Xd:GX P mn Yi) (hb:b.mode=.run)
include Xd hb
theorem Θ.to {a:List Item} (c:∀t w,stepG.exec P mn true (π b t k) cs none w=.go (Go.Conc.G (π b t a) cs) w #[]) (h:Θ Yi b cs nt a env):Θ Yi b cs nt k env:=
 λt d e=>Xd _ _ ⟨rfl,rfl⟩ (λw=>(Vy hb w).trans (c t w)) (h t d e)
theorem Θ.skip (h:Θ Yi b cs nt k env):Θ Yi b cs nt (.code .skip::k) env:=.to Xd hb (λ_ _=>rfl) h
theorem Θ.inBlock {l:Nat} (h:Θ Yi b cs nt k env):Θ Yi b cs nt (.inBlock l::k) env:=.to Xd hb (λ_ _=>rfl) h
theorem Θ.seq {a c:Code} (h:Θ Yi b cs nt (.code a::.code c::k) env):Θ Yi b cs nt (.code (.seq a c)::k) env:=.to Xd hb (λ_ _=>rfl) h
theorem Θ.block {l:Nat} {c:Code} (h:Θ Yi b cs nt (.code c::.inBlock l::k) env):Θ Yi b cs nt (.code (.block l c)::k) env:=.to Xd hb (λ_ _=>rfl) h
theorem Θ.loop {c:Code} (h:Θ Yi b cs nt (.code c::.inLoop c::k) env):Θ Yi b cs nt (.code (.loop c)::k) env:=.to Xd hb (λ_ _=>rfl) h
theorem Θ.inLoop {c:Code} (h:Θ Yi b cs nt (.code c::.inLoop c::k) env):Θ Yi b cs nt (.inLoop c::k) env:=.to Xd hb (λ_ _=>rfl) h
theorem Θ.Ze {id:Nat} {ops:Array Oper} (h:Θ Yi b cs nt (.inRegion ops (idx ops.size [])::k) env):Θ Yi b cs nt (.code (.region id ops false)::k) env:=.to Xd hb (λ_ _=>by rw[idx_eq];rfl) h
theorem Θ.ZC {ops:Array Oper} (h:Θ Yi b cs nt k env):Θ Yi b cs nt (.inRegion ops []::k) env:=.to Xd hb (λ_ _=>rfl) h
theorem Θ.exit {l:Nat} {a:List Item} (c:exitTo l k=some a) (h:Θ Yi b cs nt a env):Θ Yi b cs nt (.code (.exit l)::k) env:=by
 refine .to Xd hb (λt w=>?_) h;unfold stepG.exec;simp only[π,c,Option.elim];rfl
theorem Θ.cond {c:Operand} {a e:Code} {v:Bool} (g:η env c=.z (.bool v)) (h:Θ Yi b cs nt (.code (if v then a else e)::k) env):Θ Yi b cs nt (.code (.cond c a e)::k) env:=by
 intro t i d;refine Xd _ _ ⟨rfl,rfl⟩ (λw=>?_) (h t i d);rw[Vy hb w];have f:(π b t (.code (.cond c a e)::k)).eval c=.bool v:=by rw[Mf];exact Jl d g
 unfold stepG.exec;simp only[π] at f ⊢;rw[f];rfl
theorem Θ.TD {c:Operand} {a e:Code} (d:η env c=.z (.bool true)) (h:Θ Yi b cs nt (.code a::k) env):Θ Yi b cs nt (.code (.cond c a e)::k) env:=.cond Xd hb d h
theorem Θ.TC {c:Operand} {a e:Code} (d:η env c=.z (.bool false)) (h:Θ Yi b cs nt (.code e::k) env):Θ Yi b cs nt (.code (.cond c a e)::k) env:=.cond Xd hb d h
theorem GW {t:Array Value} (h:YS XE [] [] env t) (hd:W2 nt op=true) (b:t.size=nt) {a:I} {v:Value} (c:ς XE [] [] a v):(put op t v).size=nt/\YS XE [] [] (Zt op env a) (put op t v):=⟨(QY h hd b c).2,(QY h hd b c).1⟩
theorem Θ.unwanted (c:ops[i]?=some op) (e:XM env ops op=some false) (hd:W2 nt op=true) (h:Θ Yi b cs nt (.inRegion ops rest::k) (Zt op env .Zk)):Θ Yi b cs nt (.inRegion ops (i::rest)::k) env:=by
 intro t f d;obtain⟨g,j⟩:=GW (b:=b) Xd hb d hd f (a:=.Zk) (v:=undef) (.Zk _);refine Xd _ _ ⟨rfl,rfl⟩ (λw=>?_) (h _ g j);rw[Vy hb,<-V6 c];have l:((ops[i]?).map (Region.wanted · (yielded ops t))).getD false=false:=by simp[c,U1 d e]
 unfold stepG.exec;simp only[π,l];rfl
theorem Θ.opn (f:Zz P T) (d:b.roundOf=none) (g:b.kind≠.early) (j:ops[i]?=some op) (l:XM env ops op=some true) (hd:W2 nt op=true) {v:Value} (hv:(MZ T env op).M0 (.z v)) (h:Θ Yi b cs nt (.inRegion ops rest::k) (Zt op env (.z v))):Θ Yi b cs nt (.inRegion ops (i::rest)::k) env:=by
 intro t m c;obtain⟨n,o⟩:=GW (b:=b) Xd hb c hd m (a:=.z v) (v:=v) (.z v);refine Xd _ _ ⟨rfl,rfl⟩ (λw=>?_) (h _ n o);have e:=vM f hv (ρ:=ZM t) λy u p=>Jl c p;rw[W' hb d,W' hb d,<-O7,stepG_value (a:=⟨t,b.defers⟩) j (U1 c l) g (by rw[Ug];exact(e w).1)];unfold listed;rw[Ug,(e w).2,seen_none]
theorem Θ.part (g:Zz P T) (j:b.roundOf=none) (m:b.kind≠.early) (is a:List Nat) {l:List Nat} (n:l=is++a) (h:∀c:Δ->Prop,(∀env,Θ Yi b cs nt (.inRegion ops a::k) env->c env)->TE T nt ops is env c):Θ Yi b cs nt (.inRegion ops l::k) env:=by
 subst n;have p:∀(is:List Nat) (env:Δ),TE T nt ops is env (λenv=>Θ Yi b cs nt (.inRegion ops a::k) env)->Θ Yi b cs nt (.inRegion ops (is++a)::k) env:=by
  intro is
  induction is with
  | nil=>intro env h;exact h
  | cons i is d=>
   intro env h;unfold TE Xm at h;split at h
   .exact h.elim
   rename_i o e;obtain⟨hd,h⟩:=h;split at h
   .exact h.elim
   rename_i w f;cases w with
   | false=>exact .unwanted Xd hb e f hd (d _ (h.1 rfl))
   | true=>
    obtain⟨v,r,s⟩:=h.2 rfl;exact .opn Xd hb g j m e f hd r (d _ s)
 exact p is env (h _ λ_ h=>h)
theorem Θ.region (c:Zz P T) (d:b.roundOf=none) (e:b.kind≠.early) {id:Nat} (h:∀a:Δ->Prop,(∀env,Θ Yi b cs nt k env->a env)->TE T nt ops (idx ops.size []) env a):Θ Yi b cs nt (.code (.region id ops false)::k) env:=by
 refine .Ze Xd hb (.part Xd hb c d e (idx ops.size []) [] J λa f=>h a λenv g=>f env (.ZC Xd hb g))
theorem Θ.Jc (d:TK b ops i op) (e:XM env ops op=some true) (hd:W2 nt op=true) {f:FuncId} {args:Array Operand} {g:Array TypeId} (j:op.op=.call ⟨.value (.func f),args,g⟩) {v:Value} (l:Entry P f (λ_=>pure v)) (h:Θ Yi b cs nt (.inRegion ops rest::k) (Zt op env (.z v))):Θ Yi b cs nt (.inRegion ops (i::rest)::k) env:=by
 intro t m c;obtain⟨n,o⟩:=GW (b:=b) Xd hb c hd m (a:=.z v) (v:=v) (.z v);exact Xd _ _ ⟨rfl,rfl⟩ (λw=>Jm l d (U1 c e) j (vs:=args.map (ZM t)) rfl J J J) (h _ n o)
theorem Θ.Hf (c:TK b ops i op) (e:XM env ops op=some true) (g:op.dst=none) {f:FuncId} {j:Array TypeId} (l:op.op=.defer ⟨.value (.func f),#[],j⟩)
  (h:Θ Yi {b with defers:=Go.Conc.dcall f #[]::b.defers} cs nt (.inRegion ops rest::k) env):Θ Yi b cs nt (.inRegion ops (i::rest)::k) env:=by
 intro t m d;refine Xd _ (Go.Conc.G (π {b with defers:=Go.Conc.dcall f #[]::b.defers} t (.inRegion ops rest::k)) cs) ⟨rfl,rfl⟩ (λw=>?_) (h t m d);rw[W' c.run c.ro,stepG_defer (a:=⟨t,b.defers⟩) c.op (U1 d e) c.kd l];have:(⟨t,Go.Conc.dcall f #[]::b.defers⟩:_root_.Go.Act).put op.dst undef=⟨t,Go.Conc.dcall f #[]::b.defers⟩:=by rw[g];rfl
 simp only[Array.map_empty,List.map_toArray,UU];rw[this,W' (b:={b with defers:=Go.Conc.dcall f #[]::b.defers}) c.run c.ro];rfl
theorem Θ.call (c:TK b ops i op) (o:XM env ops op=some true) {args:Array Operand} {p:Array TypeId} {g:FuncId} (r:op.op=.call ⟨.value (.func g),args,p⟩) {vs:List Value} (s:LD env args vs) {fn:Func} {body:Code} (l:P.funcs[g]?=some fn) (u:(fn.name == "runtime.NumGoroutine")=false) (d:fn.body=some body) (v:vs.length<=fn.ntmps)
  (h:∀t:Array Value,t.size=nt->YS XE [] [] env t->Θ Yi (Frame.enter P g vs.toArray .normal) (π b t (.inRegion ops (i::rest)::k)::cs) fn.ntmps [.code body] (entry 0 (vs.map I.z))):Θ Yi b cs nt (.inRegion ops (i::rest)::k) env:=by
 intro t f j;have m:=h t f j (vs.toArray++Array.replicate (fn.ntmps-vs.length) undef) (by simp;omega) (vL vs v);rw[show vs.toArray++Array.replicate (fn.ntmps-vs.length) undef=vs.toArray++Array.replicate (fn.ntmps-vs.toArray.size) undef by simp,<-SG l d] at m;refine Xd _ _ ⟨rfl,rfl⟩ (λw=>?_) m;have x:(fn.name == "runtime.NumGoroutine")=false:=u;have y:fn.body.isNone=false:=by rw[d];rfl
 have n:(execOp (ZM t) op).run P w=.ok (.enter g vs.toArray) w/\(execOp (ZM t) op).events P w #[]=#[]:=by
  have e:execOp (ZM t) op=callFunc g vs.toArray:=by
   unfold execOp;rw[r];have:args.map (ZM t)=vs.toArray:=s.ZM j;simp only[resolve];rw[this];simp[Deferred.ofValue,Go.TL.ZM,invoke]
  rw[e];unfold callFunc;have f:¬fn.name = "runtime.NumGoroutine" := by simpa using x
  simp[l,f,d]
 rw[W' c.run c.ro,stepG_enter (a:=⟨t,b.defers⟩) c.op (U1 j o) c.kd (by rw[Ug];exact n.1)];unfold listed;rw[Ug,n.2,seen_none]
theorem Θ.PX (e:b.roundOf=none) (g:b.defers=[]) (i:b.kind=.normal) {fn:Func} (j:P.funcs[b.fn]?=some fn) {d:Nat} (f:fn.results=#[.tmp d]) {v:Value} (hv:Z7 env d=.z v) {c:Frame}
  (h:Yi (Go.Conc.G (c.finish v) cs)):Θ Yi b (c::cs) nt (.code .ret::k) env:=by
 intro t n l;have m:t.getD d undef=v:=by
  have:=l d;rw[hv] at this;generalize t.getD d undef=u at this;cases this;rfl
 refine Xd _ (Go.Conc.G {π b t (.code .ret::k) with mode:=.returning} (c::cs)) ⟨rfl,rfl⟩ (λw=>?_) (Xd _ _ ⟨rfl,rfl⟩ (λw=>?_) h)
 .rw[Vy hb];unfold stepG.exec;simp only[π,e];rfl
 .rw[W' hb e,stepG_leave (a:=⟨t,b.defers⟩) i g j (results_tmp f _ P w) (events_results_tmp f _ _),m]
theorem Θ.Jd (d:b.roundOf=none) (f:b.defers=[]) (g:b.kind=.normal) {fn:Func} (i:P.funcs[b.fn]?=some fn) (e:fn.results=#[]) {c:Frame}
  (h:Yi (Go.Conc.G (c.finish (.tuple #[])) cs)):Θ Yi b (c::cs) nt [] env:=by
 intro t j k;refine Xd _ (Go.Conc.G {π b t [] with mode:=.returning} (c::cs)) ⟨rfl,rfl⟩ (λw=>?_) (Xd _ _ ⟨rfl,rfl⟩ (λw=>?_) h)
 .rw[Vy hb];unfold stepG.exec;simp only[π,d];rfl
 .rw[W' hb d,stepG_leave (a:=⟨t,b.defers⟩) g f i (Go.results_none e _ P w) (Go.Conc.events_results_none e _ _)]
end
attribute [congr] vI
attribute [simp] N8 vK vJ MZ
def UX (P:Program) (a:Value->Prop) (mn:Bool) (y:ZZ) (g:Goroutine):Prop:=VS g/\Goes P a mn g {y with G:=Ψ.empty}
def Uz (P:Program) (d:Nat) (g:Goroutine):Prop:=∃n,QuitsD P n d g
theorem ZL {P:Program} {c:Value->Prop} {mn:Bool} {y:ZZ} (d:XQ y):GX P mn (UX P c mn y):=λg g' a e b=>⟨a,Quiet.goes (.cons a e (.nil _)) d b.1 b.2⟩
theorem Yj {P:Program} {d:Nat}:GX P false (Uz P d):=λg g' a b ⟨n,c⟩=>⟨n+1,.ctl a.1 b c⟩
section
variable {P:Program} {Q:Value->Prop} {mn:Bool} {y:ZZ} {b:Frame} {cs:List Frame} {nt:Nat} {k:List Item} {env:Δ}
variable {ops:Array Oper} {i:Nat} {rest:List Nat} {op:Oper} {f:FuncId} {e:Array Value->Sem Value} {args:Array Operand} {vs:List Value}
theorem Θ.leaves {d:Nat} (a:y.rel=true) (c:∀s,Gone (y.tok s)) (hd:y.deaf=d) (h:Θ (Uz P d) b cs nt k env):Θ (UX P Q false y) b cs nt k env:=λt e f=>by
 obtain⟨n,g⟩:=h t e f;subst hd;exact⟨⟨rfl,rfl⟩,Goes.quits n a c g⟩
theorem Θ.disable (d:XQ y) (h:WZ P b ops i op f (λ_=>do mark .disable;pure Extern.Race.none_) args env [] nt) (e:Θ (UX P Q mn {y with deaf:=y.deaf+1}) b cs nt (.inRegion ops rest::k) (Zt op env SD)):Θ (UX P Q mn y) b cs nt (.inRegion ops (i::rest)::k) env:=λt g c=>by
 obtain⟨j,l⟩:=QY c h.dst g (a:=SD) (v:=.tuple #[]) (.z _);exact⟨⟨rfl,rfl⟩,Goes.step d.ok (.inr ⟨⟨rfl,rfl⟩,.inr (.inl ⟨Go.Conc.G (π b (put op t (.tuple #[])) (.inRegion ops rest::k)) cs,⟨rfl,rfl⟩,.inl λw _=>
  ⟨h.step c (Jk .disable) (Jj .disable _) (QP J),(e _ l j).2⟩⟩)⟩)⟩
def GV (P:Program) (Q:Value->Prop) (mn:Bool) (y:ZZ) (b:Frame) (cs:List Frame) (nt:Nat) (ops:Array Oper) (rest:List Nat) (k:List Item) (op:Oper) (env:Δ) (s φ:Nat) (a:δ) (v:Value):Prop:=
 Θ (UX P Q mn {y with view:=upd y.view s (some (φ,a))}) b cs nt (.inRegion ops rest::k) (Zt op env (.z v))
def I2 (P:Program) (Q:Value->Prop) (mn:Bool) (y:ZZ) (b:Frame) (cs:List Frame) (nt:Nat) (ops:Array Oper) (rest:List Nat) (k:List Item) (op:Oper) (env:Δ) (s φ:Nat) (c:δ) (v:Value) (o':δ) (t':Tok):Prop:=
 Act c (y.tok s) o' t'/\∀a,a<φ->Θ (UX P Q mn {y with tok:=upd y.tok s t',view:=upd y.view s (some (a,o'))}) b cs nt (.inRegion ops rest::k) (Zt op env (.z v))
theorem Θ.ext (r:XQ y) {s:Nat} {sp:Spec} (u:y.spec s=some sp) (x:¬Xj (y.tok s)) (h:WZ P b ops i op f e args env vs nt)
  (A:∀(w:World) (φ:Nat) (c:δ),Seen y s sp φ c->At s c w->
   (∃v w' d,(e vs.toArray).run P w=.ok v w'/\(e vs.toArray).events P w #[⟨.mark (Mark.extern f),false,true⟩]=#[⟨.mark (Mark.extern f),false,true⟩]++d/\(∀y∈d,y.sync=true/\∀g,y.loc≠.mark (Mark.extern g))/\
    Xr (λB _=>Yb s sp B) (λ_=>False) w w'/\Sn s sp y.deaf d/\
    ((At s c w'/\GV P Q mn y b cs nt ops rest k op env s φ c v)\/∃o' t',At s o' w'/\I2 P Q mn y b cs nt ops rest k op env s φ c v o' t'))) :
  Θ (UX P Q mn y) b cs nt (.inRegion ops (i::rest)::k) env:=by
 obtain⟨U,n⟩:=h.call;intro t C j;refine⟨⟨rfl,rfl⟩,Goes.step r.ok (.inr ⟨⟨rfl,rfl⟩,.inr (.inr (.inr (.inl ⟨s,sp,u,x,λw φ c V hv D E F H=>?_⟩)))⟩)⟩;obtain⟨v,w',d,I,J,K,L,M,N⟩:=A w φ c ⟨D,F,H⟩ E;have O:=Jm (mn:=mn) (cs:=cs) (rest:=rest) (k:=k) h.UD h.at_ (U1 j h.want) n (h.LC.ZM j) I J K;refine .inl ?_;rw[O];obtain⟨o,p⟩:=QY j h.dst C (a:=.z v) (v:=v) (.z _);refine⟨⟨rfl,rfl⟩,L,M,?_⟩;rcases N with⟨l,m⟩|⟨o',t',l,m,R⟩
 .exact .inl ⟨l,(m _ p o).2⟩
 .exact .inr ⟨o',t',m,l,.inl (DS h.UD h.at_ n),λS T=>(R S T _ p o).2⟩
section
variable {s:Nat} {sp:Spec} (X6:XQ y) (hd:0<y.deaf) (V0:y.spec s=some sp) (VZ:¬Xj (y.tok s))
include X6 hd V0 VZ
theorem Θ.Hi (h:WZ P b ops i op f (Extern.Atomic.loadT (.int .u64)) args env [.pointer (some ⟨s,0,none⟩)] nt)
  (e:∀φ a,Seen y s sp φ a->GV P Q mn y b cs nt ops rest k op env s φ a (.int .u64 (YZ a))):Θ (UX P Q mn y) b cs nt (.inRegion ops (i::rest)::k) env:=by
 refine .ext X6 V0 VZ h λw φ a g c=>?_;have d:=c.Tg;refine⟨.int .u64 (YZ a),w,#[⟨.cell ⟨s,0,none⟩,false,true⟩],?_,?_,QL (QM _ false),Xr.refl _ _ _,QO (.inl rfl) hd (QM _ false),.inl ⟨c,e φ a g⟩⟩
 .change Sem.run P (do Extern.Atomic.read (.int .u64) (<-asAddr (.pointer (some _)))) w=_;simp[Extern.Atomic.read,asAddr,d]
 .change Sem.events P (do Extern.Atomic.read (.int .u64) (<-asAddr (.pointer (some _)))) w _=_;simp[Extern.Atomic.read,asAddr,d,events_load]
theorem Θ.Hh {d:Int} (h:WZ P b ops i op f (Extern.Atomic.update (Op.intArith .add) .u64 true) args env [.pointer (some ⟨s,0,none⟩),.int .u64 d] nt)
  (o:∀φ a,Seen y s sp φ a->∃o' t',YZ o'=u64.wrap (YZ a+d)/\o'.YU=a.YU/\QK a o'/\I2 P Q mn y b cs nt ops rest k op env s φ a (.int .u64 (YZ o')) o' t') :
  Θ (UX P Q mn y) b cs nt (.inRegion ops (i::rest)::k) env:=by
 refine .ext X6 V0 VZ h λw φ a p c=>?_;have j:=c.Tg;have l:=c.O5 0;obtain⟨o',t',m,r,e,n⟩:=o φ a p;rw[m] at n;refine⟨_,_,_,run_add_entry j l,(events_add_entry j l _).trans rfl,QL (QN ⟨s,0,none⟩),c.M7 _,QO (.inl rfl) hd (QN ⟨s,0,none⟩),.inr ⟨o',t',c.M8 e.ZO e.g e.w ?_,n⟩⟩;rw[m,r];rfl
theorem Θ.vG {d:Int} (h:WZ P b ops i op f Extern.Atomic.storeT args env [.pointer (some ⟨s,0,none⟩),.int .u64 d] nt)
  (m:∀φ a,Seen y s sp φ a->∃o' t',YZ o'=d/\o'.YU=a.YU/\QK a o'/\I2 P Q mn y b cs nt ops rest k op env s φ a (.tuple #[]) o' t') :
  Θ (UX P Q mn y) b cs nt (.inRegion ops (i::rest)::k) env:=by
 refine .ext X6 V0 VZ h λw φ a n c=>?_;have j:=c.Tg;have l:=c.O5 0;obtain⟨o',t',o,p,e,r⟩:=m φ a n;refine⟨.tuple #[],w.setCell ⟨s,0,none⟩ (.int .u64 d),#[⟨.cell ⟨s,0,none⟩,true,true⟩],?_,?_,QL (QM _ true),c.M7 _,QO (.inl rfl) hd (QM _ true),.inr ⟨o',t',c.M8 e.ZO e.g e.w (by rw[o,p];rfl),r⟩⟩
 .change Sem.run P (do
   store (<-asAddr (.pointer (some _))) (.int .u64 d) .atomic
   pure Extern.Atomic.none_) w=_
  simp[asAddr,j,l,run_store P w _ (.int .u64 d) .atomic rfl,Result.andThen,Extern.Atomic.none_]
 .change Sem.events P (do
   store (<-asAddr (.pointer (some _))) (.int .u64 d) .atomic
   pure Extern.Atomic.none_) w _=_
  simp[asAddr,j,l,events_store P w _ _ (.int .u64 d) .atomic rfl]
end
section
variable {s:Nat} {sp:Spec} (X6:XQ y) (V0:y.spec s=some sp) (VZ:¬Xj (y.tok s))
include X6 V0 VZ
theorem Θ.vF (e:vs[0]?=some (.pointer (some ⟨s,1,none⟩))) (h:WZ P b ops i op f Extern.Sync.semrelease args env vs nt)
  (l:∀φ a,Seen y s sp φ a->a.YU<1000/\∃o' t',YZ o'=YZ a/\o'.YU=a.YU+1/\QK a o'/\I2 P Q mn y b cs nt ops rest k op env s φ a (.tuple #[]) o' t') :
  Θ (UX P Q mn y) b cs nt (.inRegion ops (i::rest)::k) env:=by
 refine .ext X6 V0 VZ h λw φ a m c=>?_;have j:=c.Ji;obtain⟨r,o',t',n,o,d,p⟩:=l φ a m;refine⟨_,_,_,DH e j (c.O5 1),DG e j (c.O5 1) _,semEvents_sync _,c.M7 _,Je (.inl rfl),.inr ⟨o',t',c.M8 d.ZO d.g d.w ?_,p⟩⟩;rw[n,o,show u32.wrap (((a.YU:Nat):Int)+1)=((a.YU+1:Nat):Int) by simp only[IntKind.wrap_u32];omega];rfl
end
theorem C8 {t:Array Value} (e:b.mode=.run) (g:b.roundOf=none) (i:b.defers=[Go.Conc.dcall f #[]]) (j:b.kind=.normal) {fn:Func} (l:P.funcs[b.fn]?=some fn) (d:fn.results=#[]) (m:Entry P f (λ_=>do mark .enable;pure Extern.Race.none_)) {c:Frame}
  (h:Uz P 0 (Go.Conc.G (c.finish (.tuple #[])) cs)):Uz P 1 (Go.Conc.G {π b t k with mode:=.returning} (c::cs)):=by
 obtain⟨v,o,Φ,p,r,s⟩:=m;obtain⟨n,u⟩:=h;rw[W' e g];refine⟨n+1+1,QuitsD.unwind_mark (a:=⟨t,b.defers⟩) (ds:=[]) .enable rfl J i o Φ p r s ?_⟩;exact .ctl rfl (λw=>stepG_leave (a:=⟨t,[]⟩) j rfl l (Go.results_none d _ P w) (Go.Conc.events_results_none d _ _)) u
theorem Θ.GY (a:b.mode=.run) (d:b.roundOf=none) (e:b.defers=[Go.Conc.dcall f #[]]) (g:b.kind=.normal) {fn:Func} (i:P.funcs[b.fn]?=some fn) (j:fn.results=#[]) (l:Entry P f (λ_=>do mark .enable;pure Extern.Race.none_)) {c:Frame}
  (h:Uz P 0 (Go.Conc.G (c.finish (.tuple #[])) cs)):Θ (Uz P 1) b (c::cs) nt (.code .ret::k) env:=λt _ _=>by
 refine Yj _ (Go.Conc.G {π b t (.code .ret::k) with mode:=.returning} (c::cs)) ⟨rfl,rfl⟩ (λw=>?_) (C8 a d e g i j l h);rw[Vy a];unfold stepG.exec;simp only[π,d];rfl
theorem Θ.vE (a:b.mode=.run) (d:b.roundOf=none) (e:b.defers=[Go.Conc.dcall f #[]]) (g:b.kind=.normal) {fn:Func} (i:P.funcs[b.fn]?=some fn) (j:fn.results=#[]) (k:Entry P f (λ_=>do mark .enable;pure Extern.Race.none_)) {c:Frame}
  (h:Uz P 0 (Go.Conc.G (c.finish (.tuple #[])) cs)):Θ (Uz P 1) b (c::cs) nt [] env:=λt _ _=>by
 refine Yj _ (Go.Conc.G {π b t [] with mode:=.returning} (c::cs)) ⟨rfl,rfl⟩ (λw=>?_) (C8 a d e g i j k h);rw[Vy a];unfold stepG.exec;simp only[π,d];rfl
end
def MY (x:ZZ):ZZ:={x with Z5:=λ_=>none,rel:=true}
theorem V.H8 {P:Program} {m:Value->Prop} {x:ZZ} {b:Frame} {cs:List Frame} {nt:Nat} {o:Base} {k:List Item} {env:Δ} {ops:Array Oper} {i:Nat} {rest:List Nat} {l:Oper} {f:FuncId} {args:Array Operand} (r:x.rel=false) {s n:Nat} {sp:Spec} {c:Uw} {v:Option (Nat×δ)} (E:x.spec s=some sp) (F:c=.done\/(c=.idle/\sp.ZO=none)) (K:∀g,g≠s->Xj (x.tok g)) (L:sp.D n Ψ.empty)
  (h:WZ P b ops i l f (Extern.Race.marked .releaseMerge) args env [.pointer (some ⟨s,0,none⟩)] nt) (M:∀p∈Zt l env SD,∃v,p.2=I.z v)
  (N:Θ (UX P m false (ZJ (MY x) s (.ch n c .rel) none 0)) b cs nt (.inRegion ops rest::k) (Zt l env SD)):V P m false (one (ZJ x s (.ch n c .work) v 0)) b cs nt o (.inRegion ops (i::rest)::k) env []:=by
 intro S B H t R u y O;cases O;have A:=u.put h.dst (a:=SD) (v:=.tuple #[]) (.z _);have Q:=(N _ A.size (Lu M A.Zn)).2;refine Goes.step (XQ.ok (.inl r)) (.inr ⟨⟨rfl,rfl⟩,.inr (.inr (.inr (.inr (.inr (.inr (.inl ⟨s,sp,n,c,Go.Conc.G (π b (put l t (.tuple #[])) (.inRegion ops rest::k)) cs,Ψ.empty,E,Zo (v:=v) (d:=0),F,λg C=>by
  rw[show({ZJ x s (.ch n c .work) v 0 with G:=H}:ZZ).tok g=(ZJ x s (.ch n c .work) v 0).tok g from rfl,Lz C];exact K g C,rfl,⟨rfl,rfl⟩,r,λw _=>
  h.step u.Zn (Na .releaseMerge _) (M' .releaseMerge _ _) (QP J),⟨λb o v p j=>(by cases j),λb y j=>(by cases j),λb y j=>(by cases j)⟩,L,?_⟩))))))⟩)
 have e:({({ZJ x s (.ch n c .work) v 0 with G:=H}:ZZ) with G:=Ψ.empty,Z5:=λ_=>none,tok:=upd ({ZJ x s (.ch n c .work) v 0 with G:=H}:ZZ).tok s (.ch n c .rel),view:=upd ({ZJ x s (.ch n c .work) v 0 with G:=H}:ZZ).view s none,rel:=true}:ZZ)={ZJ (MY x) s (.ch n c .rel) none 0 with G:=Ψ.empty}:=by
  unfold ZJ MY;simp only[He]
 exact e▸Q
end Go.TL
namespace Go.TL
open Go.IntKind (i32 i64 u32 u64)
open Go.Proofs.Tryz
open Go.Conc Go.Proofs
open Go.ConcN (sumTo upd sumTo_upd upd_ne upd_same sumTo_congr le_sumTo)
noncomputable def I1:Code:=f140.body.getD .skip
noncomputable abbrev GU (s:Nat):Frame:={Frame.enter prog 140 #[ptr s 0,.int .i64 (-1)] .normal with defers:=[Go.Conc.dcall 161 #[]]}
theorem vD:u64.wrap (u64.wrap (-1)*2 ^ min 32 u64.bits)=18446744069414584320:=Z0
theorem vC:u64.wrap (18446744073709551615*2 ^ min 32 u64.bits)=18446744069414584320:=Z0
theorem vB:u64.wrap (-1)=18446744073709551615:=Z0
theorem I0:i32.wrap (-1)=-1:=Z0
section
variable {Q:Value->Prop} {c:Frame} {rest:List Frame} {s k:Nat} {sp:Spec} {v:Option (Nat×δ)}
theorem vA [ZN] (n:Uz prog 0 (Go.Conc.G (c.finish (.tuple #[])) rest)) {cc w0:Nat} (e:cc<8) (f:w0<2) (o:0<cc\/w0=0) {env:Δ} (g:Z7 env 0=.z (ptr s 0)) (h:Z7 env 1=.z (.int .i64 (-1))) (i:Z7 env 4=.z (.bool false)) (d:Z7 env 6=.z (.int .u64 (Wh cc w0))) :
  Θ (Uz prog 1) (GU s) (c::rest) 117 [.code (Yr [1,1,1,1] I1)] env:=by
 have j:∀(K:List Item) (env:Δ),Θ (Uz prog 1) (GU s) (c::rest) 117 (.code .ret::K) env:=λK env=>Θ.GY rfl rfl rfl rfl func140 rfl O4 n
 have k:¬(cc:Int)<0:=OM.2 (Int.natCast_nonneg _)
 have p:w0=0\/w0=1:=U
 have f1:=I7 cc e w0 f
 have f2:=I6 cc e w0 f
 have f3:=I5 cc e w0 f;generalize Wh cc w0=w at f1 f2 f3 d;unfold I1;by_cases a:0<cc
 .have l:(0:Int)<cc:=by exact_mod_cast a
  rcases p with rfl|rfl
  ·(repeat (first|refine Θ.seq Yj rfl ?_|refine Θ.block Yj rfl ?_|refine Θ.inBlock Yj rfl ?_|refine Θ.skip Yj rfl ?_|refine Θ.TD Yj rfl rfl ?_|refine Θ.TC Yj rfl rfl ?_|(refine Θ.region Yj rfl Υ rfl (by simp[Frame.enter]) λm b=>?_;(try simp);(repeat (refine WW ?_;simp[g,h,i,d,f1,f2,f3,I0,k,a,l]));refine b _ ?_)));exact j _ _
  ·(repeat (first|refine Θ.seq Yj rfl ?_|refine Θ.block Yj rfl ?_|refine Θ.inBlock Yj rfl ?_|refine Θ.skip Yj rfl ?_|refine Θ.TD Yj rfl rfl ?_|refine Θ.TC Yj rfl rfl ?_|(refine Θ.region Yj rfl Υ rfl (by simp[Frame.enter]) λm b=>?_;(try simp);(repeat (refine WW ?_;simp[g,h,i,d,f1,f2,f3,I0,k,a,l]));refine b _ ?_)));exact j _ _
 .have r:w0=0:=o.resolve_left a
  have t:cc=0:=Nat.eq_zero_of_not_pos a;subst r;subst t;(repeat (first|refine Θ.seq Yj rfl ?_|refine Θ.block Yj rfl ?_|refine Θ.inBlock Yj rfl ?_|refine Θ.skip Yj rfl ?_|refine Θ.TD Yj rfl rfl ?_|refine Θ.TC Yj rfl rfl ?_|(refine Θ.region Yj rfl Υ rfl (by simp[Frame.enter]) λm b=>?_;(try simp);(repeat (refine WW ?_;simp[g,h,i,d,f1,f2,f3,I0]));refine b _ ?_)));exact j _ _
structure Rn (x:ZZ) (s:Nat) (sp:Spec):Prop where
 rel:x.rel=true
 spec:x.spec s=some sp
 top:sp.top<7
 shut:∀a,a≠s->Xj (x.tok a)
theorem Rn.here {x:ZZ} (h:Rn x s sp) {g:Px} {d:Nat} (a:g≠.gone):XQ (ZJ x s (.ch k .done g) v d):=.inr ⟨s,by rw[Zo];cases g<;>simp_all [Gone]⟩
theorem Rn.gone {x:ZZ} (h:Rn x s sp) {d:Nat}:∀a,Gone ((ZJ x s (.ch k .done .gone) v d).tok a):=λa=>by
 by_cases e:a=s
 .subst e;rw[Zo];trivial
 .rw[Lz e];have:=h.shut a e;revert this;cases x.tok a with
  | nil=>exact λ_=>trivial
  | par n p b=>cases b<;>exact λh=>h
  | ch k m g=>exact λh=>h.elim
theorem Rn.I4 {x:ZZ} (b:Rn x s sp) {a:δ} (h:a.toSpec=sp):a.top<7:=by have:=b.top;rw[show a.top=sp.top by rw[<-h]];exact this
theorem Θ.back [ZN] {d:Goroutine->Prop} {b:Frame} {cs:List Frame} {nt:Nat} {k:List Item} {env:Δ} {ops:Array Oper} {i:Nat} {rest:List Nat} {c:Oper} {t:Array Value} {v:Value} (e:ops[i]?=some c) (hd:W2 nt c=true) (f:t.size=nt) (g:YS XE [] [] env t)
  (h:Θ d b cs nt (.inRegion ops rest::k) (Zt c env (.z v))):d (Go.Conc.G ((π b t (.inRegion ops (i::rest)::k)).finish v) cs):=by
 rw[V6 e];obtain⟨j,l⟩:=QY g hd f (a:=.z v) (v:=v) (.z _);exact h _ l j
theorem Θ.C7 [ZN] {P:Program} {b:Frame} {cs:List Frame} {nt:Nat} {env:Δ} (d:b.mode=.run) (e:b.roundOf=none) (f:b.defers=[]) (g:b.kind=.deferred) {fn:Func} (i:P.funcs[b.fn]?=some fn) (j:fn.results=#[]) {c:Frame} (k:c.mode=.returning)
  (h:Uz P 0 (Go.Conc.G c cs)):Θ (Uz P 0) b (c::cs) nt [] env:=λt _ _=>by
 obtain⟨n,l⟩:=h;refine Yj _ (Go.Conc.G {π b t [] with mode:=.returning} (c::cs)) ⟨rfl,rfl⟩ (λw=>?_) ⟨n+1,?_⟩
 .rw[Vy d];unfold stepG.exec;simp only[π,e];rfl
 .rw[W' d e];exact QuitsD.leaveD (a:=⟨t,b.defers⟩) g f i j k l
theorem vz [ZN] {x:ZZ} (g:Rn x s sp) {t:Tok} (a:∀v,XQ (ZJ x s t v 1)) (e:¬Xj t) {cs:List Frame} (h:∀φ b,Seen (ZJ x s t v 1) s sp φ b->UX prog Q false (ZJ x s t (some (φ,b)) 1) (Go.Conc.G (c.finish (.int .u64 (YZ b))) cs)) :
  Θ (UX prog Q false (ZJ x s t v 1)) (Frame.enter prog 168 #[ptr s 0] .normal) (c::cs) 7 [.code (f168.body.getD .skip)] (entry 0 [.z (ptr s 0)]):=by
 simp only[f168,Option.getD_some];(repeat (first|refine Θ.seq (ZL (a _)) rfl ?_|refine Θ.block (ZL (a _)) rfl ?_|refine Θ.inBlock (ZL (a _)) rfl ?_|refine Θ.skip (ZL (a _)) rfl ?_|refine Θ.TD (ZL (a _)) rfl rfl ?_|refine Θ.TC (ZL (a _)) rfl rfl ?_|(refine Θ.region (ZL (a _)) rfl Υ rfl (by simp[Frame.enter]) λf d=>?_;(try simp);(repeat (refine WW ?_;simp[e]));refine d _ ?_)));refine Θ.Ze (ZL (a _)) rfl ?_;refine Θ.part (ZL (a _)) rfl Υ rfl (by simp[Frame.enter]) [0,1,2] [3,4] rfl λf d=>?_;(try simp[-N8]);(repeat (refine WW ?_;simp));refine d _ ?_;refine Θ.Hi (a _) (UT _) (sp:=sp) g.spec (by rw[Zo];exact e) ⟨⟨rfl,rfl,by simp[Frame.enter],rfl⟩,Dw,⟨_,rfl⟩,rfl,rfl,rfl⟩ λφ b i=>?_;unfold GV;rw[UY];refine Θ.part (ZL (a _)) rfl Υ rfl (by simp[Frame.enter]) [4] [] rfl λf d=>?_;(try simp[-N8]);(repeat (refine WW ?_;simp));refine d _ ?_;refine Θ.ZC (ZL (a _)) rfl ?_;exact Θ.PX (ZL (a _)) rfl rfl rfl rfl func168 rfl rfl (h φ b i)
theorem vy [ZN] {x:ZZ} (i:Rn x s sp) {t t':Tok} {d:Int} (a:∀v,XQ (ZJ x s t v 1)) (g:∀v,XQ (ZJ x s t' v 1)) (h:¬Xj t) {cs:List Frame} (j:∀φ b,Seen (ZJ x s t v 1) s sp φ b->∃o',YZ o'=d/\o'.YU=b.YU/\QK b o'/\Act b t o' t'/\∀e,e<φ->UX prog Q false (ZJ x s t' (some (e,o')) 1) (Go.Conc.G (c.finish (.tuple #[])) cs)) :
  Θ (UX prog Q false (ZJ x s t v 1)) (Frame.enter prog 169 #[ptr s 0,.int .u64 d] .normal) (c::cs) 9 [.code (f169.body.getD .skip)] (entry 0 [.z (ptr s 0),.z (.int .u64 d)]):=by
 simp only[f169,Option.getD_some];(repeat (first|refine Θ.seq (ZL (a _)) rfl ?_|refine Θ.block (ZL (a _)) rfl ?_|refine Θ.inBlock (ZL (a _)) rfl ?_|refine Θ.skip (ZL (a _)) rfl ?_|refine Θ.TD (ZL (a _)) rfl rfl ?_|refine Θ.TC (ZL (a _)) rfl rfl ?_|(refine Θ.region (ZL (a _)) rfl Υ rfl (by simp[Frame.enter]) λk f=>?_;(try simp);(repeat (refine WW ?_;simp[h]));refine f _ ?_)));refine Θ.Ze (ZL (a _)) rfl ?_;refine Θ.part (ZL (a _)) rfl Υ rfl (by simp[Frame.enter]) [0,1,2,3] [4] rfl λk f=>?_;(try simp[-N8]);(repeat (refine WW ?_;simp));refine f _ ?_;refine Θ.vG (a _) (UT _) (sp:=sp) i.spec (by rw[Zo];exact h) ⟨⟨rfl,rfl,by simp[Frame.enter],rfl⟩,wD,⟨_,rfl⟩,rfl,rfl,rfl⟩ λφ b l=>?_;obtain⟨o',m,n,o,p,r⟩:=j φ b l;refine⟨o',t',m,n,o,by rw[Zo];exact p,λe u=>?_⟩;rw[WY];refine Θ.ZC (ZL (g _)) rfl ?_;exact Θ.Jd (ZL (g _)) rfl rfl rfl rfl func169 rfl (r e u)
theorem vx [ZN] {x:ZZ} (j:Rn x s sp) {t:Tok} {d:Int} (a:∀v,XQ (ZJ x s t v 1)) (k:¬Xj t) {cs:List Frame}
  (l:∀φ b,Seen (ZJ x s t v 1) s sp φ b->∃o' t',YZ o'=u64.wrap (YZ b+d)/\o'.YU=b.YU/\QK b o'/\Act b t o' t'/\∀f,f<φ->(((∀v,XQ (ZJ x s t' v 1))/\UX prog Q false (ZJ x s t' (some (f,o')) 1) (Go.Conc.G (c.finish (.int .u64 (YZ o'))) cs))\/((∀m,Gone ((ZJ x s t' (some (f,o')) 1).tok m))/\Uz prog 1 (Go.Conc.G (c.finish (.int .u64 (YZ o'))) cs)))) :
  Θ (UX prog Q false (ZJ x s t v 1)) (Frame.enter prog 166 #[ptr s 0,.int .u64 d] .normal) (c::cs) 10 [.code (f166.body.getD .skip)] (entry 0 [.z (ptr s 0),.z (.int .u64 d)]):=by
 simp only[f166,Option.getD_some];(repeat (first|refine Θ.seq (ZL (a _)) rfl ?_|refine Θ.block (ZL (a _)) rfl ?_|refine Θ.inBlock (ZL (a _)) rfl ?_|refine Θ.skip (ZL (a _)) rfl ?_|refine Θ.TD (ZL (a _)) rfl rfl ?_|refine Θ.TC (ZL (a _)) rfl rfl ?_|(refine Θ.region (ZL (a _)) rfl Υ rfl (by simp[Frame.enter]) λh e=>?_;(try simp);(repeat (refine WW ?_;simp[k]));refine e _ ?_)));refine Θ.Ze (ZL (a _)) rfl ?_;refine Θ.part (ZL (a _)) rfl Υ rfl (by simp[Frame.enter]) [0,1,2,3] [4,5] rfl λh e=>?_;(try simp[-N8]);(repeat (refine WW ?_;simp));refine e _ ?_;refine Θ.Hh (a _) (UT _) (sp:=sp) j.spec (by rw[Zo];exact k) ⟨⟨rfl,rfl,by simp[Frame.enter],rfl⟩,Dx,⟨_,rfl⟩,rfl,rfl,rfl⟩ λφ b n=>?_;obtain⟨o',t',o,p,r,u,w⟩:=l φ b n;refine⟨o',t',o,p,r,by rw[Zo];exact u,λf y=>?_⟩;rw[WY];rcases w f y with⟨g,i⟩|⟨g,i⟩
 .refine Θ.part (ZL (g _)) rfl Υ rfl (by simp[Frame.enter]) [5] [] rfl λh e=>?_;(try simp[-N8]);(repeat (refine WW ?_;simp));refine e _ ?_;refine Θ.ZC (ZL (g _)) rfl ?_;exact Θ.PX (ZL (g _)) rfl rfl rfl rfl func166 rfl rfl i
 .refine Θ.leaves (d:=1) j.rel g rfl ?_;refine Θ.part Yj rfl Υ rfl (by simp[Frame.enter]) [5] [] rfl λh e=>?_;(try simp[-N8]);(repeat (refine WW ?_;simp));refine e _ ?_;refine Θ.ZC Yj rfl ?_;exact Θ.PX Yj rfl rfl rfl rfl func166 rfl rfl i
theorem vw [ZN] {x:ZZ} (j:Rn x s sp) (u:Uz prog 0 (Go.Conc.G (c.finish (.tuple #[])) rest)) {env:Δ} (h:Z7 env 0=.z (ptr s 0)) (y:Z7 env 1=.z (.int .i64 (-1))) (l:Z7 env 4=.z (.bool false)) (m:Z7 env 6=.z (.int .u64 (Wh 0 1))) :
  Θ (UX prog Q false (ZJ x s (.ch k .done .l2) v 1)) (GU s) (c::rest) 117 [.code (Yr [1,1,1,1] I1)] env:=by
 have f1:=I7 0 Z0 1 Z0
 have f2:=I6 0 Z0 1 Z0
 have f3:=I5 0 Z0 1 Z0
 have R:Wh 0 1=1:=Z0;generalize A:Wh 0 1=w at f1 f2 f3 m;have f:=j.here (k:=k) (v:=v) (d:=1) (g:=.l2) J;unfold I1;(repeat (first|refine Θ.seq (ZL f) rfl ?_|refine Θ.block (ZL f) rfl ?_|refine Θ.inBlock (ZL f) rfl ?_|refine Θ.skip (ZL f) rfl ?_|refine Θ.TD (ZL f) rfl rfl ?_|refine Θ.TC (ZL f) rfl rfl ?_|(refine Θ.region (ZL f) rfl Υ rfl (by simp[Frame.enter]) λi b=>?_;(try simp);(repeat (refine WW ?_;simp[h,y,l,m,f1,f2,f3,I0]));refine b _ ?_)));refine Θ.Ze (ZL f) rfl ?_;refine Θ.part (ZL f) rfl Υ rfl (by simp[Frame.enter]) [0,1,2] [3,4,5] rfl λi b=>?_;(repeat (refine WW ?_;simp[h]));refine b _ ?_;refine Θ.call (ZL f) rfl ⟨rfl,rfl,by simp[Frame.enter],rfl⟩ rfl rfl (vs:=[ptr s 0]) rfl func168 rfl rfl (by simp[ntmps168]) λt B C=>?_;have e:∀v,XQ (ZJ x s (.ch k .done .l2) v 1):=λv=>j.here J;have a:∀v,XQ (ZJ x s (.ch k .done .RO) v 1):=λv=>j.here J;refine vz j e id λφ D E=>?_;have n:=E.Vs.PU;rw[Zo] at n;obtain⟨F,H⟩:=n.l2 k _ rfl;have I:YZ D=w:=by rw[<-A];simp only[YZ,F,H]
 rw[I];refine Θ.back rfl rfl B C ?_;refine Θ.part (ZL (e _)) rfl Υ rfl (by simp[Frame.enter]) [4,5] [] rfl λi b=>?_;(repeat (refine WW ?_;simp[m]));refine b _ ?_;refine Θ.ZC (ZL (e _)) rfl ?_;(repeat (first|refine Θ.seq (ZL (e _)) rfl ?_|refine Θ.block (ZL (e _)) rfl ?_|refine Θ.inBlock (ZL (e _)) rfl ?_|refine Θ.skip (ZL (e _)) rfl ?_|refine Θ.TD (ZL (e _)) rfl rfl ?_|refine Θ.TC (ZL (e _)) rfl rfl ?_|(refine Θ.region (ZL (e _)) rfl Υ rfl (by simp[Frame.enter]) λi b=>?_;(try simp);(repeat (refine WW ?_;simp[h]));refine b _ ?_)));refine Θ.Ze (ZL (e _)) rfl ?_;refine Θ.part (ZL (e _)) rfl Υ rfl (by simp[Frame.enter]) [0,1,2] [3] rfl λi b=>?_;(repeat (refine WW ?_;simp[h]));refine b _ ?_;refine Θ.call (ZL (e _)) rfl ⟨rfl,rfl,by simp[Frame.enter],rfl⟩ rfl rfl (vs:=[ptr s 0,.int .u64 0]) rfl func169 rfl rfl (by simp[ntmps169]) λt3 K L=>?_;refine vy j (t':=.ch k .done .RO) e a id λS M N=>?_;have o:=N.Vs.PU;rw[Zo] at o;obtain⟨T,O⟩:=o.l2 k _ rfl;refine⟨{M with wt:=0},by simp only[YZ,O];rfl,rfl,⟨rfl,rfl,rfl⟩,.A9,λU V=>?_⟩;refine Θ.back rfl rfl K L ?_;refine Θ.ZC (ZL (a _)) rfl ?_;(repeat (first|refine Θ.seq (ZL (a _)) rfl ?_|refine Θ.block (ZL (a _)) rfl ?_|refine Θ.inBlock (ZL (a _)) rfl ?_|refine Θ.skip (ZL (a _)) rfl ?_|refine Θ.TD (ZL (a _)) rfl rfl ?_|refine Θ.TC (ZL (a _)) rfl rfl ?_|(refine Θ.region (ZL (a _)) rfl Υ rfl (by simp[Frame.enter]) λi b=>?_;(try simp);(repeat (refine WW ?_;simp[h,l]));refine b _ ?_)));refine Θ.loop (ZL (a _)) rfl ?_;(repeat (first|refine Θ.seq (ZL (a _)) rfl ?_|refine Θ.block (ZL (a _)) rfl ?_|refine Θ.inBlock (ZL (a _)) rfl ?_|refine Θ.skip (ZL (a _)) rfl ?_|refine Θ.TD (ZL (a _)) rfl rfl ?_|refine Θ.TC (ZL (a _)) rfl rfl ?_|(refine Θ.region (ZL (a _)) rfl Υ rfl (by simp[Frame.enter]) λi b=>?_;(try simp);(repeat (refine WW ?_;simp[h,l]));refine b _ ?_)));refine Θ.Ze (ZL (a _)) rfl ?_;refine Θ.part (ZL (a _)) rfl Υ rfl (by simp[Frame.enter]) [0,1,2] [3] rfl λi b=>?_;(repeat (refine WW ?_;simp[h]));refine b _ ?_;refine Θ.vF (a _) (sp:=sp) j.spec (by rw[Zo];exact id) (vs:=[ptr s 1,.bool false,.int .i64 0]) rfl ⟨⟨rfl,rfl,by simp[Frame.enter],rfl⟩,wy,⟨_,rfl⟩,rfl,rfl,rfl⟩ λW p P=>?_;have r:=P.Vs.PU;rw[Zo] at r;refine⟨by have:=r.YU;omega,{p with YU:=p.YU+1},.ch k .done .gone,rfl,rfl,⟨rfl,rfl,rfl⟩,by rw[Zo];exact .A8,λX Y=>?_⟩;rw[WY];refine Θ.leaves (d:=1) j.rel j.gone rfl ?_;refine Θ.ZC Yj rfl ?_;(repeat (first|refine Θ.seq Yj rfl ?_|refine Θ.block Yj rfl ?_|refine Θ.inBlock Yj rfl ?_|refine Θ.skip Yj rfl ?_|refine Θ.TD Yj rfl rfl ?_|refine Θ.TC Yj rfl rfl ?_|(refine Θ.region Yj rfl Υ rfl (by simp[Frame.enter]) λi b=>?_;(try simp);(repeat (refine WW ?_;simp[h,I3]));refine b _ ?_)));refine Θ.inLoop Yj rfl ?_;(repeat (first|refine Θ.seq Yj rfl ?_|refine Θ.block Yj rfl ?_|refine Θ.inBlock Yj rfl ?_|refine Θ.skip Yj rfl ?_|refine Θ.TD Yj rfl rfl ?_|refine Θ.TC Yj rfl rfl ?_|(refine Θ.region Yj rfl Υ rfl (by simp[Frame.enter]) λi b=>?_;(try simp);(repeat (refine WW ?_;simp[h,I3]));refine b _ ?_)));refine Θ.exit Yj rfl rfl ?_;exact Θ.vE rfl rfl rfl rfl func140 rfl O4 u
structure C6 (x:ZZ) (s:Nat) (sp:Spec):Prop where
 rel:x.rel=false
 Z5:x.Z5=λ_=>none
 spec:x.spec s=some sp
 top:sp.top<7
 shut:∀a,a≠s->Xj (x.tok a)
theorem vv {x:ZZ} {H:Ψ} (g:C6 x s sp) (R:sp.D k Ψ.empty) (n:c.mode=.returning) (K:Uz prog 0 (Go.Conc.G c rest)) :
  Zb prog Q false (ZJ x s (.ch k .done .work) v 0) (Frame.enter prog 142 #[ptr s 0] .deferred) (c::rest) H:=by
 letI:ZN:=X3;have r:∀t v d,Seq (one (ZJ x s t v d)):=λt v d=>Seq.O6 trivial g.rel g.Z5;have h:Rn (MY x) s sp:=⟨rfl,g.spec,g.top,g.shut⟩;have b:∀v d,XQ (ZJ (MY x) s (.ch k .done .rel) v d):=λv d=>h.here J;have A:∀v d,XQ (ZJ (MY x) s (.ch k .done .l2) v d):=λv d=>h.here J;rw[SG (body:=f142.body.getD .skip) func142 rfl];refine V.here (x:=one _) (m:=0) (nt:=4) (S:=XE) (B:=[]) (σ:=[]) (env:=entry 0 [.z (ptr s 0)]) ?_ (XA.enter (M3 H) ⟨rfl,λi a v C L=>?_⟩ (Z1 _) J) _ rfl
 .refine V.XS (r _ _ _) rfl ?_;simp only[f142,Option.getD_some];refine Y1 ?_;refine W.Ze ?_;refine Xy [0] [1] ?_;refine W.stop ?_;refine V.call (r _ _ _) ⟨rfl,rfl,by simp[Frame.enter],rfl⟩ rfl rfl rfl ⟨_,func140,rfl,rfl⟩ λab T ad t1 ae af j hv=>?_;obtain rfl:=TJ (l:=[ptr s 0,.int .i64 (-1)]) hv;obtain rfl:T=[]:=YP.1 j.holds.len;rintro y rfl;refine V.Rt (z:=one _) (vs:=[ptr s 0,.int .i64 (-1)]) func140 rfl j.holds (by simp[ntmps140]) ?_ _ rfl;refine V.XS (r _ _ _) rfl ?_;refine WE ?_;refine W.Ze ?_;refine Xy [0] [1,2] ?_;refine W.stop ?_;refine V.conv (r _ _ _).here (sp:=sp) g.spec (by rw[Zo];exact id) ⟨rfl,rfl,by simp[Frame.enter],rfl⟩ rfl rfl rfl G6 O3 G5 rfl (λe w ag X=>⟨_,X.Tg⟩) (λφ e ah=>?_);unfold We;rw[UY];refine V.H8 g.rel (sp:=sp) g.spec (.inl rfl) g.shut R ⟨⟨rfl,rfl,by simp[Frame.enter],rfl⟩,DC,⟨_,rfl⟩,rfl,rfl,rfl⟩ J ?_;refine Θ.ZC (ZL (b _ _)) rfl ?_;(repeat (first|refine Θ.seq (ZL (b _ _)) rfl ?_|refine Θ.block (ZL (b _ _)) rfl ?_|refine Θ.inBlock (ZL (b _ _)) rfl ?_|refine Θ.skip (ZL (b _ _)) rfl ?_|refine Θ.TD (ZL (b _ _)) rfl rfl ?_|refine Θ.TC (ZL (b _ _)) rfl rfl ?_|(refine Θ.region (ZL (b _ _)) rfl Υ rfl (by simp[Frame.enter]) λo f=>?_;(try simp);(repeat (refine WW ?_;simp[n]));refine f _ ?_)));refine Θ.Ze (ZL (b _ _)) rfl ?_;refine Θ.disable (b _ _) ⟨⟨rfl,rfl,by simp[Frame.enter],rfl⟩,Ly,⟨_,rfl⟩,rfl,rfl,rfl⟩ ?_;rw[LB];refine Θ.ZC (ZL (b _ _)) rfl ?_;refine Θ.Ze (ZL (b _ _)) rfl ?_;refine Θ.Hf (ZL (b _ _)) rfl ⟨rfl,rfl,by simp[Frame.enter],rfl⟩ rfl rfl rfl ?_;refine Θ.ZC (ZL (b _ _)) rfl ?_;(repeat (first|refine Θ.seq (ZL (b _ _)) rfl ?_|refine Θ.block (ZL (b _ _)) rfl ?_|refine Θ.inBlock (ZL (b _ _)) rfl ?_|refine Θ.skip (ZL (b _ _)) rfl ?_|refine Θ.TD (ZL (b _ _)) rfl rfl ?_|refine Θ.TC (ZL (b _ _)) rfl rfl ?_|(refine Θ.region (ZL (b _ _)) rfl Υ rfl (by simp[Frame.enter]) λo f=>?_;(try simp);(repeat (refine WW ?_;simp[n]));refine f _ ?_)));refine Θ.Ze (ZL (b _ _)) rfl ?_;refine Θ.Jc (ZL (b _ _)) rfl ⟨rfl,rfl,by simp[Frame.enter],rfl⟩ rfl rfl rfl Dz ?_;refine Θ.ZC (ZL (b _ _)) rfl ?_;(repeat (first|refine Θ.seq (ZL (b _ _)) rfl ?_|refine Θ.block (ZL (b _ _)) rfl ?_|refine Θ.inBlock (ZL (b _ _)) rfl ?_|refine Θ.skip (ZL (b _ _)) rfl ?_|refine Θ.TD (ZL (b _ _)) rfl rfl ?_|refine Θ.TC (ZL (b _ _)) rfl rfl ?_|(refine Θ.region (ZL (b _ _)) rfl Υ rfl (by simp[Frame.enter]) λo f=>?_;(try simp);(repeat (refine WW ?_;simp[n]));refine f _ ?_)));refine Θ.Ze (ZL (b _ _)) rfl ?_;refine Θ.part (ZL (b _ _)) rfl Υ rfl (by simp[Frame.enter]) [0,1,2,3,4,5] [6,7] rfl λo f=>?_;(repeat (refine WW ?_;simp[vB,vD,vC]));refine f _ ?_;refine Θ.call (ZL (b _ _)) rfl ⟨rfl,rfl,by simp[Frame.enter],rfl⟩ rfl rfl (vs:=[ptr s 0,.int .u64 18446744069414584320]) rfl func166 rfl rfl (by simp[ntmps166]) λt2 M N=>?_;refine vx h (λv=>b v 1) id λφ e O=>?_;have u:=O.Vs.PU;rw[Zo] at u;have ai:1<=e.cnt:=u.live;have aj:=h.I4 O.spec;have ak:=u.cnt;have al:=u.wt;obtain⟨cc,E⟩:=Ι (e.cnt-1);have p:e.cnt<8/\0<e.cnt/\cc<8/\e.wt<2:=U;have P:YZ {e with cnt:=cc}=u64.wrap (YZ e+18446744069414584320):=by
   rw[O2,O2,vY e.cnt p.1 e.wt p.2.2.2 p.2.1,E]
  by_cases F:e.cnt=1/\e.wt=1
  .have Y:cc=0:=U
   refine⟨{e with cnt:=cc},.ch k .done .l2,P,rfl,⟨rfl,rfl,rfl⟩,by rw[E];exact .Ba F.1 F.2,λZ aa=>.inl ⟨λv=>A v 1,?_⟩⟩;have I:YZ {e with cnt:=cc}=Wh 0 1:=by rw[O2,Y];simp only[F.2]
   rw[I];refine Θ.back rfl rfl M N ?_;refine Θ.part (ZL (A _ _)) rfl Υ rfl (by simp[Frame.enter]) [7] [] rfl λo f=>?_;(repeat (refine WW ?_;simp));refine f _ ?_;refine Θ.ZC (ZL (A _ _)) rfl ?_;refine vw h ?_ rfl rfl rfl rfl;exact Θ.back (nt:=4) rfl rfl j.size (Lu J j.Zn) (Θ.ZC Yj rfl (Θ.C7 rfl rfl rfl rfl func142 rfl n K))
  .refine⟨{e with cnt:=cc},.ch k .done .gone,P,rfl,⟨rfl,rfl,rfl⟩,by rw[E];exact .A' U,λZ aa=>.inr ⟨h.gone,?_⟩⟩;have I:YZ {e with cnt:=cc}=Wh cc e.wt:=rfl;rw[I];refine Θ.back rfl rfl M N ?_;refine Θ.part Yj rfl Υ rfl (by simp[Frame.enter]) [7] [] rfl λo f=>?_;(repeat (refine WW ?_;simp));refine f _ ?_;refine Θ.ZC Yj rfl ?_;refine vA ?_ (cc:=cc) (w0:=e.wt) p.2.2.1 p.2.2.2 U rfl rfl rfl rfl;exact Θ.back (nt:=4) rfl rfl j.size (Lu J j.Zn) (Θ.ZC Yj rfl (Θ.C7 rfl rfl rfl rfl func142 rfl n K))
 .cases i with
  | zero=>simp at C L;subst C;subst L;exact .z _
  | succ i=>simp at C
end
end Go.TL
namespace Go.TL
open Go.IntKind (i32 i64 u32 u64)
open Go.Proofs.Tryz
open Go.Conc
open Go.ConcN (upd)
def QH (S:ο) (H:Ψ):Ψ:={H with κ:=λb o=>match S b o with|some v=>some (v,false)|none=>H.κ b o}
def TB (S:ο):Ψ:=⟨λb o=>(S b o).map (·,false),λ_=>none,λ_=>none⟩
def ο.plus (S T:ο):ο:=λb o=>match S b o with|some v=>some v|none=>T b o
structure S7 (a:Nat) (c:ο) (E:Ψ):Prop where
 κ:∀b o x,E.κ b o=some x->c b o≠none\/a<b
 row:∀b x,E.row b=some x->a<b
 obj:∀b x,E.obj b=some x->a<b
def N6 (r:Row):Prop:=∃t k l,r=.cells t k l
section
variable {S YA Ue OZ XK:ο} {B B':Z8} {σ σ':Ρ} {H H' Rm E G:Ψ} {β:Nat}
theorem Lq {b o:Nat} {v:Value} (h:S b o=some v):(QH S H).κ b o=some (v,false):=by simp only[QH,h]
theorem GR {b o:Nat} (h:S b o=none):(QH S H).κ b o=H.κ b o:=by simp only[QH,h]
theorem GQ {b o:Nat} {v:Value} (h:S b o=some v):(TB S).κ b o=some (v,false):=by simp only[TB,h];rfl
theorem IZ {b o:Nat} {x:Value×Bool} (h:(TB S).κ b o=some x):∃v,S b o=some v/\x=(v,false):=by
 cases a:S b o with
 | none=>simp[TB,a] at h
 | some v=>exact⟨v,rfl,by simp[TB,a] at h;exact h.symm⟩
theorem Lp {b o:Nat} {v:Value} (h:S b o=some v):S.plus Ue b o=some v:=by simp only[ο.plus,h]
theorem IY {b o:Nat} (h:S b o=none):S.plus Ue b o=Ue b o:=by simp only[ο.plus,h]
theorem join_some {b o:Nat} {x:Value×Bool} (h:H.κ b o=some x):(join H E).κ b o=some x:=by simp only[join,h]
theorem join_none {b o:Nat} (h:H.κ b o=none):(join H E).κ b o=E.κ b o:=by simp only[join,h]
theorem vu {b:Nat} {x:TypeId×Nat} (h:(join H E).row b=some x):H.row b=some x\/E.row b=some x:=by
 cases a:H.row b with
 | none=>simp only[join,a] at h;exact .inr h
 | some y=>simp only[join,a] at h;exact .inl h
theorem vr {b:Nat} {x:Obj} (h:(join H E).obj b=some x):H.obj b=some x\/E.obj b=some x:=by
 cases a:H.obj b with
 | none=>simp only[join,a] at h;exact .inr h
 | some y=>simp only[join,a] at h;exact .inl h
theorem vq (f:Holds S [] [] H):Split H (QH S H) (TB S):=by
 refine⟨⟨λb o v p h=>?_,λb x h=>h,λb x h=>h⟩,⟨λb o v p h=>?_,λb x h=>(by cases h),λb x h=>(by cases h)⟩,⟨λb o ⟨v,h⟩ ⟨x,k⟩=>?_,λb o ⟨v,h⟩ _=>?_,λb _ ⟨x,h⟩=>(by cases h)⟩⟩
 .cases a:S b o with
  | some u=>
   rw[Lq a] at h;cases h;obtain⟨c,d⟩:=f.YL b o _ a;exact⟨c,d,λe=>by cases e⟩
  | none=>rw[GR a] at h;exact⟨p,h,id⟩
 .obtain⟨u,a,e⟩:=IZ h;cases e;obtain⟨c,d⟩:=f.YL b o _ a;exact⟨c,d,λe=>by cases e⟩
 .obtain⟨u,a,e⟩:=IZ k;rw[Lq a] at h;cases h
 .obtain⟨u,a,e⟩:=IZ h;cases e
theorem vp (a:Holds S [] [] H):Holds S [] [] (QH S H):=
 ⟨λb o v h=>⟨false,Lq h⟩,rfl,λid r bo h=>by simp at h,λi j c d b e f _ h=>by simp at h,λid r b N h=>by simp at h⟩
theorem vo:Holds S [] [] (TB S):=
 ⟨λb o v h=>⟨false,GQ h⟩,rfl,λid r bo h=>by simp at h,λi j a c b d e _ h=>by simp at h,λid r b N h=>by simp at h⟩
theorem vn (f:Holds S [] [] H):Ext S [] H S [] (QH S H):=by
 refine⟨λ_ _ _ h=>h,λb _ _=>⟨λo=>?_,rfl,rfl⟩,λb h=>.inl h,λb o v h=>.inl h,λb h=>?_⟩
 .cases a:S b o with
  | none=>exact .inl (GR a)
  | some v=>
   obtain⟨p,g⟩:=f.YL b o v a;exact .inr ⟨v,p,rfl,g,Lq a⟩
 .have d:∀b o,(QH S H).κ b o=none->H.κ b o=none:=λb o h=>by
   cases a:S b o with
   | none=>rw[GR a] at h;exact h
   | some v=>rw[Lq a] at h;cases h
  exact⟨λo=>d b o (h.1 o),h.2.1,h.2.2.1,λc e=>⟨λo=>d c o ((h.2.2.2 c e).1 o),(h.2.2.2 c e).2⟩⟩
theorem Holds.RG (a:Holds S B σ H) (c:∀b,¬H.fresh b->UP H H' b) (k:∀b,H'.fresh b->H.fresh b):Holds S B σ H'/\Ext S B H S B H':=by
 have l:∀b o x,H.κ b o=some x->¬H.fresh b:=λb o x h d=>by rw[d.1 o] at h;cases h
 refine⟨⟨λb o v h=>?_,a.len,λid r bo f g=>?_,a.inj,a.sep⟩,⟨λ_ _ _ h=>h,λb _ d=>Tc.of (c b d),λb h=>.inl h,λb o v h=>.inl h,k⟩⟩
 .obtain⟨p,i⟩:=a.YL b o v h;exact⟨p,by rw[(c b (l b o _ i)).1];exact i⟩
 .by_cases j:r.live
  .refine(a.row id r bo f g).later (Zw.refl S B σ) (λb N e=>c b (a.SQ f j (by rw[g,e]))) λm left t e=>?_;subst e;obtain⟨_,_,u,w,xs,y,seen,_,A,⟨es,n⟩,_⟩:=a.row id _ bo f g;exact⟨rfl,rfl,λb N s=>c b (a.SQ n trivial s)⟩
  .cases r<;>first|exact absurd trivial j|trivial
theorem Ext.RG (h:Ext XE [] H YA [] H') {b:Nat} (a:¬H.fresh b):UP H H' b:=(h.Xp b (λ⟨N,x⟩=>by simp at x) a).RG λ_=>rfl
theorem C5 {w:World} (c:Fits H w) (d:Fits E w) {b o:Nat} {u v:Value} {p q:Bool} (h:H.κ b o=some (u,p)) (k:E.κ b o=some (v,q)):u=v:=by
 have a:=c.κ b o u p h;rw[d.κ b o v q k] at a;exact(W3 a).symm
theorem vm {w:World} (e:Fits H w) (l:Fits E w) (m:Apart H E) {b N:Nat} {t:TypeId} (g:E.row b=some (t,N)) (n:∀o,o<N->∃v,E.κ b o=some (v,true)):(∀o,H.κ b o=none)/\UP E (join H E) b:=by
 obtain⟨c,f,p⟩:=l.row b t N g;have h:∀o,H.κ b o=none:=λo=>by
  cases a:H.κ b o with
  | none=>rfl
  | some x=>
   have i:=e.κ b o x.1 x.2 a;by_cases j:o<N
   .exact absurd ⟨x,a⟩ (m.Rf b o (n o j))
   .simp only[World.cell?,f] at i;simp[p,j] at i
 refine⟨h,λo=>join_none (h o),?_,?_⟩
 .cases a:H.row b with
  | none=>simp only[join,a]
  | some x=>
   obtain⟨c',d,k⟩:=e.row b x.1 x.2 a;rw[f] at d;cases d;simp only[join,a,g];obtain⟨r,s⟩:=x
   simp_all
 .cases a:H.obj b with
  | none=>simp only[join,a]
  | some x=>
   obtain⟨d,k⟩:=e.obj b x a;rw[f] at d;cases d;simp[Obj.Qs] at k
theorem C4 (i:Holds S [] [] H) (f:Holds Ue B σ E) (C:Apart H E) (D:∃w,Fits H w/\Fits E w) (y:∀r∈σ,N6 r) :
  Holds (S.plus Ue) B σ (join H E)/\Zw S (S.plus Ue) [] B [] σ/\Zw Ue (S.plus Ue) B B σ σ:=by
 obtain⟨w,j,n⟩:=D;have st:∀b o v,Ue b o=some v->S.plus Ue b o=some v:=λb o v h=>by
  cases a:S b o with
  | none=>rw[IY a];exact h
  | some u=>
   obtain⟨p,c⟩:=i.YL b o u a;obtain⟨q,F⟩:=f.YL b o v h;rw[Lp a,C5 j n c F]
 have l1:Zw S (S.plus Ue) [] B [] σ:=⟨λb o v h=>Lp h,λid r h=>by simp at h⟩
 have l2:Zw Ue (S.plus Ue) B B σ σ:=⟨st,λid r h=>⟨r,h,r.Ql _⟩⟩
 have A:∀(id:Nat) (r:Row) (b N:Nat),σ[id]?=some r->B[id]?=some (some (b,N))->(∀o,H.κ b o=none)/\UP E (join H E) b:=λid r b N d I=>by
  obtain⟨t,k,l,rfl⟩:=y r (Zf d);obtain⟨J,_,Φ,_⟩:=f.row id _ _ d I;exact vm j n C J Φ
 refine⟨⟨λb o v h=>?_,f.len,λid r bo d g=>?_,f.inj,λid r b N d K g o=>?_⟩,l1,l2⟩
 .cases a:S b o with
  | some u=>
   rw[Lp a] at h;cases h;obtain⟨p,c⟩:=i.YL b o _ a;exact⟨p,join_some c⟩
  | none=>
   rw[IY a] at h;obtain⟨p,c⟩:=f.YL b o v h;cases s:H.κ b o with
   | none=>exact⟨p,by rw[join_none s];exact c⟩
   | some x=>
    obtain⟨u,q⟩:=x;have:=C5 j n s c;subst this;exact⟨q,join_some s⟩
 .refine(f.row id r bo d g).later l2 (λb N e=>(A id r b N d (by rw[g,e])).2) λm left M e=>?_;subst e;obtain⟨t,k,l,e⟩:=y _ (Zf d);cases e
 .have L:=(A id r b N d g).1 o;cases a:S b o with
  | some u=>
   obtain⟨p,c⟩:=i.YL b o u a;rw[L] at c;cases c
  | none=>rw[IY a];exact f.sep id r b N d K g o
theorem GP {o:Nat} {x:Value×Bool} (a:G.κ β o=some x) {b:Nat} (c:G.fresh b):β<b:=by
 by_cases e:β<b
 .exact e
 .rcases OO b β with h|h
  .have:=(c.2.2.2 β h).1 o;rw[a] at this;cases this
  .obtain rfl:β=b:=U
   rw[c.1 o] at a;cases a
theorem GO {b:Nat} (a:G.fresh β) (h:β<b):G.fresh b:=
 ⟨(a.2.2.2 b h).1,(a.2.2.2 b h).2.1,(a.2.2.2 b h).2.2,λc d=>a.2.2.2 c (Nat.lt_trans h d)⟩
theorem vl (a:∀b o v,S b o=some v->XK b o≠none\/β<b):S7 β XK (TB S):=
 ⟨λb o x h=>let ⟨v,c,_⟩:=IZ h;a b o v c,λb x h=>(by cases h),λb x h=>(by cases h)⟩
theorem S7.join (h:S7 β XK G) (k:S7 β XK E):S7 β XK (join G E):=by
 refine⟨λb o x a=>?_,λb x a=>(vu a).elim (h.row b x) (k.row b x),λb x a=>(vr a).elim (h.obj b x) (k.obj b x)⟩;cases c:G.κ b o with
 | none=>rw[join_none c] at a;exact k.κ b o x a
 | some y=>exact h.κ b o y c
theorem S7.ext (h:S7 β XK G) {G':Ψ} (f:Ext S B G YA B' G') (g:∀b,B.has b->β<b) {o:Nat} {x:Value×Bool} (i:G.κ β o=some x):S7 β XK G':=by
 have d:∀b,¬β<b->Tc S G G' b:=λb a=>f.Xp b (λk=>a (g b k)) λk=>a (GP i k);refine⟨λb o x c=>?_,λb x c=>?_,λb x c=>?_⟩
 .by_cases a:β<b
  .exact .inr a
  .rcases(d b a).1 o with e|⟨v,p,_,e,_⟩
   .rw[e] at c;exact h.κ b o x c
   .exact h.κ b o _ e
 .by_cases a:β<b
  .exact a
  .rw[(d b a).2.1] at c;exact h.row b x c
 .by_cases a:β<b
  .exact a
  .rw[(d b a).2.2] at c;exact h.obj b x c
theorem C3 {G':Ψ} (b:Ext S B G YA B' G') (c:¬B.has β) (d:∃o x,G.κ β o=some x):∃o x,G'.κ β o=some x:=by
 obtain⟨o,x,a⟩:=d;rcases(b.Xp β c (λf=>by rw[f.1 o] at a;cases a)).1 o with e|⟨v,p,_,_,e⟩
 .exact⟨o,x,by rw[e];exact a⟩
 .exact⟨o,_,e⟩
theorem S7.blocks (h:S7 β XK E) (c:Holds Ue B σ E) (f:∀r∈σ,N6 r) {b:Nat} (g:B.has b):β<b:=by
 obtain⟨N,i⟩:=g;obtain⟨id,d⟩:=Su i;have j:id<σ.length:=by rw[<-c.len];exact(Zu.1 d).1
 have a:=ε j;obtain⟨t,k,l,e⟩:=f _ (Zf a);rw[e] at a;exact h.row b _ (c.row id _ _ a d).1
theorem vk (g:Ext OZ [] Rm S [] H) (l:∀b o v,XK b o=some v->S b o=some v) (j:Rm.fresh β) (hi:S7 β XK E) (t:Holds S [] [] H) (m:Holds Ue B σ E) (w:∀r∈σ,N6 r) :
  Ext OZ [] Rm (S.plus Ue) B (join H E):=by
 have A:∀b,¬Z8.has ([]:Z8) b:=λb ⟨N,h⟩=>by simp at h
 have C:∀b,¬Rm.fresh b->¬β<b:=λb h k=>h (GO j k)
 have D:∀b,¬β<b->∀o,(join H E).κ b o=H.κ b o:=λb d o=>by
  cases a:H.κ b o with
  | some x=>rw[join_some a]
  | none=>
   rw[join_none a];cases F:E.κ b o with
   | none=>rfl
   | some y=>
    rcases hi.κ b o y F with k|k
    .cases e:XK b o with
     | none=>exact absurd e k
     | some v=>
      obtain⟨p,i⟩:=t.YL b o v (l b o v e);rw[a] at i;cases i
    .exact absurd k d
 refine⟨λb o v h=>Lp (g.YL b o v h),λb _ n=>?_,λb d=>.inr (GO j (hi.blocks m w d)),λb o v h=>?_,λb h=>g.grow b ?_⟩
 .have d:=C b n;obtain⟨I,J,K⟩:=g.Xp b (A b) n;refine⟨λo=>by rw[D b d o];exact I o,?_,?_⟩
  .cases a:E.row b with
   | none=>rw[<-J];simp only[join,a];cases H.row b<;>rfl
   | some x=>exact absurd (hi.row b x a) d
  .cases a:E.obj b with
   | none=>rw[<-K];simp only[join,a];cases H.obj b<;>rfl
   | some x=>exact absurd (hi.obj b x a) d
 .cases e:S b o with
  | some u=>rw[Lp e] at h;cases h;exact g.Q4 b o _ e
  | none=>
   rw[IY e] at h;obtain⟨p,i⟩:=m.YL b o v h;rcases hi.κ b o _ i with k|k
   .cases s:XK b o with
    | none=>exact absurd s k
    | some u=>rw[l b o u s] at e;cases e
   .exact .inr (.inr (GO j k))
 .have c:∀b o,(join H E).κ b o=none->H.κ b o=none:=λb o h=>by
   cases a:H.κ b o with
   | none=>rfl
   | some x=>rw[join_some a] at h;cases h
  have r:∀b,(join H E).row b=none->H.row b=none:=λb h=>by
   cases a:H.row b with
   | none=>rfl
   | some x=>simp only[join,a] at h;cases h
  have o:∀b,(join H E).obj b=none->H.obj b=none:=λb h=>by
   cases a:H.obj b with
   | none=>rfl
   | some x=>simp only[join,a] at h;cases h
  exact⟨λo'=>c b o' (h.1 o'),r b h.2.1,o b h.2.2.1,λf d=>⟨λo'=>c f o' ((h.2.2.2 f d).1 o'),r f (h.2.2.2 f d).2.1,o f (h.2.2.2 f d).2.2⟩⟩
end
end Go.TL
namespace Go.TL
open Go.IntKind (i32 i64 u32 u64)
open Go.Proofs.Tryz
open Go.Conc Go.Proofs
open Go.ConcN (sumTo upd sumTo_upd upd_ne upd_same sumTo_congr le_sumTo)
noncomputable def under (P:Program):Frame:={(default:Frame) with fn:=P.funcs.size,defers:=[],mode:=.panicking [goexitEntry]}
theorem vj {P:Program} {g:FuncId} {cap:Array Value} (b:Plain P g) (w:World):stepG P false (born P ⟨.fn (.func g) cap,#[]⟩) w=.go (Go.Conc.G (Frame.enter P g cap .deferred) [under P]) w #[]:=by
 obtain⟨fn,c,d,a⟩:=b;have f:¬fn.name = "runtime.NumGoroutine" := by simpa using d
 have h:¬fn.body=none:=by intro e;rw[e] at a;cases a
 simp[born,stepG,unwind,callDeferred,invoke,callFunc,c,f,h,seen,GStep.after,Go.Conc.G,under]
theorem vi {P:Program} {b:Frame} {fn:Func} (a:P.funcs[b.fn]?=some fn) (c:fn.results=#[]) (d:b.defers=[]) (e:b.mode=.returning) (f:b.kind=.deferred):Uz P 0 (Go.Conc.G b [under P]):=by
 refine⟨2,QuitsD.ctl (g':=Go.Conc.G (under P) []) rfl (λw=>?_) ?_⟩
 .simp[Go.Conc.G,stepG,unwind,e,d,a,doReturn,results,c,f,under,seen,GStep.after,goexitEntry]
 .refine QuitsD.ctl (g':={Go.Conc.G (under P) [] with status:=.finished}) rfl (λw=>?_) ⟨rfl,rfl⟩;simp[Go.Conc.G,stepG,unwind,under,goexitEntry,Frame.catches];rfl
def PS (l:ξ):I:=if l.isEmpty then .sl true 0 [] else .ms 1 l.length 0 l.length
def W9 (l:ξ):Ρ:=.cells 99 1 [PS l]::μ 110 3 l
theorem GN:PS []=.sl true 0 []:=rfl
theorem IX {l:ξ} (h:l≠[]):PS l=.ms 1 l.length 0 l.length:=by unfold PS;rw[if_neg (by simpa using h)]
theorem C2 {l:ξ} {x:I}:PS (l++[x])=.ms 1 (l.length+1) 0 (l.length+1):=by rw[IX J];simp
theorem IW (l:ξ):∀r∈W9 l,N6 r:=by
 intro r h;unfold W9 μ at h;rcases Zm.1 h with rfl|h
 .exact⟨_,_,_,rfl⟩
 .split at h
  .cases h
  .simp at h;subst h;exact⟨_,_,_,rfl⟩
def N5 (a:Nat) (b:ο) (o:Nat) (fd:Nat->Option Found) (L:List Nat) (E:Ψ):Prop:=
 S7 a b E/\∃S B,Holds S B (W9 ((L.filterMap fd).map YK)) E/\B[0]?=some (some (o,1))
theorem vh {S c:ο} {B B':Z8} {l b:ξ} {m:Nat} (h:Zw S c (B.take m) B' ((W9 l).take m) (W9 b)) (f:0<m):B'[0]?=B[0]?:=by
 obtain⟨m,rfl⟩:∃k,m=k+1:=⟨m-1,U⟩;obtain⟨r',d,e⟩:=h.rows 0 (.cells 99 1 [PS l]) (by simp[W9]);have:r'=.cells 99 1 [PS b]:=by simpa[W9] using d.symm
 subst this;rcases e with⟨l2,_,_,a⟩|a
 .simpa[OS] using a
 .have:=a 1 J;simp[Row.WQ] at this
section
variable {β s m o k:Nat} {S XK:ο} {fd:Nat->Option Found} {sp:Spec} {Xk:υ} {a b:Int} {v1 v2 MX:Value} {f:Found} {n:Nat}
abbrev Ud (s:Nat) (sp:Spec):ZZ:=⟨Ψ.empty,λ_=>none,λ_=>.nil,upd (λ_=>none) s (some sp),λ_=>none,0,false⟩
abbrev IV (s m o:Nat) (v1 v2 MX:Value):Array Value:=#[ptr s 0,v1,v2,MX,ptr m 0,ptr o 0]
abbrev GM (s m o:Nat) (Xk:υ) (a b:Int):ξ:=[.z (ptr s 0),Z9 Xk,.ω [R a],.ω [R b],.z (ptr m 0),.z (ptr o 0)]
theorem C1:(Ud s sp).spec s=some sp:=upd_same (λ_=>(none:Option Spec)) s (some sp)
theorem C0 (a:sp.ZO=some m) (b:sp.top<7):Vr (Ud s sp) s m sp:=⟨rfl,rfl,C1,a,b,λ_ _=>trivial⟩
theorem vg (a:sp.top<7):C6 (Ud s sp) s sp:=⟨rfl,rfl,C1,a,λ_ _=>trivial⟩
theorem vf (n:sp.ZO=some m) (d:sp.top<7) (e:sp.D k Ψ.empty) {f:Value->Prop} {c:Frame} {H:Ψ} {v:Option (Nat×δ)} {d1:Deferred} (a:Oe prog d1 142 #[ptr s 0])
  (b:c.mode=.returning) (g:c.defers=[d1]) (h:c.kind=.deferred) (i:c.fn=141):Zb prog f false (ZJ (Ud s sp) s (.ch k .done .work) v 0) c [under prog] H:=by
 letI:ZN:=X3;have j:Seq (one (ZJ (Ud s sp) s (.ch k .done .work) v 0)):=Seq.O6 trivial rfl rfl;refine ν.deferred (x:=one _) j (by rw[b];simp) g a.t1 a.t2 a.run (λy l=>?_) _ rfl;cases l;refine vv (vg d) e b ?_;exact vi (fn:=f141) (by rw[i];exact func141) rfl rfl b h
theorem ve (g:sp.ZO=some m) (i:sp.top<7) (n:sp.XV=N5 β XK o fd) (p:sp.D k Ψ.empty) {r:Value->Prop} {c:Frame} {t:ο} {d:Z8} {a:Ψ} {L:List Nat} {v:Option (Nat×δ)} {d1 d2:Deferred}
  (u:Oe prog d1 142 #[ptr s 0]) (e:Oe prog d2 145 #[ptr m 0]) (f:c.mode=.returning) (w:c.defers=[d2,d1]) (A:c.kind=.deferred) (B:c.fn=141)
  (j:Holds t d (W9 (((L++[k]).filterMap fd).map YK)) a) (C:d[0]?=some (some (o,1))) (hi:S7 β XK a) (E:∃q x,a.κ β q=some x) :
  Zb prog r false (ZJ (Ud s sp) s (.ch k (.YI L) .work) v 0) c [under prog] a:=by
 letI:ZN:=X3;have F:Seq (one (ZJ (Ud s sp) s (.ch k (.YI L) .work) v 0)):=Seq.O6 trivial rfl rfl;refine ν.deferred (x:=one _) F (by rw[f];simp) w e.t1 e.t2 e.run (λy H=>?_) _ rfl;cases H;refine v3 (x:=Ud s sp) (s:=s) (c:={c with defers:=[d1]}) (C0 g i) j f λI J l K=>⟨Ψ.empty,J,⟨Sub.empty _,Sub.refl _,(Apart.Pt _).symm⟩,?_,λv2 P Q _=>?_⟩
 .rw[n];obtain⟨M,R,S⟩:=j.back l K;obtain⟨q,x,O⟩:=E;exact⟨hi.ext l (λb ⟨N,h⟩=>by simp at h) O,I,d,M,C⟩
 .exact vf g i p u f rfl A B
end
section
variable {β s m o k:Nat} {S XK:ο} {fd:Nat->Option Found} {sp:Spec} {Xk:υ} {a b:Int} {v1 v2 MX:Value} {f:Found} {n:Nat}
noncomputable abbrev vd (vs:Array Value) (ds:List Deferred):Frame:={Frame.enter prog 141 vs .deferred with defers:=ds}
noncomputable def IU:Code:=f141.body.getD .skip
theorem vc (al:sp.ZO=some m) (am:sp.top<7) (Y:sp.XV=N5 β XK o fd) (an:sp.D k Ψ.empty) (ao:∀c:ZN,@Κ c prog 78 [YK f,R (-1)] (R n)) (Z:fd k=if 0<n then some f else none) {aa:Value->Prop}
  {r:ο} {H' E:Ψ} {L:List Nat} (ap:Holds r [] [] H') (ab:sp.XV L E) (aq:Apart H' E) (ar:∃w,Fits H' w/\Fits E w) (au:((L.filterMap fd).map YK).length<=4294967295) (av:S7 β XK H') (aw:∃q x,H'.κ β q=some x)
  {t:Array Value} (ad:YS r [] [] [(4,.z (ptr m 0)),(5,.z (ptr o 0)),(6,.ω (YK f).cells)] t) (ax:t.size=20) {vs:Array Value} {d1:Deferred} (ay:Oe prog d1 142 #[ptr s 0]) {ops:Array Oper} :
  Zb prog aa false (ZJ (Ud s sp) s (.ch k (.YI L) .work) none 0) (π (vd vs [d1]) t [.inRegion ops [],.code (Yr [1,1,1] IU)]) [under prog] (join H' E):=by
 letI:ZN:=X3;have v:Seq (one (ZJ (Ud s sp) s (.ch k (.YI L) .work) none 0)):=Seq.O6 trivial rfl rfl;rw[Y] at ab;obtain⟨hi,H,C,M,ae⟩:=ab;obtain⟨l,I⟩:=Ι ((L.filterMap fd).map YK);have az:l.length<=4294967295:=I▸au;rw[<-I] at M;obtain⟨aA,l1,l2⟩:=C4 ap M aq ar (IW l);have af:∀b,C.has b->β<b:=λb=>hi.blocks M (IW l);have aB:∃q x,(join H' E).κ β q=some x:=let ⟨q,x,h⟩:=aw;⟨q,x,join_some h⟩;have aC:t.getD 5 undef=ptr o 0:=by
  have:=ad 5;generalize t.getD 5 undef=u at this;cases this;rfl
 have aD:YS (r.plus H) C (W9 l) [(4,.z (ptr m 0)),(5,.Ο 0 1 0 0),(6,.ω (YK f).cells)] t:=λi=>by
  have O:=(ad i).later l1;simp only[Z7] at O ⊢;by_cases ag:4=i
  .simpa[ag] using O
  by_cases ah:5=i
  .subst ah;simp only[show ¬4=5 by decide,if_false,if_true];rw[aC];have:=ς.Ο (S:=r.plus H) (B:=C) (σ:=W9 l) (id:=0) (n:=1) (i:=0) (j:=0) (k:=1) (t:=99) (l:=[PS l]) (b:=o) (N:=1) (by simp[W9]) rfl ae;simpa using this
  .simpa[ag,ah] using O
 have ai:∀(J:ξ) (g:ο) (p:Z8) (a:Ψ) (c:Frame) (d2:Deferred),J=((L++[k]).filterMap fd).map YK->X5 1 (r.plus H) C (join H' E) (W9 l) g p a (W9 J)->Holds g p (W9 J) a->Oe prog d2 145 #[ptr m 0]->
   c.mode=.returning->c.defers=[d2,d1]->c.kind=.deferred->c.fn=141->Zb prog aa false (ZJ (Ud s sp) s (.ch k (.YI L) .work) none 0) c [under prog] a:=λJ g p a c d2 e P aE K aF aG aH aI=>by
  subst e;obtain⟨q,x,aj⟩:=aB;exact ve al am Y an ay K aF aG aH aI aE (by rw[vh P.later U];exact ae) ((av.join hi).ext P.ext af aj) (C3 P.ext (λh=>Nat.lt_irrefl _ (af β h)) ⟨q,x,aj⟩)
 refine V.here (x:=one _) (m:=1) (nt:=20) (S:=r.plus H) (B:=C) (σ:=W9 l) (env:=[(4,.z (ptr m 0)),(5,.Ο 0 1 0 0),(6,.ω (YK f).cells)]) ?_ ⟨aA,aD,ax,by simp[W9]⟩ _ rfl;refine V.XS v rfl ?_;refine W.ZC ?_;simp only[IU,f141,Option.getD_some,Yr];refine Y1 ?_;refine W.Ze (.stop ?_);refine V.defer v rfl rfl rfl rfl rfl rfl rfl ⟨_,func145,rfl,rfl⟩ λaM aN aO t3 d2 aP ak aJ aK K=>?_;obtain rfl:=TJ (l:=[ptr m 0]) aK;rintro y rfl;refine V.here (x:=one _) (m:=1) (nt:=20) ?_ aJ _ rfl;refine V.XS v rfl ?_;refine W.ZC ?_;refine ZP λaQ aL=>?_;refine Κ.d (ao _) (ZY ?_);apply aL;by_cases Q:0<n
 .refine Γ (by simp[Q]) ?_;refine W.Yn (A:=[19]) Υ [] (W9 (l++[YK f])) (.stop ?_) (by
   by_cases F:l=[]
   .subst F;(try simp);(repeat (rw[Ν];simp[W9,GN,Wo]));(try simp[W9,GN,Wo]);exact⟨rfl,rfl⟩
   ·(try simp);(repeat (rw[Ν];simp[W9,IX F,YY F,C2,P0]));(try simp[W9,IX F,YY F,C2,P0]);exact az)
  intro g p a t5 T X;refine ν.Qm v rfl rfl ?_;rintro y rfl;exact ai _ g p a _ d2 (by rw[NS,Yd,<-I];simp[Z,Q]) (ak.trans T) X.holds K rfl rfl rfl rfl
 .refine Η (by simp;omega) ?_;refine Y1 ?_;refine W.stop ?_;intro g p a t5 T X;refine ν.Qm v rfl rfl ?_;rintro y rfl;exact ai _ g p a _ d2 (by rw[NS,Yd,<-I];simp[Z,Q]) (ak.trans T) X.holds K rfl rfl rfl rfl
theorem QG {S:ο} {B:Z8} {σ:Ρ} {env env':Δ} {t:Array Value} (h:YS S B σ env t) (a:∀p∈env',Z7 env p.1=p.2):YS S B σ env' t:=by
 induction env' with
 | nil=>exact λi=>.Zk _
 | cons p l b=>
  intro i;simp only[Z7];split
  .rename_i e;have:=a p J;rw[<-this,e];exact h i
  .exact b (λq c=>a q (by simp[c])) i
theorem vb (i:sp.ZO=some m) (j:sp.top<7) (I:sp.XV=N5 β XK o fd) (K:sp.D k Ψ.empty) (M:∀c:ZN,@Κ c prog 143 [ZB Xk,Zh (a,b)] (YK f))
  (O:∀c:ZN,@Κ c prog 78 [YK f,R (-1)] (R n)) (P:fd k=if 0<n then some f else none) (Q:∀L:List Nat,L.Nodup->((L.filterMap fd).map YK).length<=4294967295)
  (T:∃q v,S β q=some v) (U:∀b q v,S b q=some v->XK b q≠none\/β<b) (X:XT S [] [] (GM s m o Xk a b) (IV s m o v1 v2 MX)) {p:Value->Prop} :
  Goes prog p false (born prog ⟨.fn (.func 141) (IV s m o v1 v2 MX),#[]⟩) {ZJ (Ud s sp) s (.ch k .idle .work) none 0 with G:=TB S}:=by
 letI:ZN:=X3;have e:Seq (one (ZJ (Ud s sp) s (.ch k .idle .work) none 0)):=Seq.O6 trivial rfl rfl;refine Quiet.goes (.cons ⟨rfl,rfl⟩ (λw=>vj ⟨_,func141,rfl,rfl⟩ w) (.nil _)) (.inl rfl) ⟨rfl,rfl⟩ ?_;show Zb prog p false (ZJ (Ud s sp) s (.ch k .idle .work) none 0) (Frame.enter prog 141 (IV s m o v1 v2 MX) .deferred) [under prog] (TB S);rw[SG (body:=IU) func141 rfl];refine V.here (x:=one _) (m:=0) (nt:=20) (S:=S) (B:=[]) (σ:=[]) (env:=entry 0 (GM s m o Xk a b)) ?_ (XA.enter vo X (Z1 _) J) _ rfl;refine V.XS e rfl ?_;simp only[IU,f141,Option.getD_some];refine Y1 ?_;refine W.Ze (.stop ?_);refine V.defer e rfl rfl rfl rfl rfl rfl rfl ⟨_,func142,rfl,rfl⟩ λap Y aq t3 d1 ar Z t aa ab=>?_;obtain rfl:=TJ (l:=[ptr s 0]) aa;obtain rfl:Y=[]:=YP.1 t.holds.len;rintro y rfl;refine V.here (x:=one _) (m:=0) (nt:=20) ?_ t _ rfl;refine V.XS e rfl ?_;refine W.ZC ?_;refine Y1 ?_;refine Zj (A:=[6]) Υ λau ad=>ZY ?_;refine Κ.d (M _) (ZY ?_);apply ad;refine W.fix (id:=0) (σ':=[]) (Ε _) rfl J J rfl [(4,.z (ptr m 0)),(5,.z (ptr o 0)),(6,.ω (YK f).cells)] (by simp[entry]) ?_;refine Y1 ?_;refine W.Ze (.stop ?_);refine V.call e ⟨rfl,rfl,by simp[Frame.enter],rfl⟩ rfl rfl rfl ⟨_,func144,rfl,rfl⟩ λav ae aw t4 ax af g ag=>?_;obtain rfl:=TJ (l:=[ptr m 0]) ag;obtain rfl:ae=[]:=YP.1 g.holds.len;rintro y rfl;refine wa (C0 i j) g.holds λah ai L E u aj ak al ⟨am,ay,an⟩=>?_;rw[V6 rfl];have C:Ext S [] (TB S) ah [] ai:=Z.ext.trans (af.ext.trans u);obtain⟨ao,az,F⟩:=T;have H:∀b,¬Z8.has ([]:Z8) b:=λb ⟨N,h⟩=>by simp at h
 exact vc i j I K O P aj ak al an (Q L am) ((vl U).ext C (λb h=>absurd h (H b)) (GQ F)) (C3 C (H β) ⟨ao,_,GQ F⟩)
  (by
   refine YS.later (QG (g.put (a:=.z (.tuple #[])) rfl (.z _)).Zn (by simp[Zt])) ⟨u.YL,λid r h=>by simp at h⟩) (g.put (a:=.z (.tuple #[])) rfl (.z _)).size ab
end
end Go.TL
