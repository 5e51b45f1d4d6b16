import Derived.Test.YtlabjopijpkiaaaGreatJAO
set_option maxHeartbeats 16000000
set_option maxRecDepth 20000
set_option linter.unusedSectionVars false
set_option linter.unusedSimpArgs false
set_option linter.unusedVariables false
namespace Go.TL
open Go.IntKind (i32 i64 u32 u64)
open Go.Proofs.Tryz
open Go.Conc Go.Proofs
open Go.ConcN (sumTo upd sumTo_upd upd_ne upd_same sumTo_congr le_sumTo)
theorem CG {a b:ε} {t u:Tok} (c:PI a t) (d:PI b u) (h:mwd a=mwd b):a.Y7=b.Y7/\a.wk=b.wk/\a.sv=b.sv/\a.nw=b.nw:=by
 have:=c.Y7;have:=c.wk;have:=c.sv;have:=d.Y7;have:=d.wk;have:=d.sv;simp only[mwd] at h;omega
section
variable {Q:Value->Prop} {mn:Bool} {x:ZZ} {c:Frame} {rest:List Frame} {S:μ} {B:Z8} {σ:Ο} {H:Χ} {s m k:Nat} {sp:Spec} {v:Option (Nat×ε)} {t:Tok}
theorem Lg (b:Vo x s m sp) {a:ε} (h:a.toSpec=sp):a.top<7:=by have:=b.top;rw[show a.top=sp.top by rw[<-h]];exact this
theorem vl (d:Vo x s m sp) (y:PG Q mn x c rest S H s k sp) {φ:Nat} {a:ε} (B:Lh Q mn x c rest S H s m k sp φ) (p:a.toSpec=sp) {b st:Bool} {f τ:Int} (i:PI a (.ch k (.act b) .work)) (C:st=true->b=true) (N:0<=f) (O:f<=4) :
  U7 Q mn x c rest S H s m (.ch k (.act b) .work) (some (φ,a)) 1 (.code (Yq [0] QB)::.code (Yq [1] QB)::.inBlock 1::Us) (YW m (mwd a) b st f τ++[(7,.z (.int .i32 (R0 a.Y7 a.wk a.sv a.nw b st)))]):=by
 letI:ZX:=XU;have g:=d.seq;have ad:=CH i;have ae:=Lg d p;have af:=i.Y7;have ag:=i.wk;have ah:=i.sv;have ai:=i.nw;have r:=Gv a.Y7 U a.wk U a.sv U a.nw U;rw[<-R1] at r;have P:∀(w:Option (Nat×ε)) (env:ω),Z7 env 0=.z (ptr m 0)->U7 Q mn x c rest S H s m (.ch k .own .work) w 1 [.code Li] env:=λw env h=>CJ d y h;have R:∀(t:Nat) (D:ε),t<φ->¬XY .i32 (mwd a) 5=0->U7 Q mn x c rest S H s m (.ch k .q .work) (some (t,D)) 1 (.code TF::.inBlock 1::Us) (YW m (mwd a) b st f τ):=λt D T X=>vm d y B T X;refine V.Zo (g _ _ _) ?_;unfold QB Rm TG Rn;refine W.Zg ?_;refine W.part (A:=[]) Ρ [0,1,2,3,4] [5] rfl λY u=>?_;(try simp);(repeat (rw[Ν];simp[YW]));(try simp[YW]);apply u;refine W.stop ?_;refine V.IF (g _ _ _).here (UP _) (sp:=sp) d.spec (by rw[Zn];exact id) d.ZO ⟨⟨rfl,rfl,by simp[Frame.enter],rfl⟩,Iy,⟨_,rfl⟩,rfl,rfl,rfl⟩ (λl e n hv=>.inl ?_) (λl e n hv=>?_)
 ·
  have E:=n.view φ a R2
  have aj:l<φ:=by
   rcases OH l φ with h|h
   .exact h
   .exact absurd (by rw[E.2 U]) hv
  unfold V3;rw[UX];refine V.Zo (g _ _ _) ?_;refine W.ZF ?_;refine Y1 ?_;refine Ζ rfl ?_;refine W.Zg ?_;refine Xu [0,1,2] [3,4] ?_;refine W.stop ?_;refine V.MV (g _ _ _).here (sp:=sp) d.spec (by rw[Zn];exact id) ⟨rfl,rfl,by simp[Frame.enter],rfl⟩ rfl rfl rfl MU rfl Ix mwd (λa w p Z=>Z.Rt (by rw[p];exact d.ZO)) (λo F v=>.inl ?_);have ak:=v.view l e R2;have I:=v.Vp.Tj;rw[Zn] at I;unfold V3;rw[UX];refine V.Zo (g _ _ _) ?_;refine W.part (A:=[]) Ρ [4] [] rfl λY u=>?_;(try simp);(repeat (rw[Ν];simp));(try simp);apply u;refine W.ZF ?_;refine W.inBlock ?_;refine W.forget (YW m (mwd F) b st f τ) (by simp[YW]) (.stop ?_);exact B o F b st f τ U v.spec I C N O
 .have E:=n.view φ a R2
  have J:=n.Vp.Tj;rw[Zn] at J;obtain⟨aa,K,L,M⟩:=CG J i hv;by_cases j:a.Y7=0/\a.sv=0
  .refine⟨{e with Y7:=1,wk:=if b then 0 else e.wk},.ch k .own .work,?_,rfl,⟨rfl,rfl,rfl⟩,by rw[Zn];exact .acq U U,λo ab=>?_⟩
   .simp[R0,R1,K,L,M,j.1,j.2]
   .rw[WK];rw[j.1,j.2] at r;refine V.Zo (g _ _ _) ?_;refine W.ZF ?_;refine Y1 ?_;refine Α rfl ?_;refine Wi r ?_;refine W.exit rfl (.stop ?_);exact P _ _ rfl
  .have al:a.Y7=1\/a.sv=1:=U
   refine⟨{e with nw:=e.nw+1,wk:=if b then 0 else e.wk,sv:=if(st&&decide (a.Y7=1)) then 1 else e.sv},.ch k .q .work,?_,rfl,⟨rfl,rfl,rfl⟩,by rw[Zn];exact .queue (st&&decide (a.Y7=1)) U (λh=>by simp at h;exact⟨C h.1,U⟩),λo ab=>?_⟩
   .simp only[R0,if_neg j,R1,aa,K,L,M];simp
   .rw[WK];refine V.Zo (g _ _ _) ?_;refine W.ZF ?_;refine Y1 ?_;refine Α rfl ?_;refine W.forget (YW m (mwd a) b st f τ) (by simp[YW]) (.stop ?_);exact R o _ U U
theorem vk (f:Vo x s m sp) {φ:Nat} {b st:Bool} {a τ:Int} {g:Nat} {j:ε} (B:0<=a) (C:a<4)
  (r:∀(l:Nat) (e:ε),l<=g->e.toSpec=sp->PI e (.ch k (.act b) .work)->U7 Q mn x c rest S H s m (.ch k (.act b) .work) (some (l,e)) 1 Us (YW m (mwd e) b st (a+1) τ)) :
  U7 Q mn x c rest S H s m (.ch k (.act b) .work) (some (g,j)) 1 (.code (Yq [0,0,1,0,1,0] TG)::.code (Yq [0,0,1,0,1,1] TG)::.code Rm::.inBlock 1::Us) [(0,.z (ptr m 0)),(2,.z (.int .i64 τ)),(3,.z (.bool st)),(4,.z (.bool b)),(5,.z (.int .i64 a))]:=by
 letI:ZX:=XU;have d:=f.seq;have n:i64.wrap (a+1)=a+1:=by simp only[IntKind.wrap_i64];omega
 refine V.Zo (d _ _ _) ?_;unfold TG Rn;refine Y1 ?_;refine W.Zg (.stop ?_);refine V.IC (d _ _ _) (vs:=[]) ⟨⟨rfl,rfl,by simp[Frame.enter],rfl⟩,vx,⟨_,rfl⟩,rfl,rfl,rfl⟩ ?_;refine V.Zo (d _ _ _) ?_;refine W.ZF ?_;refine Y1 ?_;refine Y9 λt h=>?_;(try simp);(repeat (rw[Ν];simp[n]));(try simp[n]);apply h;refine Y1 ?_;refine W.Zg ?_;refine Xu [0,1,2] [3,4] ?_;refine W.stop ?_;refine V.MV (d _ _ _).here (sp:=sp) f.spec (by rw[Zn];exact id) ⟨rfl,rfl,by simp[Frame.enter],rfl⟩ rfl rfl rfl MU rfl Ix mwd (λD w u v=>v.Rt (by rw[u];exact f.ZO)) (λy o i=>.inl ?_);have E:=i.view g j R2;have p:=i.Vp.Tj;rw[Zn] at p;unfold V3;rw[UX];refine V.Zo (d _ _ _) ?_;refine W.part (A:=[]) Ρ [4] [] rfl λt h=>?_;(try simp);(repeat (rw[Ν];simp));(try simp);apply h;refine W.ZF ?_;refine W.exit rfl ?_;refine W.forget (YW m (mwd o) b st (a+1) τ) (by simp[YW]) (.stop ?_);exact r y o U i.spec p
theorem vj (o:Vo x s m sp) (ak:PG Q mn x c rest S H s k sp):∀(N φ:Nat) (a:ε) (f st:Bool) (d τ:Int),φ*8+(4-d).toNat<N->a.toSpec=sp->PI a (.ch k (.act f) .work)->(st=true->f=true)->0<=d->d<=4->
  U7 Q mn x c rest S H s m (.ch k (.act f) .work) (some (φ,a)) 1 (.code TG::Us) (YW m (mwd a) f st d τ):=by
 letI:ZX:=XU;have p:=o.seq;intro N
 induction N with
 | zero=>intro φ a f st d τ h;omega
 | succ N al=>
  intro φ a f st d τ aw X r v Y am;have an:=CH r;have ax:=Lg o X;have ay:=r.Y7;have az:=r.wk;have aA:=r.sv;have aB:=r.nw;have w:=Gv a.Y7 U a.wk U a.sv U a.nw U;have Φ:=IA a.Y7 U a.wk U a.sv U a.nw U;have L:=vF a.Y7 U a.wk U a.sv U a.nw U;have B:=Gs a.Y7 U a.wk U a.sv U a.nw U;rw[<-R1] at w Φ B L;have Z:∀(l:Nat) (g:ε) (e t:Bool) (n C:Int),l*8+(4-n).toNat<N->g.toSpec=sp->PI g (.ch k (.act e) .work)->(t=true->e=true)->0<=n->n<=4->
    U7 Q mn x c rest S H s m (.ch k (.act e) .work) (some (l,g)) 1 Us (YW m (mwd g) e t n C):=λl g e t n C F J D i u M=>by
   have:=al l g e t n C F J D i u M;refine V.XO (p _ _ _) rfl ?_;exact W.inLoop (.stop this)
  have ao:Lh Q mn x c rest S H s m k sp φ:=λl g e t n C F J D i u M=>Z l g e t n C U J D i u M
  have aa:U7 Q mn x c rest S H s m (.ch k (.act f) .work) (some (φ,a)) 1 (.code Rm::.inBlock 1::Us) (YW m (mwd a) f st d τ):=by
   rw[R1];exact vp o U U U U an v (by rw[<-R1];exact vl o ak ao X r v Y am)
  have E:∀(O:Nat) (ab:ε) (e:Bool),d<4->(O<=φ)->(st=true->e=true)->U7 Q mn x c rest S H s m (.ch k (.act e) .work) (some (O,ab)) 1 (.code (Yq [0,0,1,0,1,0] TG)::.code (Yq [0,0,1,0,1,1] TG)::.code Rm::.inBlock 1::Us) [(0,.z (ptr m 0)),(2,.z (.int .i64 τ)),(3,.z (.bool st)),(4,.z (.bool e)),(5,.z (.int .i64 d))]:=λO ab e F J D=>
   vk o (φ:=φ) Y F λl g ad ae P=>Z l g e st (d+1) τ U ae P D U U
  refine V.Zo (p _ _ _) ?_;unfold TG Rn;refine Y1 ?_;by_cases af:a.Y7=1/\a.sv=0
  .rw[af.1,af.2] at w;refine W.Zg ?_;refine W.part (A:=[]) Ρ [0,1,2,3,4] [5,6] rfl λj b=>?_;(try simp);(repeat (rw[Ν];simp[YW,w]));(try simp[YW,w]);apply b;refine W.stop ?_;refine V.canSpin (p _ _ _) ⟨⟨rfl,rfl,by simp[Frame.enter],rfl⟩,vy,⟨_,rfl⟩,rfl,rfl,rfl⟩ λy ap=>?_;refine V.Zo (p _ _ _) ?_;refine W.part (A:=[]) Ρ [6] [] rfl λj b=>?_;(try simp);(repeat (rw[Ν];simp[YW]));(try simp[YW]);apply b;refine W.ZF ?_;cases y with
   | false=>
    refine Ζ rfl ?_
    first|apply W5|apply wb|apply Wz|apply wd
    refine W.forget (YW m (mwd a) f st d τ) (by simp[YW]) (.stop ?_);exact aa
   | true=>
    have i:=ap rfl;refine Α rfl ?_;refine Y1 ?_;cases f with
    | true=>
     (repeat (first|apply W5|apply wb|apply Wz|apply wd|refine Α rfl ?_|refine Ζ rfl ?_|(refine Y9 λj b=>?_;simp;(repeat (rw[Ν];simp[YW]));apply b)));refine W.forget [(0,.z (ptr m 0)),(2,.z (.int .i64 τ)),(3,.z (.bool st)),(4,.z (.bool true)),(5,.z (.int .i64 d))] I (.stop ?_);exact E φ a true i (γ _) (λ_=>rfl)
    | false=>
     by_cases ag:a.wk=0
     .by_cases R:a.nw=0
      .rw[ag] at Φ;rw[R] at B;(repeat (first|apply W5|apply wb|apply Wz|apply wd|refine Α rfl ?_|refine Ζ rfl ?_|(refine Y9 λj b=>?_;simp;(repeat (rw[Ν];simp[YW,Φ,B]));apply b)));refine W.forget [(0,.z (ptr m 0)),(2,.z (.int .i64 τ)),(3,.z (.bool st)),(4,.z (.bool false)),(5,.z (.int .i64 d))] I (.stop ?_);exact E φ a false i (γ _) v
      .rw[ag] at Φ;have ah:((a.nw:Int) != 0)=true:=by simp;omega
       refine W.Zg ?_;refine W.part (A:=[]) Ρ [0,1,2,3,4,5,6,7,8,9,10,11,12,13,14,15,16,17,18] [19,20] rfl λj b=>?_;(try simp);(repeat (rw[Ν];simp[YW,Φ,B,L,R,ah]));(try simp[YW,Φ,B,L,R,ah]);apply b;refine W.stop ?_;refine V.IF (p _ _ _).here (UP _) (sp:=sp) o.spec (by rw[Zn];exact id) o.ZO ⟨⟨rfl,rfl,by simp[Frame.enter],rfl⟩,Iy,⟨_,rfl⟩,rfl,rfl,rfl⟩ (λai T K hv=>.inl ?_) (λai T K hv=>?_)
       .have aq:=K.view φ a R2;unfold V3;rw[UX];refine V.Zo (p _ _ _) ?_;refine W.part (A:=[]) Ρ [20] [] rfl λj b=>?_;(try simp);(repeat (rw[Ν];simp[YW]));(try simp[YW]);apply b;refine W.ZF ?_;refine Ζ rfl ?_;refine Y1 ?_;refine W.forget [(0,.z (ptr m 0)),(2,.z (.int .i64 τ)),(3,.z (.bool st)),(4,.z (.bool false)),(5,.z (.int .i64 d))] (by simp[YW]) (.stop ?_);exact E ai T false i U v
       .have aq:=K.view φ a R2
        have aj:=K.Vp.Tj;rw[Zn] at aj;obtain⟨ad,ae,P,ar⟩:=CG aj r hv;refine⟨{T with wk:=1},.ch k (.act true) .work,?_,rfl,⟨rfl,rfl,rfl⟩,by rw[Zn];exact .Ak U U U U,λau aC=>?_⟩
        .simp[R1,ad,P,ar]
        .rw[WK];refine V.Zo (p _ _ _) ?_;refine W.part (A:=[]) Ρ [20] [] rfl λj b=>?_;(try simp);(repeat (rw[Ν];simp[YW]));(try simp[YW]);apply b;refine W.ZF ?_;refine Α rfl ?_;refine Y9 λj b=>?_;(try simp);(repeat (rw[Ν];simp[YW]));(try simp[YW]);apply b;refine Y1 ?_;refine W.forget [(0,.z (ptr m 0)),(2,.z (.int .i64 τ)),(3,.z (.bool st)),(4,.z (.bool true)),(5,.z (.int .i64 d))] (by simp[YW]) (.stop ?_);exact E au _ true i U (λ_=>rfl)
     .have av:a.wk=1:=U
      rw[av] at Φ;(repeat (first|apply W5|apply wb|apply Wz|apply wd|refine Α rfl ?_|refine Ζ rfl ?_|(refine Y9 λj b=>?_;simp;(repeat (rw[Ν];simp[YW,Φ]));apply b)));refine W.forget [(0,.z (ptr m 0)),(2,.z (.int .i64 τ)),(3,.z (.bool st)),(4,.z (.bool false)),(5,.z (.int .i64 d))] I (.stop ?_);exact E φ a false i (γ _) v
  .have u:¬XY .i32 (mwd a) 5=1:=by rw[w];omega
   refine Y9 λj b=>?_;(try simp);(repeat (rw[Ν];simp[YW,u]));(try simp[YW,u]);apply b;refine Ζ rfl ?_
   first|apply W5|apply wb|apply Wz|apply wd
   refine W.forget (YW m (mwd a) f st d τ) (by simp[YW]) (.stop ?_);exact aa
theorem vi (a:Vo x s m sp):CK Q mn x s m k sp:=by
 intro c rest S B σ H v j l;letI:ZX:=XU;have b:=a.seq;have n:=λφ d o st e τ p r t u y=>vj a l (φ*8+(4-e).toNat+1) φ d o st e τ (Qg _) p r t u y;refine V.Rr (z:=one _) (vs:=[ptr m 0]) func213 rfl j (by simp[ntmps213]) ?_ _ rfl;refine V.Zo (b _ _ _) ?_;refine Wj ?_;refine W.Zg ?_;refine Xu [0,1,2] [3,4] ?_;refine W.stop ?_;refine V.MV (b _ _ _).here (sp:=sp) a.spec (by rw[Zn];exact id) ⟨rfl,rfl,by simp[Frame.enter],rfl⟩ rfl rfl rfl MU rfl Ix mwd (λd w C D=>D.Rt (by rw[C];exact a.ZO)) (λE f g=>.inl ?_);have i:=g.Vp.Tj;rw[Zn] at i;unfold V3;rw[UX];refine V.Zo (b _ _ _) ?_;refine W.part (A:=[]) Ρ [4] [] rfl λI F=>?_;(try simp);(repeat (rw[Ν];simp));(try simp);apply F;refine W.ZF ?_;refine Y1 ?_;refine W.loop ?_;refine W.forget (YW m (mwd f) false false 0 0) (by simp[YW]) (.stop ?_);exact n E f false false 0 0 g.spec i (λh=>by cases h) U U
theorem vh (a:Vo x s m sp) (e:Holds S B σ H) (f:PG Q mn x c rest S H s k sp):Zd prog Q mn (ZI x s (.ch k .idle .work) v 0) (Frame.enter prog 144 #[ptr m 0] .normal) (c::rest) H:=by
 letI:ZX:=XU;have b:=a.seq;refine V.Rr (z:=one _) (vs:=[ptr m 0]) func144 rfl e (by simp[ntmps144]) ?_ _ rfl;refine V.Zo (b _ _ _) ?_;refine Y1 ?_;refine W.Zg ?_;refine Xu [0,1,2] [3] ?_;refine W.stop ?_;refine V.call (b _ _ _) ⟨rfl,rfl,by simp[Frame.enter],rfl⟩ rfl rfl rfl ⟨_,func175,rfl,rfl⟩ λu g w t1 A h d hv=>?_;obtain rfl:=TI (l:=[ptr m 0]) hv;obtain rfl:g=[]:=YL.1 d.holds.len;rintro y rfl;refine vq a d.holds (vi a) λi j L E n o p r t=>?_;rw[VV rfl];refine Zd.leave0 (b _ _ _) rfl rfl rfl rfl func144 rfl ?_;exact f i j L E (h.ext.trans n) o p r t
end
noncomputable def CF:Code:=f215.body.getD .skip
noncomputable def Gm:Code:=Yq [1,1,0,1,0,0] CF
noncomputable def CE:List Item:=[.inLoop Gm,.inBlock 0]
theorem vg:∀n<8,0<n->QS .i32 (i32.wrap (WJ 0 0 0 n-8)) 2=WJ 0 1 0 (n-1):=by decide +kernel
theorem vf:∀b<2,∀c<2,∀n<8,XY .i32 (i32.wrap (WJ 0 b c n+1)) 1=1:=by decide +kernel
abbrev Xz:μ:=λ_ _=>none
theorem Lf {S b:μ} {B B':Z8} {σ σ':Ο} {env:ω} {t:Array Value} (c:∀p∈env,∃v,p.2=Ω.z v) (h:YT S B σ env t):YT b B' σ' env t:=by
 intro i;have d:∀(env:ω),(∀p∈env,∃v,p.2=Ω.z v)->(∃v,Z7 env i=.z v)\/Z7 env i=.Zl:=by
  intro env
  induction env with
  | nil=>exact λ_=>.inr rfl
  | cons p l f=>
   intro h;obtain⟨j,a⟩:=p;simp only[Z7];split
   .exact .inl (h (j,a) I)
   .exact f λq g=>h q (by simp[g])
 have hi:=h i;rcases d env c with⟨v,e⟩|e
 .rw[e] at hi ⊢;generalize t.getD i undef=u at hi;cases hi;exact .z _
 .rw[e];exact .Zl _
theorem MT (H:Χ):Holds Xz [] [] H:=⟨λb o v h=>(by cases h),rfl,λid r bo h=>(by simp at h),λi j a c b d e _ h=>(by simp at h),λid r b N h=>(by simp at h)⟩
theorem Xw.none {m nt:Nat} {S:μ} {B:Z8} {H H':Χ} {env:ω} {t:Array Value} (h:Xw m nt S B H [] env t) (a:∀p∈env,∃v,p.2=Ω.z v):Xw 0 nt Xz [] H' [] env t:=⟨MT H',Lf a h.Zm,h.size,γ _⟩
section
variable {Q:Value->Prop} {mn:Bool} {x:ZZ} {c:Frame} {rest:List Frame} {S:μ} {B:Z8} {σ:Ο} {H:Χ} {s m k:Nat} {sp:Spec} {v:Option (Nat×ε)} {t:Tok}
abbrev Gl (Q:Value->Prop) (mn:Bool) (x:ZZ) (c:Frame) (rest:List Frame) (H:Χ) (s m:Nat) (w:Int) (t:Tok) (v:Option (Nat×ε)) (K:List Item) (env:ω):Prop:=
 V prog Q mn (one (ZI x s t v 1)) (Frame.enter prog 215 #[ptr m 0,.int .i32 w] .normal) (c::rest) 43 ⟨Xz,[],H,[],0⟩ K env []
def Le (Q:Value->Prop) (mn:Bool) (x:ZZ) (c:Frame) (rest:List Frame) (H:Χ) (s k d:Nat):Prop:=
 ∀(v:Option (Nat×ε)) (b:μ) (a:Χ),Ext Xz [] H b [] a->Zd prog Q mn (ZI x s (.ch k .done .work) v d) (c.finish (.tuple #[])) rest a
theorem Gk (a:Vo x s m sp) (b:Le Q mn x c rest H s k 1) {w:Int} {K:List Item} {env:ω} (e:t=.ch k .done .work):Gl Q mn x c rest H s m w t v (.code .ret::K) env:=by
 letI:ZX:=XU;have d:=a.seq;subst e;refine V.Gz (d _ _ _) rfl rfl rfl rfl func215 rfl λf g h i j=>?_;obtain rfl:g=[]:=YL.1 j.len;rintro y rfl;exact b v f h i.ext
def CD (k:Nat) (a:ε) (t:Tok):Prop:=((a.nw=0\/a.Y7=1\/a.wk=1\/a.sv=1)/\t=.ch k .done .work)\/(0<a.nw/\a.Y7=0/\a.wk=0/\a.sv=0/\t=.ch k .uc .work)
theorem CC (b:Vo x s m sp) (D:Le Q mn x c rest H s k 1) {w:Int}:∀(N φ:Nat) (a:ε) (t:Tok),φ<N->a.Y7<=1->a.wk<=1->a.sv<=1->a.nw<7->CD k a t->
  Gl Q mn x c rest H s m w t (some (φ,a)) (.code Gm::CE) [(0,.z (ptr m 0)),(4,.z (.int .i32 (mwd a)))]:=by
 letI:ZX:=XU;have d:=b.seq;intro N
 induction N with
 | zero=>intro φ a t h;omega
 | succ N ad=>
  intro φ a t ao ap aq ar au K;have l:=vI a.Y7 U a.wk U a.sv U a.nw U;have i:=Gs a.Y7 U a.wk U a.sv U a.nw U;rw[<-R1] at l i;have L:∀(n:Nat) (e:ε) (t':Tok),n<N->e.Y7<=1->e.wk<=1->e.sv<=1->e.nw<7->CD k e t'->Gl Q mn x c rest H s m w t' (some (n,e)) CE [(0,.z (ptr m 0)),(4,.z (.int .i32 (mwd e)))]:=λn e t' E o p r M ae=>by
   have:=ad n e t' E o p r M ae;refine V.XO (d _ _ _) rfl ?_;exact W.inLoop (.stop this)
  refine V.Zo (d _ _ _) ?_;unfold Gm CF;refine Y1 ?_;rcases K with⟨K,rfl⟩|⟨E,o,p,r,rfl⟩
  .by_cases u:a.nw=0
   .rw[u] at i;refine Wi i ?_;exact .stop (Gk b D rfl)
   .have O:¬XY .i32 (mwd a) 7=0:=by rw[l];omega
    have af:(XY .i32 (mwd a) 7 != 0)=true:=by simpa using O
    refine Wi (Υ i (Υ u (Υ O af))) ?_;exact .stop (Gk b D rfl)
  .have u:¬a.nw=0:=U
   have ag:¬(a.nw:Int)=0:=U
   have P:mwd a=WJ 0 0 0 a.nw:=by rw[R1,o,p,r]
   have F:=vg a.nw U E;rw[<-P] at F;rw[o,p,r] at l;refine Wi (Υ i (Υ u (Υ ag l))) ?_;refine W.Zg ?_;refine W.part (A:=[]) Ρ [0,1,2,3,4] [5] rfl λR j=>?_;(try simp);(repeat (rw[Ν];simp[F]));(try simp[F]);apply j;refine W.stop ?_;refine V.IF (d _ _ _).here (UP _) (sp:=sp) b.spec (by rw[Zn];exact id) b.ZO ⟨⟨rfl,rfl,by simp[Frame.enter],rfl⟩,Iy,⟨_,rfl⟩,rfl,rfl,rfl⟩ (λv f y hv=>.inl ?_) (λv f y hv=>?_)
   .have ah:=y.view φ a R2
    have M:v<φ:=by
     rcases OH v φ with h|h
     .exact h
     .exact absurd (by rw[ah.2 U]) hv
    unfold V3;rw[UX];refine V.Zo (d _ _ _) ?_;refine W.ZF ?_;refine Ζ rfl ?_;refine Y1 ?_;refine W.Zg ?_;refine Xu [0,1,2] [3,4] ?_;refine W.stop ?_;refine V.MV (d _ _ _).here (sp:=sp) b.spec (by rw[Zn];exact id) ⟨rfl,rfl,by simp[Frame.enter],rfl⟩ rfl rfl rfl MU rfl (by kernel_rfl) mwd (λa w ai aj=>aj.Rt (by rw[ai];exact b.ZO)) (λS g J=>?_);have av:=J.view v f R2;have B:=J.Vp.Tj;have ak:=Lg b J.spec;have T:=B.Y7;have X:=B.wk;have Y:=B.sv;have aw:=B.nw;by_cases Z:g.nw=0\/g.Y7=1\/g.wk=1\/g.sv=1
    .refine .inr ⟨.ch k .done .work,by rw[Zn];exact .Af Z,λaa al=>?_⟩;rw[WK];refine V.Zo (d _ _ _) ?_;refine W.part (A:=[]) Ρ [4] [] rfl λR j=>?_;(try simp);(repeat (rw[Ν];simp));(try simp);apply j;refine W.ZF ?_;refine Y1 ?_;refine W.forget [(0,.z (ptr m 0)),(4,.z (.int .i32 (mwd g)))] I (.stop ?_);exact L aa g _ U T X Y U (.inl ⟨Z,rfl⟩)
    .refine .inl ?_;unfold V3;rw[UX];refine V.Zo (d _ _ _) ?_;refine W.part (A:=[]) Ρ [4] [] rfl λR j=>?_;(try simp);(repeat (rw[Ν];simp));(try simp);apply j;refine W.ZF ?_;refine Y1 ?_;refine W.forget [(0,.z (ptr m 0)),(4,.z (.int .i32 (mwd g)))] I (.stop ?_);exact L S g _ U T X Y U (.inr ⟨U,U,U,U,rfl⟩)
   .have C:=y.Vp.Tj
    have ak:=Lg b y.spec
    have f1:=C.Y7;have f2:=C.wk;have f3:=C.sv;have f4:=C.nw
    have f5:f.Y7=0/\f.wk=0/\f.sv=0/\f.nw=a.nw:=by
     rw[P] at hv;simp only[mwd,WJ] at hv;omega
    refine⟨{f with nw:=f.nw-1,wk:=1},.ch k .us .work,?_,rfl,⟨rfl,rfl,rfl⟩,by rw[Zn];exact .Ag U U U U,λS al=>?_⟩
    .simp[R1,f5]
    .rw[WK];refine V.Zo (d _ _ _) ?_;refine W.ZF ?_;refine Α rfl ?_;refine Y1 ?_;refine W.Zg ?_;refine Xu [0,1,2] [3] ?_;refine W.stop ?_;refine V.CX (d _ _ _).here (sp:=sp) b.spec (by rw[Zn];exact id) b.ZO (vs:=[ptr m 1,.bool false,.int .i64 2]) rfl ⟨⟨rfl,rfl,by simp[Frame.enter],rfl⟩,CN,⟨_,rfl⟩,rfl,rfl,rfl⟩ (λaa ab am=>?_);have an:=am.Vp.Tj;refine⟨by have:=an.YE;omega,{ab with YE:=ab.YE+1},.ch k .done .work,rfl,rfl,⟨rfl,rfl,rfl⟩,by rw[Zn];exact .post,λax ay=>?_⟩;rw[WK];refine V.Zo (d _ _ _) ?_;refine W.ZF (.stop ?_);exact Gk b D rfl
theorem ve (e:Vo x s m sp) (i:Le Q mn x c rest H s k 1) {a:ε} {φ:Nat} (K:a.toSpec=sp) (l:a.Y7=0) (n:a.wk<=1) (o:a.sv<=1) (p:a.nw<7)
  (u:(a.sv=0/\(a.nw=0\/a.wk=1)/\t=.ch k .done .work)\/(a.sv=0/\0<a.nw/\a.wk=0/\t=.ch k .uc .work)\/(a.sv=1/\t=.ch k .us .work)) :
  Zd prog Q mn (ZI x s t (some (φ,a)) 1) (Frame.enter prog 215 #[ptr m 0,.int .i32 (mwd a)] .normal) (c::rest) H:=by
 letI:ZX:=XU;have f:=e.seq;have g:=vf a.wk U a.sv U a.nw U;have b:=Gu 0 U a.wk U a.sv U a.nw U;have v:mwd a=WJ 0 a.wk a.sv a.nw:=by rw[R1,l]
 rw[<-v] at g b;refine V.Rr (z:=one _) (vs:=[ptr m 0,.int .i32 (mwd a)]) (S:=Xz) func215 rfl (MT H) (by simp[ntmps215]) ?_ _ rfl;refine V.Zo (f _ _ _) ?_;rcases u with⟨d,j,rfl⟩|⟨d,j,w,rfl⟩|⟨d,rfl⟩
 .rw[d] at b;refine Wi (Υ g b) ?_;refine W.loop ?_;refine W.forget [(0,.z (ptr m 0)),(4,.z (.int .i32 (mwd a)))] I (.stop ?_);exact CC e i (φ+1) φ a _ (Qg _) U n o p (.inl ⟨j.imp id λh=>.inr (.inl h),rfl⟩)
 .rw[d] at b;refine Wi (Υ g b) ?_;refine W.loop ?_;refine W.forget [(0,.z (ptr m 0)),(4,.z (.int .i32 (mwd a)))] I (.stop ?_);exact CC e i (φ+1) φ a _ (Qg _) U n o p (.inr ⟨j,l,w,d,rfl⟩)
 .rw[d] at b;refine Wi (Υ g b) ?_;refine W.Zg ?_;refine Xu [0,1,2] [3] ?_;refine W.stop ?_;refine V.CX (f _ _ _).here (sp:=sp) e.spec (by rw[Zn];exact id) e.ZO (vs:=[ptr m 1,.bool true,.int .i64 2]) rfl ⟨⟨rfl,rfl,by simp[Frame.enter],rfl⟩,CN,⟨_,rfl⟩,rfl,rfl,rfl⟩ (λL r A=>?_);have B:=A.Vp.Tj;refine⟨by have:=B.YE;omega,{r with YE:=r.YE+1},.ch k .done .work,rfl,rfl,⟨rfl,rfl,rfl⟩,by rw[Zn];exact .post,λM N=>?_⟩;rw[WK];refine V.Zo (f _ _ _) ?_;refine W.ZF (.stop ?_);refine V.ID (f _ _ _) rfl rfl rfl rfl func215 rfl λC D E F J=>?_;obtain rfl:D=[]:=YL.1 J.len;rintro y rfl;exact i _ C E F.ext
end
noncomputable def Ld:Code:=f176.body.getD .skip
theorem vd:(prog.funcs[176]?).any (·.norace)=true:=by kernel_rfl
section
variable {Q:Value->Prop} {mn:Bool} {x:ZZ} {c:Frame} {rest:List Frame} {S:μ} {B:Z8} {σ:Ο} {H:Χ} {s m k:Nat} {sp:Spec} {v:Option (Nat×ε)} {t:Tok}
abbrev CB (Q:Value->Prop) (mn:Bool) (x:ZZ) (c:Frame) (rest:List Frame) (H:Χ) (s m:Nat) (t:Tok) (v:Option (Nat×ε)) (d:Nat) (K:List Item) (env:ω):Prop:=
 V prog Q mn (one (ZI x s t v d)) (Frame.enter prog 176 #[ptr m 0] .normal) (c::rest) 21 ⟨Xz,[],H,[],0⟩ K env []
theorem CA {c:μ} {H H':Χ} (h:Ext Xz [] H c [] H'):Ext Xz [] H Xz [] H':=
 ⟨λb o v h=>(by cases h),λb a d=>h.Xf b a d,λb a=>h.blocks b a,λb o v h=>(by cases h),h.grow⟩
theorem Cz (b:Vo x s m sp) (d:Le Q mn x c rest H s k 0) {env:ω}:CB Q mn x c rest H s m (.ch k .done .work) v 1 [.code (Yq [1,1,1] Ld)] env:=by
 letI:ZX:=XU;have a:=b.seq;refine V.Zo (a _ _ _) ?_;unfold Ld;refine W.Zg (.stop ?_);refine V.enable (a _ _ _).here (UP _) ⟨⟨rfl,rfl,by simp[Frame.enter],rfl⟩,O6,⟨_,rfl⟩,rfl,rfl,rfl⟩ ?_;rw[Ll];refine V.Zo (a _ _ _) ?_;refine W.ZF (.stop ?_);refine V.ID (a _ _ _) rfl rfl rfl rfl func176 rfl λe f g h i=>?_;obtain rfl:f=[]:=YL.1 i.len;rintro y rfl;exact d _ e g h.ext
theorem vc (d:Vo x s m sp) (Y:Holds S B σ H) {L:List Nat}
  (Z:∀(F:μ) (H':Χ),Ext S [] H F [] H'->Holds F [] [] H'->∃g E,Split H' g E/\sp.XQ (L++[k]) E/\Le Q mn x c rest g s k 0) :
  Zd prog Q mn (ZI x s (.ch k (.YJ L) .work) v 0) (Frame.enter prog 176 #[ptr m 0] .normal) (c::rest) H:=by
 letI:ZX:=XU;have e:=d.seq;refine V.Rr (z:=one _) (vs:=[ptr m 0]) func176 rfl Y (by simp[ntmps176]) ?_ _ rfl;refine V.Zo (e _ _ _) ?_;refine Y1 ?_;refine Α rfl ?_;refine Y1 ?_;refine W.Zg ?_;refine Xu [0,1,2] [3] ?_;refine W.stop ?_;refine V.MV (e _ _ _).here (sp:=sp) d.spec (by rw[Zn];exact id) ⟨rfl,rfl,by simp[Frame.enter],rfl⟩ rfl rfl rfl MU rfl vd mwd (λJ w n o=>o.Rt (by rw[n];exact d.ZO)) (λaD aE aF=>.inl ?_);unfold V3;rw[UX];refine V.Zo (e _ _ _) ?_;refine W.ZF ?_;refine Y1 ?_;refine W.forget [(0,.z (ptr m 0))] I ?_;refine W.Zg ?_;refine Xu [0] [1,2] ?_;refine W.stop ?_;refine V.conv (e _ _ _).here (sp:=sp) d.spec (by rw[Zn];exact id) ⟨rfl,rfl,by simp[Frame.enter],rfl⟩ rfl rfl rfl Gr O5 Gq rfl (λJ w n o=>⟨_,o.Rt (by rw[n];exact d.ZO)⟩) (λφ J aG=>?_);unfold V3;rw[UX];refine V.Hu d.rel rfl (sp:=sp) (L:=L) d.spec d.ZO Zn ⟨⟨rfl,rfl,by simp[Frame.enter],rfl⟩,CU,⟨_,rfl⟩,rfl,rfl,rfl⟩ λaa ab g t1 ad p=>?_;obtain rfl:ab=[]:=YL.1 p.holds.len;obtain⟨r,E,ae,af,K⟩:=Z aa g ad.ext p.holds;refine⟨r,E,ae,af,?_⟩;rw[WK];refine V.here (x:=one _) (S:=Xz) (B:=[]) (σ:=[]) (m:=0) (nt:=21) ?_ (p.none I) _ rfl;refine V.Zo (e _ _ _) ?_;refine W.ZF ?_;refine Y1 ?_;refine W.Zg (.stop ?_);refine V.disable (e _ _ _).here ⟨⟨rfl,rfl,by simp[Frame.enter],rfl⟩,Lj,⟨_,rfl⟩,rfl,rfl,rfl⟩ ?_;rw[Lm];refine V.Zo (e _ _ _) ?_;refine W.ZF ?_;refine Y1 ?_;refine W.Zg ?_;refine Xu [0,1,2] [3,4] ?_;refine W.stop ?_;refine V.C3 (e _ _ _).here (UP _) (sp:=sp) d.spec (by rw[Zn];exact id) d.ZO ⟨⟨rfl,rfl,by simp[Frame.enter],rfl⟩,CR,⟨_,rfl⟩,rfl,rfl,rfl⟩ (λaH b u=>?_);have f:=u.Vp.Tj;rw[Zn] at f;have ag:=f.hold rfl;have aI:=Lg d u.spec;have f1:=f.wk;have f2:=f.sv;have f3:=f.nw;have M:mwd {b with Y7:=0}=i32.wrap (mwd b+-1):=by simp only[mwd,IntKind.wrap_i32,ag];omega
 have N:∀(t:Tok) (O:Nat),(b.sv=0/\(b.nw=0\/b.wk=1)/\t=.ch k .done .work)\/(b.sv=0/\0<b.nw/\b.wk=0/\t=.ch k .uc .work)\/(b.sv=1/\t=.ch k .us .work)->
   CB Q mn x c rest r s m t (some (O,{b with Y7:=0})) 1 [.code (Yq [1,1,0] Ld),.code (Yq [1,1,1] Ld)] [(0,.z (ptr m 0)),(2,.z (.int .i32 (mwd {b with Y7:=0})))]:=λt O P=>by
  refine V.Zo (e _ _ _) ?_;unfold Ld;refine Y1 ?_;by_cases i:mwd {b with Y7:=0}=0
  .refine Wi i ?_;have ah:t=.ch k .done .work:=by
    simp only[mwd] at i;rcases P with⟨_,_,h⟩|⟨_,h,_⟩|⟨h,_⟩
    .exact h
    .omega
    .omega
   subst ah;exact .stop (Cz d K)
  .have ai:(mwd {b with Y7:=0} != 0)=true:=by simpa using i
   refine Wi (Υ i ai) ?_;refine W.Zg ?_;refine Xu [0,1] [2] ?_;refine W.stop ?_;refine V.call (e _ _ _) ⟨rfl,rfl,by simp[Frame.enter],rfl⟩ rfl rfl rfl ⟨_,func215,rfl,rfl⟩ λaJ aj aK t4 aL ak R al=>?_;obtain rfl:=TI (l:=[ptr m 0,.int .i32 (mwd {b with Y7:=0})]) al;obtain rfl:aj=[]:=YL.1 R.holds.len;rintro y rfl;refine ve d (λaM aN am an=>?_) (by exact u.spec) rfl f1 f2 (by show b.nw<7;omega) P;rw[VV rfl];have ao:Ext Xz [] r Xz [] am:=(CA ak.ext).trans (CA an);refine V.here (x:=one _) (S:=Xz) (B:=[]) (σ:=[]) (m:=0) (nt:=21) ?_ ((R.put (a:=SB) rfl (.z _)).none I) _ rfl;refine V.Zo (e _ _ _) ?_;refine W.ZF (.stop ?_);exact Cz d λap aq ar au=>K ap aq ar (ao.trans au)
 by_cases T:b.sv=1
 .refine⟨{b with Y7:=0},.ch k .us .work,M,rfl,⟨rfl,rfl,rfl⟩,by rw[Zn];exact .Ah T,λC _=>?_⟩;rw[WK];refine V.Zo (e _ _ _) ?_;refine W.part (A:=[]) Ρ [4] [] rfl λav D=>?_;(try simp);(repeat (rw[Ν];simp));(try simp);apply D;refine W.ZF ?_
  first|apply W5|apply wb|apply Wz|apply wd
  refine W.forget [(0,.z (ptr m 0)),(2,.z (.int .i32 (mwd {b with Y7:=0})))] I (.stop ?_);exact N _ C (.inr (.inr ⟨T,rfl⟩))
 .have j:b.sv=0:=U
  have step:∀(t:Tok),(b.sv=0/\(b.nw=0\/b.wk=1)/\t=.ch k .done .work)\/(b.sv=0/\0<b.nw/\b.wk=0/\t=.ch k .uc .work)->Act b (.ch k .fin .work) {b with Y7:=0} t->∃o' t',mwd o'=i32.wrap (mwd b+-1)/\o'.YE=b.YE/\MW b o'/\Act b (.ch k .fin .work) o' t'/\((b.sv=0/\(b.nw=0\/b.wk=1)/\t'=.ch k .done .work)\/(b.sv=0/\0<b.nw/\b.wk=0/\t'=.ch k .uc .work))/\o'={b with Y7:=0}:=λt aw ax=>⟨_,t,M,rfl,⟨rfl,rfl,rfl⟩,ax,aw,rfl⟩;obtain⟨o',t',ay,az,aA,aB,aC,rfl⟩:∃o' t',mwd o'=i32.wrap (mwd b+-1)/\o'.YE=b.YE/\MW b o'/\Act b (.ch k .fin .work) o' t'/\((b.sv=0/\(b.nw=0\/b.wk=1)/\t'=.ch k .done .work)\/(b.sv=0/\0<b.nw/\b.wk=0/\t'=.ch k .uc .work))/\o'={b with Y7:=0}:=by
   by_cases X:b.nw=0\/b.wk=1
   .exact step _ (.inl ⟨j,X,rfl⟩) (.Aj j X)
   .exact step _ (.inr ⟨j,U,U,rfl⟩) (.Ai j U U)
  refine⟨_,t',ay,az,aA,by rw[Zn];exact aB,λC _=>?_⟩;rw[WK];refine V.Zo (e _ _ _) ?_;refine W.part (A:=[]) Ρ [4] [] rfl λav D=>?_;(try simp);(repeat (rw[Ν];simp));(try simp);apply D;refine W.ZF ?_
  first|apply W5|apply wb|apply Wz|apply wd
  refine W.forget [(0,.z (ptr m 0)),(2,.z (.int .i32 (mwd {b with Y7:=0})))] I (.stop ?_);exact N _ C (aC.imp id λh=>.inl h)
theorem Zd.leaveD [ZX] {P:Program} {Q:Value->Prop} {mn:Bool} {x:ZZ} {c b:Frame} {rest:List Frame} {H:Χ} {t:Array Value} {ops:Array Oper} {fn:Func} (a:Seq (one x)) (d:b.mode=.run) (e:b.roundOf=none) (f:b.defers=[]) (g:b.kind=.deferred) (i:P.funcs[b.fn]?=some fn) (j:fn.results=#[])
  (k:c.mode=.returning) (h:Zd P Q mn x c rest H):Zd P Q mn x (ο b t [.inRegion ops []]) (c::rest) H:=by
 refine ι.ZF (x:=one x) a d (.P9 a d e (.Hp a rfl f g i ?_)) x rfl;rw[results_none j];refine Ψ.pure' ?_;simp only[k];intro y l;cases l;exact h
theorem vb (h:Vo x s m sp) (p:Holds S B σ H) (r:c.mode=.returning) {L:List Nat}
  (t:∀(j:μ) (H':Χ),Ext S [] H j [] H'->Holds j [] [] H'->∃d E,Split H' d E/\sp.XQ (L++[k]) E/\∀(v:Option (Nat×ε)) (e:μ) (b:Χ),Ext Xz [] d e [] b->Zd prog Q mn (ZI x s (.ch k .done .work) v 0) c rest b) :
  Zd prog Q mn (ZI x s (.ch k (.YJ L) .work) v 0) (Frame.enter prog 145 #[ptr m 0] .deferred) (c::rest) H:=by
 letI:ZX:=XU;have f:=h.seq;rw[SF (body:=f145.body.getD .skip) func145 rfl];refine V.here (x:=one _) (m:=0) (nt:=6) (env:=entry 0 [.z (ptr m 0)]) ?_ (Xw.enter p.bare ⟨rfl,λi a v g n=>?_⟩ (γ _) I) _ rfl
 .refine V.XO (f _ _ _) rfl ?_;simp only[f145,Option.getD_some];refine Y1 ?_;refine W.Zg ?_;refine Xu [0,1,2] [3] ?_;refine W.stop ?_;refine V.call (f _ _ _) ⟨rfl,rfl,by simp[Frame.enter],rfl⟩ rfl rfl rfl ⟨_,func176,rfl,rfl⟩ λR u d t1 T w o hv=>?_;obtain rfl:=TI (l:=[ptr m 0]) hv;obtain rfl:u=[]:=YL.1 o.holds.len;rintro y rfl;refine vc h o.holds (L:=L) λe b A C=>?_;obtain⟨D,E,F,J,K⟩:=t e b (w.ext.trans A) C;refine⟨D,E,F,J,λM N O P=>?_⟩;rw[VV rfl];refine Zd.leaveD (f _ _ _) rfl rfl rfl rfl func145 rfl r ?_;exact K M N O P
 .cases i with
  | zero=>simp at g n;subst g;subst n;exact .z _
  | succ i=>simp at g
end
structure T4 (x:ZZ) (s:Nat) (sp:Spec):Prop where
 rel:x.rel=false
 Z3:x.Z3=λ_=>none
 spec:x.spec s=some sp
 top:sp.top<7
 still:∀a,a≠s->Tl (x.tok a)
theorem T4.seq {x:ZZ} {s:Nat} {sp:Spec} (h:T4 x s sp):∀t v d,@Seq XU (one (ZI x s t v d)):=λt v d=>@Seq.O8 XU _ trivial h.rel h.Z3
abbrev Wk (c w:Nat):Int:=(c:Int)*4294967296+w
theorem Iw:∀c<8,∀w<2,XY .u64 (Wk c w) 2147483648=0:=by decide +kernel
theorem Iv:∀c<8,∀w<2,i32.wrap ((Wk c w).fdiv (2 ^ min 32 u64.bits))=c:=by decide +kernel
theorem Iu:∀c<8,∀w<2,u32.wrap (XY .u64 (Wk c w) 2147483647)=w:=by decide +kernel
theorem va:∀c<7,∀w<2,u64.wrap (Wk c w+4294967296)=Wk (c+1) w:=by decide +kernel
theorem u':∀c<8,∀w<2,0<c->u64.wrap (Wk c w+18446744069414584320)=Wk (c-1) w:=by decide +kernel
theorem u9:∀c<8,u64.wrap (Wk c 0+1)=Wk c 1:=by decide +kernel
theorem Cy:u64.wrap 1=1:=ZY
theorem Cx:u64.wrap (2 ^ min 32 u64.bits)=4294967296:=ZY
theorem Gj:i32.wrap 1=1:=ZY
theorem O4 (a:ε):Y0 a=Wk a.cnt a.wt:=rfl
section
variable {Q:Value->Prop} {mn:Bool} {x:ZZ} {c:Frame} {rest:List Frame} {S:μ} {B:Z8} {σ:Ο} {H:Χ} {s k:Nat} {sp:Spec} {v:Option (Nat×ε)} {t:Tok}
theorem It (b:T4 x s sp) {a:ε} (h:a.toSpec=sp):a.top<7:=by have:=b.top;rw[show a.top=sp.top by rw[<-h]];exact this
def MS (Q:Value->Prop) (mn:Bool) (x:ZZ) (c:Frame) (rest:List Frame) (S:μ) (H:Χ) (r:Value):Prop:=
 ∀(a:μ) (H':Χ),Ext S [] H a [] H'->Holds a [] [] H'->Zd prog Q mn x (c.finish r) rest H'
theorem u7 (f:T4 x s sp) (h:¬W9 t) {d:Int} (i:Holds S B σ H)
  (j:∀φ a,Seen (ZI x s t v 1) s sp φ a->∃o' t',Y0 o'=u64.wrap (Y0 a+d)/\o'.YV=a.YV/\QC a o'/\Act a t o' t'/\∀b,b<φ->MS Q mn (ZI x s t' (some (b,o')) 1) c rest S H (.int .u64 (Y0 o'))) :
  Zd prog Q mn (ZI x s t v 1) (Frame.enter prog 166 #[ptr s 0,.int .u64 d] .normal) (c::rest) H:=by
 letI:ZX:=XU;have e:=f.seq;refine V.Rr (z:=one _) (vs:=[ptr s 0,.int .u64 d]) func166 rfl i (by simp[ntmps166]) ?_ _ rfl;refine V.Zo (e _ _ _) ?_;refine Wj ?_;refine W.Zg ?_;refine Xu [0,1,2,3] [4,5] ?_;refine W.stop ?_;refine V.GA (e _ _ _).here (UP _) (sp:=sp) f.spec (by rw[Zn];exact h) ⟨⟨rfl,rfl,by simp[Frame.enter],rfl⟩,CQ,⟨_,rfl⟩,rfl,rfl,rfl⟩ (λφ a k=>?_);obtain⟨o',t',l,m,n,o,p⟩:=j φ a k;refine⟨o',t',l,m,n,by rw[Zn];exact o,λb r=>?_⟩;rw[WK];refine V.Zo (e _ _ _) ?_;refine W.part (A:=[]) Ρ [5] [] rfl λF u=>?_;(try simp);(repeat (rw[Ν];simp));(try simp);apply u;refine W.ZF (.stop ?_);refine V.PK (e _ _ _) rfl rfl rfl rfl func166 rfl rfl λw C D E g=>?_;obtain rfl:C=[]:=YL.1 g.len;rintro y rfl;exact p b r w D E.ext g
theorem Gi (l:T4 x s sp) (m:¬W9 t) (n:Holds S B σ H)
  (o:∀φ a,Seen (ZI x s t v 1) s sp φ a->MS Q mn (ZI x s t (some (φ,a)) 1) c rest S H (.int .u64 (Y0 a))\/∃t',Act a t a t'/\∀e,e<φ->MS Q mn (ZI x s t' (some (e,a)) 1) c rest S H (.int .u64 (Y0 a))) :
  Zd prog Q mn (ZI x s t v 1) (Frame.enter prog 168 #[ptr s 0] .normal) (c::rest) H:=by
 letI:ZX:=XU;have b:=l.seq;refine V.Rr (z:=one _) (vs:=[ptr s 0]) func168 rfl n (by simp[ntmps168]) ?_ _ rfl;refine V.Zo (b _ _ _) ?_;refine Wj ?_;refine W.Zg ?_;refine Xu [0,1,2] [3,4] ?_;refine W.stop ?_;refine V.GB (b _ _ _).here (UP _) (sp:=sp) l.spec (by rw[Zn];exact m) ⟨⟨rfl,rfl,by simp[Frame.enter],rfl⟩,CP,⟨_,rfl⟩,rfl,rfl,rfl⟩ (λφ a p=>(o φ a p).imp (λh=>?_) (λ⟨t',r,u⟩=>⟨t',by rw[Zn];exact r,λe w=>?_⟩))
 .unfold V3;rw[UX];refine V.Zo (b _ _ _) ?_;refine W.part (A:=[]) Ρ [4] [] rfl λC f=>?_;(try simp);(repeat (rw[Ν];simp));(try simp);apply f;refine W.ZF (.stop ?_);refine V.PK (b _ _ _) rfl rfl rfl rfl func168 rfl rfl λg i j k d=>?_;obtain rfl:i=[]:=YL.1 d.len;rintro y rfl;exact h g j k.ext d
 .rw[WK];refine V.Zo (b _ _ _) ?_;refine W.part (A:=[]) Ρ [4] [] rfl λC f=>?_;(try simp);(repeat (rw[Ν];simp));(try simp);apply f;refine W.ZF (.stop ?_);refine V.PK (b _ _ _) rfl rfl rfl rfl func168 rfl rfl λg i j k d=>?_;obtain rfl:i=[]:=YL.1 d.len;rintro y rfl;exact u e w g j k.ext d
theorem u6 (o:T4 x s sp) (p:¬W9 t) (r:Holds S B σ H) {e g:Int}
  (u:∀φ a,Seen (ZI x s t v 1) s sp φ a->¬Y0 a=e->MS Q mn (ZI x s t (some (φ,a)) 1) c rest S H (.bool false))
  (w:∀φ a,Seen (ZI x s t v 1) s sp φ a->Y0 a=e->∃o' t',Y0 o'=g/\o'.YV=a.YV/\QC a o'/\Act a t o' t'/\∀f,f<φ->MS Q mn (ZI x s t' (some (f,o')) 1) c rest S H (.bool true)) :
  Zd prog Q mn (ZI x s t v 1) (Frame.enter prog 179 #[ptr s 0,.int .u64 e,.int .u64 g] .normal) (c::rest) H:=by
 letI:ZX:=XU;have b:=o.seq;refine V.Rr (z:=one _) (vs:=[ptr s 0,.int .u64 e,.int .u64 g]) func179 rfl r (by simp[ntmps179]) ?_ _ rfl;refine V.Zo (b _ _ _) ?_;refine Wj ?_;refine W.Zg ?_;refine Xu [0,1,2,3,4] [5,6] ?_;refine W.stop ?_;refine V.v9 (b _ _ _).here (UP _) (sp:=sp) o.spec (by rw[Zn];exact p) ⟨⟨rfl,rfl,by simp[Frame.enter],rfl⟩,vA,⟨_,rfl⟩,rfl,rfl,rfl⟩ (λφ a i hv=>?_) (λφ a i hv=>?_)
 .have h:=u φ a i hv;unfold V3;rw[UX];refine V.Zo (b _ _ _) ?_;refine W.part (A:=[]) Ρ [6] [] rfl λC j=>?_;(try simp);(repeat (rw[Ν];simp));(try simp);apply j;refine W.ZF (.stop ?_);refine V.PK (b _ _ _) rfl rfl rfl rfl func179 rfl rfl λk l m n d=>?_;obtain rfl:l=[]:=YL.1 d.len;rintro y rfl;exact h k m n.ext d
 .obtain⟨o',t',D,E,F,I,J⟩:=w φ a i hv;refine⟨o',t',D,E,F,by rw[Zn];exact I,λf K=>?_⟩;rw[WK];refine V.Zo (b _ _ _) ?_;refine W.part (A:=[]) Ρ [6] [] rfl λC j=>?_;(try simp);(repeat (rw[Ν];simp));(try simp);apply j;refine W.ZF (.stop ?_);refine V.PK (b _ _ _) rfl rfl rfl rfl func179 rfl rfl λk l m n d=>?_;obtain rfl:l=[]:=YL.1 d.len;rintro y rfl;exact J f K k m n.ext d
end
theorem Xw.O3 {m nt:Nat} {S a:μ} {B:Z8} {H H':Χ} {env:ω} {t:Array Value} (h:Xw m nt S B H [] env t) (b:∀p∈env,∃v,p.2=Ω.z v) (c:Holds a [] [] H'):Xw 0 nt a [] H' [] env t:=⟨c,Lf b h.Zm,h.size,γ _⟩
theorem Zd.Gh [ZX] {P:Program} {d:Value->Prop} {mn:Bool} {x:ZZ} {c b:Frame} {rest:List Frame} {H:Χ} {t:Array Value} {k:List Item} {fn:Func} {f:FuncId} (e:Seq (one x)) (j:Seq (one {x with deaf:=x.deaf-1})) (hd:0<x.deaf) (g:b.mode=.run) (i:b.roundOf=none) (l:b.defers=[Go.Conc.dcall f #[]]) (m:b.kind=.normal) (n:P.funcs[b.fn]?=some fn) (o:fn.results=#[])
  (p:Entry P f (λ_=>do mark .enable;pure Extern.Race.none_)) (h:Zd P d mn {x with deaf:=x.deaf-1} (c.finish (.tuple #[])) rest H):Zd P d mn x (ο b t (.code .ret::k)) (c::rest) H:=by
 refine ι.ret (x:=one x) e g i (λy a=>?_) x rfl;cases a;refine Zd.vY e.here hd g i l p ?_;refine ι.back (f:={ο {b with defers:=[]} t (.code .ret::k) with mode:=.returning}) (x:=one {x with deaf:=x.deaf-1}) j rfl rfl (.inl m) n ?_ _ rfl;rw[results_none o];refine Ψ.pure' (λy a=>?_);cases a;exact h
section
variable {Q:Value->Prop} {mn:Bool} {x:ZZ} {c:Frame} {rest:List Frame} {S:μ} {B:Z8} {σ:Ο} {H:Χ} {s n p:Nat} {sp:Spec} {v:Option (Nat×ε)} {t:Tok}
theorem u5 (g:T4 x s sp) (L:n<sp.top) (M:Holds S B σ H)
  (N:∀v,MS Q mn (ZI x s (.par (n+1) (p+1) .add) v 0) c rest S H (.tuple #[])) :
  Zd prog Q mn (ZI x s (.par n p .add) v 0) (Frame.enter prog 140 #[ptr s 0,.int .i64 1] .normal) (c::rest) H:=by
 letI:ZX:=XU;have e:=g.seq;refine V.Rr (z:=one _) (vs:=[ptr s 0,.int .i64 1]) func140 rfl M (by simp[ntmps140]) ?_ _ rfl;refine V.Zo (e _ _ _) ?_;refine Wj ?_;refine W.Zg (.stop ?_);refine V.disable (e _ _ _).here ⟨⟨rfl,rfl,by simp[Frame.enter],rfl⟩,Lj,⟨_,rfl⟩,rfl,rfl,rfl⟩ ?_;rw[Lm];refine V.Zo (e _ _ _) ?_;refine W.ZF ?_;refine Y1 ?_;refine W.Zg (.stop ?_);refine V.Gy (e _ _ _) ⟨rfl,rfl,by simp[Frame.enter],rfl⟩ rfl rfl rfl ?_;refine V.Zo (e _ _ _) ?_;refine W.ZF ?_;refine Wj ?_;refine W.Zg (.stop ?_);refine V.IC (e _ _ _) (vs:=[]) ⟨⟨rfl,rfl,by simp[Frame.enter],rfl⟩,CS,⟨_,rfl⟩,rfl,rfl,rfl⟩ ?_;refine V.Zo (e _ _ _) ?_;refine W.ZF ?_;refine Wj ?_;refine W.Zg ?_;refine W.part (A:=[]) Ρ [0,1,2,3,4,5] [6,7] rfl λO k=>?_;(try simp);(repeat (rw[Ν];simp[Cy,Cx]));(try simp[Cy,Cx]);apply k;refine W.stop ?_;refine V.call (e _ _ _) ⟨rfl,rfl,by simp[Frame.enter],rfl⟩ rfl rfl rfl ⟨_,func166,rfl,rfl⟩ λam P an t1 ao R o hv=>?_;obtain rfl:=TI (l:=[ptr s 0,.int .u64 4294967296]) hv;obtain rfl:P=[]:=YL.1 o.holds.len;rintro y rfl;refine u7 g id o.holds λφ f j=>?_;have u:=j.Vp.PH;rw[Zn] at u;obtain⟨C,ap,aq,ar,T⟩:=u.add n p rfl;have X:=It g j.spec;have D:n<f.top:=by rw[show f.top=sp.top by rw[<-j.spec]];exact L
 have Y:∀a b c d:Nat,a=b+1->b<=c->c<d->d<7->a<8/\b<7/\0<a/\¬a=0:=λa b c d i au av aw=>U;obtain⟨cc,r⟩:=Η (f.cnt+1);obtain⟨t,Z,aa,ax⟩:=Y cc f.cnt n f.top r T D X;have E:Y0 {f with cnt:=cc}=Wk cc 0:=by rw[O4];simp only[C]
 refine⟨{f with cnt:=cc},.par (n+1) (p+1) .add,?_,rfl,⟨rfl,rfl,rfl⟩,by rw[r];exact .add D,λay az ab ad ae af=>?_⟩
 .rw[E,O4,C,va f.cnt Z 0 ZY,r]
 have f1:=Iw cc t 0 ZY
 have f2:=Iv cc t 0 ZY
 have f3:=Iu cc t 0 ZY;rw[E];generalize Wk cc 0=w at f1 f2 f3;rw[VV rfl];refine V.here (x:=one _) (m:=0) (nt:=117) ?_ ((o.put (a:=.z (.int .u64 w)) rfl (.z _)).O3 I af) _ rfl;have F:∀(v:Option (Nat×ε)) (env:ω) (K:List Item),V prog Q mn (one (ZI x s (.par (n+1) (p+1) .add) v 1)) {Frame.enter prog 140 #[ptr s 0,.int .i64 1] .normal with defers:=[Go.Conc.dcall 161 #[]]} (c::rest) 117 ⟨ab,[],ad,[],0⟩ (.code .ret::K) env []:=λv env K ag ah ai t3 aj J=>by
  rintro y rfl;obtain rfl:ah=[]:=YL.1 J.holds.len;exact Zd.Gh (e _ _ _) (e _ _ 0) (UP _) rfl rfl rfl rfl func140 rfl O6 (N v ag ai ((R.ext.trans ae).trans aj.ext) J.holds)
 refine V.Zo (e _ _ _) ?_;refine W.part (A:=[]) Ρ [7] [] rfl λO k=>?_;(try simp);(repeat (rw[Ν];simp));(try simp);apply k;refine W.ZF ?_;by_cases i:cc=1
 .refine Wi (Υ f1 (Υ f2 (Υ f3 (Υ @Gj i)))) ?_;refine W.Zg ?_;refine Xu [0,1,2] [3,4] ?_;refine W.stop ?_;refine V.conv (e _ _ _).here (sp:=sp) g.spec (by rw[Zn];exact id) ⟨rfl,rfl,by simp[Frame.enter],rfl⟩ rfl rfl rfl CM O5 CL rfl (λf w aA ak=>⟨_,ak.II⟩) (λφ f j=>?_);unfold V3;rw[UX];refine V.wa g.rel Zn I ⟨⟨rfl,rfl,by simp[Frame.enter],rfl⟩,vC,⟨_,rfl⟩,rfl,rfl,rfl⟩ ?_;refine V.Zo (e _ _ _) ?_;refine W.ZF ?_;refine Wi (Υ f1 (Υ f2 (Υ f3 (Υ @Gj i)))) ?_;exact .stop (F _ _ _)
 .have al:¬(cc:Int)=1:=λh=>i (by exact_mod_cast h);refine Wi (Υ f1 (Υ f2 (Υ f3 (Υ @Gj (Υ i (Υ al aa)))))) ?_;exact .stop (F _ _ _)
end
noncomputable def Lc:Code:=f146.body.getD .skip
noncomputable def S5:Code:=Yq [1,0,0] Lc
noncomputable def N0:List Item:=[.inLoop S5,.inBlock 0]
theorem Cw:XY .u64 0 2147483648=0:=ZY
theorem Cv:XY .u64 0 2147483647=0:=ZY
theorem Is:u32.wrap 0=0:=ZY
theorem Cu:i32.wrap 0=0:=ZY
section
variable {Q:Value->Prop} {mn:Bool} {x:ZZ} {c:Frame} {rest:List Frame} {S:μ} {B:Z8} {σ:Ο} {H:Χ} {s n p:Nat} {sp:Spec} {v:Option (Nat×ε)} {t:Tok}
abbrev O2 (Q:Value->Prop) (mn:Bool) (x:ZZ) (c:Frame) (rest:List Frame) (S:μ) (H:Χ) (s:Nat) (t:Tok) (v:Option (Nat×ε)) (d:Nat) (K:List Item) (env:ω):Prop:=
 V prog Q mn (one (ZI x s t v d)) (Frame.enter prog 146 #[ptr s 0] .normal) (c::rest) 84 ⟨S,[],H,[],0⟩ K env []
def QA (Q:Value->Prop) (mn:Bool) (x:ZZ) (c:Frame) (rest:List Frame) (S:μ) (H:Χ) (s n:Nat) (sp:Spec):Prop:=
 ∀(d:μ) (H':Χ) (e f:List Nat) (b a:Χ),Ext S [] H d [] H'->Holds d [] [] H'->e.Perm (List.range n)->Ui sp.D e b->(sp.ZO≠none->f.Perm (List.range n)/\sp.XQ f a)->(sp.ZO=none->a=Χ.empty)->Apart H' b->Apart H' a->Apart b a->(∃w,Fits H' w/\Fits b w/\Fits a w)->
  ∀(v:Option (Nat×ε)) (h:μ) (g:Χ),Ext Xz [] (join (join H' b) a) h [] g->Zd prog Q mn (ZI x s (.par n 0 .ZP) v 0) (c.finish (.tuple #[])) rest g
theorem QA.later {a:μ} {b:Χ} (h:QA Q mn x c rest S H s n sp) (d:Ext S [] H a [] b):QA Q mn x c rest a b s n sp:=
 λe H' f g i j k l m o p r t u w y v A B C=>h e H' f g i j (d.trans k) l m o p r t u w y v A B C
theorem Ct (b:T4 x s sp) (d:∀(v:Option (Nat×ε)) (e:μ) (a:Χ),Ext Xz [] H e [] a->Zd prog Q mn (ZI x s (.par n 0 .ZP) v 0) (c.finish (.tuple #[])) rest a) {K:List Item} {env:ω}:O2 Q mn x c rest Xz H s (.par n 0 .ZP) v 0 (.code .ret::K) env:=by
 letI:ZX:=XU;have f:=b.seq;refine V.Gz (f _ _ _) rfl rfl rfl rfl func146 rfl λg h i j k=>?_;obtain rfl:h=[]:=YL.1 k.len;rintro y rfl;exact d v g i j.ext
theorem Cs (a:T4 x s sp) (e:QA Q mn x c rest S H s n sp):O2 Q mn x c rest S H s (.par n 0 .SV) v 1 (.code (Yq [0,1] S5)::.inBlock 1::N0) [(0,.z (ptr s 0)),(2,.z (.int .u64 0))]:=by
 letI:ZX:=XU;have b:=a.seq;refine V.Zo (b _ _ _) ?_;unfold S5 Lc;refine Wi (Υ @Cw (Υ @Cv (Υ @Is @Cu))) ?_;refine W.Zg (.stop ?_);refine V.enable (b _ _ _).here (UP _) ⟨⟨rfl,rfl,by simp[Frame.enter],rfl⟩,O6,⟨_,rfl⟩,rfl,rfl,rfl⟩ ?_;rw[Ll];refine V.Zo (b _ _ _) ?_;refine W.ZF ?_;refine W.Zg ?_;refine Xu [0] [1,2] ?_;refine W.stop ?_;refine V.conv (b _ _ _).here (sp:=sp) a.spec (by rw[Zn];exact id) ⟨rfl,rfl,by simp[Frame.enter],rfl⟩ rfl rfl rfl Gp O5 Gn rfl (λf w K g=>⟨_,g.Tk⟩) (λφ f L=>?_);unfold V3;rw[UX];refine V.J5 a.rel rfl (sp:=sp) a.spec Zn (.inl rfl) ⟨⟨rfl,rfl,by simp[Frame.enter],rfl⟩,Iz,⟨_,rfl⟩,rfl,rfl,rfl⟩ λh i j t1 k l o p r d t u y A C D E F=>?_;rw[WK];obtain rfl:i=[]:=YL.1 d.holds.len;have J:=e h j k l o p r.ext d.holds t u y A C D E F;refine V.here (x:=one _) (S:=Xz) (B:=[]) (σ:=[]) (m:=0) (nt:=84) ?_ (d.none I) _ rfl;refine V.Zo (b _ _ _) ?_;refine W.ZF ?_;refine Wi (Υ @Cw (Υ @Cv (Υ @Is @Cu))) ?_;exact .stop (Ct a J)
theorem u4 (e:T4 x s sp) (p:QA Q mn x c rest S H s n sp):O2 Q mn x c rest S H s (.par n 0 .w4) v 1 (.code (Yq [0,1,1,1,1,1,0,1,1,1,1] S5)::.inBlock 1::N0) [(0,.z (ptr s 0))]:=by
 letI:ZX:=XU;have b:=e.seq;refine V.Zo (b _ _ _) ?_;unfold S5 Lc;refine Y1 ?_;refine W.Zg ?_;refine Xu [0,1,2] [3,4,5] ?_;refine W.stop ?_;refine V.call (b _ _ _) ⟨rfl,rfl,by simp[Frame.enter],rfl⟩ rfl rfl rfl ⟨_,func168,rfl,rfl⟩ λi f j t1 ab g d hv=>?_;obtain rfl:=TI (l:=[ptr s 0]) hv;obtain rfl:f=[]:=YL.1 d.holds.len;rintro y rfl;refine Gi e id d.holds λφ h k=>.inl λad ae r t=>?_;have o:=k.Vp.PH;rw[Zn] at o;obtain⟨u,af,C⟩:=o.fin n 0 (.inr (.inl rfl));have D:Y0 h=0:=by simp only[Y0,u,C];rfl
 rw[D,VV rfl];have E:=p.later (g.ext.trans r);refine V.here (x:=one _) (m:=0) (nt:=84) ?_ ((d.put (a:=.z (.int .u64 0)) rfl (.z _)).O3 I t) _ rfl;refine V.Zo (b _ _ _) ?_;refine W.part (A:=[]) Ρ [4,5] [] rfl λag F=>?_;(try simp);(repeat (rw[Ν];simp));(try simp);apply F;refine W.ZF ?_;refine Wj ?_;refine W.Zg (.stop ?_);refine V.enable (b _ _ _).here (UP _) ⟨⟨rfl,rfl,by simp[Frame.enter],rfl⟩,O6,⟨_,rfl⟩,rfl,rfl,rfl⟩ ?_;rw[Ll];refine V.Zo (b _ _ _) ?_;refine W.ZF ?_;refine W.Zg ?_;refine Xu [0] [1,2] ?_;refine W.stop ?_;refine V.conv (b _ _ _).here (sp:=sp) e.spec (by rw[Zn];exact id) ⟨rfl,rfl,by simp[Frame.enter],rfl⟩ rfl rfl rfl Gp O5 Gn rfl (λh w ah J=>⟨_,J.Tk⟩) (λφ h k=>?_);unfold V3;rw[UX];refine V.J5 e.rel rfl (sp:=sp) e.spec Zn (.inr rfl) ⟨⟨rfl,rfl,by simp[Frame.enter],rfl⟩,Iz,⟨_,rfl⟩,rfl,rfl,rfl⟩ λi f j t1 K L M N g d O P R T U X Y Z=>?_;rw[WK];obtain rfl:f=[]:=YL.1 d.holds.len;have aa:=E i j K L M N g.ext d.holds O P R T U X Y Z;refine V.here (x:=one _) (S:=Xz) (B:=[]) (σ:=[]) (m:=0) (nt:=84) ?_ (d.none I) _ rfl;refine V.Zo (b _ _ _) ?_;refine W.ZF ?_;refine Wj ?_;exact .stop (Ct e aa)
theorem u3 {a b d:Nat} (h:a<=b) (c:b<7):a<8/\a<7:=U
theorem u2 {a b:Nat} (h:a<b):¬b=0:=U
theorem u1 (b:T4 x s sp) (f:QA Q mn x c rest S H s n sp) {φ:Nat} {a:ε}:O2 Q mn x c rest S H s (.par n 0 .w3) (some (φ,a)) 1 (.code (Yq [0,1,1,1,1,1,0,1,1,1,0] S5)::.code (Yq [0,1,1,1,1,1,0,1,1,1,1] S5)::.inBlock 1::N0) [(0,.z (ptr s 0)),(5,.z (.bool false))]:=by
 letI:ZX:=XU;have d:=b.seq;have woken:∀v,O2 Q mn x c rest S H s (.par n 0 .w4) v 1 (.code (Yq [0,1,1,1,1,1,0,1,1,1,1] S5)::.inBlock 1::N0) [(0,.z (ptr s 0))]:=λv=>u4 b f;refine V.Zo (d _ _ _) ?_;unfold S5 Lc;refine W.Zg ?_;refine Xu [0,1,2,3] [4] ?_;refine W.stop ?_;refine V.v7 (d _ _ _).here (sp:=sp) b.spec (by rw[Zn];exact id) (vs:=[ptr s 1,.bool false]) rfl (λg e=>by rw[Lk e];exact b.still g e) ⟨⟨rfl,rfl,by simp[Frame.enter],rfl⟩,vv,⟨_,rfl⟩,rfl,rfl,rfl⟩ (λi a j h=>by rw[Zn];exact h) (λi a j h=>?_);refine⟨{a with YV:=a.YV-1},.par n 0 .w4,rfl,rfl,⟨rfl,rfl,rfl⟩,by rw[Zn];exact .wake h,λk l=>?_⟩;rw[WK];refine V.Zo (d _ _ _) ?_;refine W.ZF ?_;refine W.forget [(0,.z (ptr s 0))] I (.stop ?_);exact woken _
theorem uZ (f:T4 x s sp):∀(N φ:Nat) (b:ε) (S:μ) (H:Χ),φ<N->b.toSpec=sp->0<b.cnt->b.cnt<=b.top->b.wt=0->QA Q mn x c rest S H s n sp->
  O2 Q mn x c rest S H s (.par n 0 .add) (some (φ,b)) 1 (.code (Yq [0,1] S5)::.inBlock 1::N0) [(0,.z (ptr s 0)),(2,.z (.int .u64 (Y0 b)))]:=by
 letI:ZX:=XU;have e:=f.seq;intro N
 induction N with
 | zero=>intro φ b S H h;exact absurd h (Nat.not_lt_zero _)
 | succ N ah=>
  intro φ b S H ai P R aj ak g;have al:=It f P;obtain⟨k,aD⟩:=u3 (d:=0) aj al;have f1:=Iw b.cnt k 0 ZY;have f2:=Iv b.cnt k 0 ZY;have f3:=Iu b.cnt k 0 ZY;have f4:=u9 b.cnt k;have T:Y0 b=Wk b.cnt 0:=by rw[O4,ak]
  have U:¬b.cnt=0:=u2 R
  have am:¬(b.cnt:Int)=0:=λh=>U (by exact_mod_cast h);rw[<-T] at f1 f2 f3 f4;have sleep:∀(S H) (φ:Nat) (b:ε),QA Q mn x c rest S H s n sp->O2 Q mn x c rest S H s (.par n 0 .w3) (some (φ,b)) 1 (.code (Yq [0,1,1,1,1,1,0,1,1,1,0] S5)::.code (Yq [0,1,1,1,1,1,0,1,1,1,1] S5)::.inBlock 1::N0) [(0,.z (ptr s 0)),(5,.z (.bool false))]:=λS H φ b g=>u1 f g;have an:∀(S H v),QA Q mn x c rest S H s n sp->O2 Q mn x c rest S H s (.par n 0 .SV) v 1 (.code (Yq [0,1] S5)::.inBlock 1::N0) [(0,.z (ptr s 0)),(2,.z (.int .u64 0))]:=λS H v g=>Cs f g;refine V.Zo (e _ _ _) ?_;unfold S5 Lc;refine Wi (Υ f2 (Υ f3 (Υ U am))) ?_;refine W.Zg ?_;refine W.part (A:=[]) Ρ [0,1,2,3,4,5] [6] rfl λX i=>?_;(try simp);(repeat (rw[Ν];simp[f4]));(try simp[f4]);apply i;refine W.stop ?_;refine V.call (e _ _ _) ⟨rfl,rfl,by simp[Frame.enter],rfl⟩ rfl rfl rfl ⟨_,func179,rfl,rfl⟩ λaE ao aF t1 aG Y o hv=>?_;obtain rfl:=TI (l:=[ptr s 0,.int .u64 (Y0 b),.int .u64 (Wk b.cnt 1)]) hv;obtain rfl:ao=[]:=YL.1 o.holds.len;rintro y rfl;refine u6 f id o.holds (λp r t hv ap aq D E=>?_) (λp r t hv=>?_)
  .have Z:=t.view φ b R2
   have ar:p<N:=by
    rcases OH p φ with h|h
    .exact Kz h (Nat.le_of_lt_succ ai)
    .exact absurd (by rw[Z.2 (Nat.le_antisymm Z.1 h)]) hv
   have u:=g.later (Y.ext.trans D);rw[VV rfl];refine V.here (x:=one _) (m:=0) (nt:=84) ?_ ((o.put (a:=.z (.bool false)) rfl (.z _)).O3 I E) _ rfl;refine V.Zo (e _ _ _) ?_;refine W.ZF ?_;refine Ζ rfl ?_;refine Y1 ?_;refine W.inLoop ?_;refine W.forget [(0,.z (ptr s 0))] I ?_;refine Y1 ?_;refine W.Zg ?_;refine Xu [0,1,2] [3,4] ?_;refine W.stop ?_;refine V.call (e _ _ _) ⟨rfl,rfl,by simp[Frame.enter],rfl⟩ rfl rfl rfl ⟨_,func168,rfl,rfl⟩ λaH au aI t3 aJ aa B av=>?_;obtain rfl:=TI (l:=[ptr s 0]) av;obtain rfl:au=[]:=YL.1 B.holds.len;rintro y rfl;refine Gi f id B.holds λab j F=>?_;have J:=F.Vp.PH;rw[Zn] at J;obtain⟨C,aw,ax,ay,az⟩:=J.add n 0 rfl;have aA:=F.view p r R2;by_cases K:j.cnt=0
   .refine .inr ⟨.par n 0 .SV,.thru K,λaK aL ad ae L M=>?_⟩;have aB:Y0 j=0:=by simp only[Y0,C,K];rfl
    rw[aB,VV rfl];have O:=u.later (aa.ext.trans L);refine V.here (x:=one _) (m:=0) (nt:=84) ?_ ((B.put (a:=.z (.int .u64 0)) rfl (.z _)).O3 I M) _ rfl;refine V.Zo (e _ _ _) ?_;refine W.part (A:=[]) Ρ [4] [] rfl λX i=>?_;(try simp);(repeat (rw[Ν];simp));(try simp);apply i;refine W.ZF ?_;refine W.forget [(0,.z (ptr s 0)),(2,.z (.int .u64 0))] I (.stop ?_);exact an _ _ _ O
   .refine .inl λad ae L M=>?_;rw[VV rfl];have O:=u.later (aa.ext.trans L);refine V.here (x:=one _) (m:=0) (nt:=84) ?_ ((B.put (a:=.z (.int .u64 (Y0 j))) rfl (.z _)).O3 I M) _ rfl;refine V.Zo (e _ _ _) ?_;refine W.part (A:=[]) Ρ [4] [] rfl λX i=>?_;(try simp);(repeat (rw[Ν];simp));(try simp);apply i;refine W.ZF ?_;refine W.forget [(0,.z (ptr s 0)),(2,.z (.int .u64 (Y0 j)))] I (.stop ?_);exact ah ab j ad ae (Qk aA.1 ar) F.spec (Nat.pos_of_ne_zero K) J.cnt C O
  .have af:=t.Vp.PH;rw[Zn] at af;obtain⟨C,aw,ax,ay,az⟩:=af.add n 0 rfl;have ag:r.cnt=b.cnt:=by rw[T,O4,C] at hv;simp only[Wk] at hv;omega
   refine⟨{r with wt:=1},.par n 0 .w3,?_,rfl,⟨rfl,rfl,rfl⟩,.E1 (by rw[ag];exact R),λab aM ap aq D E=>?_⟩
   .rw[O4];simp only[ag]
   rw[VV rfl];have u:=g.later (Y.ext.trans D);refine V.here (x:=one _) (m:=0) (nt:=84) ?_ ((o.put (a:=.z (.bool true)) rfl (.z _)).O3 I E) _ rfl;refine V.Zo (e _ _ _) ?_;refine W.ZF ?_;refine Α rfl ?_;refine Wj ?_;refine W.Zg ?_;refine Xu [0,1,2] [3,4] ?_;refine W.stop ?_;refine V.conv (e _ _ _).here (sp:=sp) f.spec (by rw[Zn];exact id) ⟨rfl,rfl,by simp[Frame.enter],rfl⟩ rfl rfl rfl CM O5 CL rfl (λb w P aC=>⟨_,aC.II⟩) (λφ b t=>?_);unfold V3;rw[UX];refine V.v' f.rel Zn I ⟨⟨rfl,rfl,by simp[Frame.enter],rfl⟩,vB,⟨_,rfl⟩,rfl,rfl,rfl⟩ ?_;refine V.Zo (e _ _ _) ?_;refine W.ZF ?_;refine Wi f1 ?_;refine W.forget [(0,.z (ptr s 0)),(5,.z (.bool false))] I (.stop ?_);exact sleep _ _ _ _ u
theorem uY (e:T4 x s sp) (E:Holds S B σ H) (p:QA Q mn x c rest S H s n sp) :
  Zd prog Q mn (ZI x s (.par n 0 .add) v 0) (Frame.enter prog 146 #[ptr s 0] .normal) (c::rest) H:=by
 letI:ZX:=XU;have b:=e.seq;refine V.Rr (z:=one _) (vs:=[ptr s 0]) func146 rfl E (by simp[ntmps146]) ?_ _ rfl;refine V.Zo (b _ _ _) ?_;refine Wj ?_;refine W.Zg (.stop ?_);refine V.disable (b _ _ _).here ⟨⟨rfl,rfl,by simp[Frame.enter],rfl⟩,Lj,⟨_,rfl⟩,rfl,rfl,rfl⟩ ?_;rw[Lm];refine V.Zo (b _ _ _) ?_;refine W.ZF ?_;refine Y1 ?_;refine W.loop ?_;refine Y1 ?_;refine W.Zg ?_;refine Xu [0,1,2] [3,4] ?_;refine W.stop ?_;refine V.call (b _ _ _) ⟨rfl,rfl,by simp[Frame.enter],rfl⟩ rfl rfl rfl ⟨_,func168,rfl,rfl⟩ λM F N t3 O r f J=>?_;obtain rfl:=TI (l:=[ptr s 0]) J;obtain rfl:F=[]:=YL.1 f.holds.len;rintro y rfl;refine Gi e id f.holds λt d u=>?_;have g:=u.Vp.PH;rw[Zn] at g;obtain⟨w,P,R,T,U⟩:=g.add n 0 rfl;by_cases h:d.cnt=0
 .refine .inr ⟨.par n 0 .SV,.thru h,λX Y C D i j=>?_⟩;have K:Y0 d=0:=by simp only[Y0,w,h];rfl
  rw[K,VV rfl];have k:=p.later (r.ext.trans i);refine V.here (x:=one _) (m:=0) (nt:=84) ?_ ((f.put (a:=.z (.int .u64 0)) rfl (.z _)).O3 I j) _ rfl;refine V.Zo (b _ _ _) ?_;refine W.part (A:=[]) Ρ [4] [] rfl λL o=>?_;(try simp);(repeat (rw[Ν];simp));(try simp);apply o;refine W.ZF ?_;refine W.forget [(0,.z (ptr s 0)),(2,.z (.int .u64 0))] I (.stop ?_);exact Cs e k
 .refine .inl λC D i j=>?_;rw[VV rfl];have k:=p.later (r.ext.trans i);refine V.here (x:=one _) (m:=0) (nt:=84) ?_ ((f.put (a:=.z (.int .u64 (Y0 d))) rfl (.z _)).O3 I j) _ rfl;refine V.Zo (b _ _ _) ?_;refine W.part (A:=[]) Ρ [4] [] rfl λL o=>?_;(try simp);(repeat (rw[Ν];simp));(try simp);apply o;refine W.ZF ?_;refine W.forget [(0,.z (ptr s 0)),(2,.z (.int .u64 (Y0 d)))] I (.stop ?_);exact uZ e (t+1) t d C D (Qg _) u.spec (Nat.pos_of_ne_zero h) g.cnt w k
end
end Go.TL
