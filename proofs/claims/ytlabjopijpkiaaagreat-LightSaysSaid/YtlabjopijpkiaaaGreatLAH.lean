import Derived.Conc.Own2
import Derived.Test.YtlabjopijpkiaaaGreatLAG
set_option maxHeartbeats 16000000
set_option maxRecDepth 20000
set_option linter.unusedSectionVars false
set_option linter.unusedSimpArgs false
set_option linter.unusedVariables false
namespace Go.TL
open Go.IntKind (i32 i64 u32 u64)
open Go.Proofs.Tryz
open Go.Conc Go.Proofs
open Go.ConcN (sumTo upd sumTo_upd upd_ne upd_same sumTo_congr le_sumTo)
theorem CP {a b:Z'} {t u:Tok} (c:PK a t) (d:PK b u) (h:mwd a=mwd b):a.YW=b.YW/\a.wk=b.wk/\a.sv=b.sv/\a.nw=b.nw:=by
 have:=c.YW;have:=c.wk;have:=c.sv;have:=d.YW;have:=d.wk;have:=d.sv;simp only[mwd] at h;omega
section
variable {Q:Value->Prop} {mn:Bool} {x:ZU} {c:Frame} {rest:YU} {S:κ} {B:Z5} {σ:Ξ} {H:Τ} {s m k:Nat} {sp:Spec} {v:Option (Nat×Z')} {t:Tok}
theorem Lg (b:Vh x s m sp) {a:Z'} (h:a.toSpec=sp):a.top<7:=by have:=b.top;rw[show a.top=sp.top by rw[<-h]];exact this
theorem vo (d:Vh x s m sp) (y:PI Q mn x c rest S H s k sp) {φ:Nat} {a:Z'} (B:Lh Q mn x c rest S H s m k sp φ) (p:a.toSpec=sp) {b st:Bool} {f τ:Int} (i:PK a (.ch k (.act b) .work)) (C:st=true->b=true) (O:0<=f) (P:f<=4) :
  UX Q mn x c rest S H s m (.ch k (.act b) .work) (some (φ,a)) 1 (.code (Yf [0] QE)::.code (Yf [1] QE)::.inBlock 1::Ug) (YL m (mwd a) b st f τ++[(7,.z (.int .i32 (RU a.YW a.wk a.sv a.nw b st)))]):=by
 letI:ZP:=XV;have g:=d.seq;have ae:=CQ i;have af:=Lg d p;have ag:=i.YW;have ah:=i.wk;have ai:=i.sv;have aj:=i.nw;have r:=GD a.YW J a.wk J a.sv J a.nw J;rw[<-RV] at r;have R:∀(w:Option (Nat×Z')) (env:Β),Z3 env 0=.z (ptr m 0)->UX Q mn x c rest S H s m (.ch k .own .work) w 1 [.code Li] env:=λw env h=>CS d y h;have T:∀(t:Nat) (D:Z'),t<φ->¬XT .i32 (mwd a) 5=0->UX Q mn x c rest S H s m (.ch k .q .work) (some (t,D)) 1 (.code Tl::.inBlock 1::Ug) (YL m (mwd a) b st f τ):=λt D X Y=>vp d y B X Y;refine V.Zh (g _ _ _) ?_;unfold QE Rl Tm Rm;refine W.Za ?_;refine W.part (A:=[]) Ο [0,1,2,3,4] [5] U λZ u=>?_;(try simp);(repeat (rw[Θ];simp[YL]));(try simp[YL]);apply u;refine W.stop ?_;refine V.IM (g _ _ _).here (UA _) (sp:=sp) d.spec (by rw[Zg];exact id) d.ZK ⟨⟨U,U,by simp[Frame.enter],U⟩,IF,⟨_,U⟩,U,U,U⟩ (λl e n hv=>.inl ?_) (λl e n hv=>?_)
 ·
  have E:=n.view φ a RX
  have ak:l<φ:=by
   rcases OF l φ with h|h
   .exact h
   .exact absurd (by rw[E.2 J]) hv
  unfold VT;rw[UG];refine V.Zh (g _ _ _) ?_;refine W.ZB ?_;refine YQ ?_;refine Η U ?_;refine W.Za ?_;refine Xn [0,1,2] [3,4] ?_;refine W.stop ?_;refine V.MT (g _ _ _).here (sp:=sp) d.spec (by rw[Zg];exact id) ⟨U,U,by simp[Frame.enter],U⟩ U U U MS U IE mwd (λa w p aa=>aa.Rt (by rw[p];exact d.ZK)) (λo F v=>.inl ?_);have al:=v.view l e RX;have I:=v.Vi.S1;rw[Zg] at I;unfold VT;rw[UG];refine V.Zh (g _ _ _) ?_;refine W.part (A:=[]) Ο [4] [] U λZ u=>?_;(try simp);(repeat (rw[Θ];simp));(try simp);apply u;refine W.ZB ?_;refine W.inBlock ?_;refine W.forget (YL m (mwd F) b st f τ) (by simp[YL]) (.stop ?_);exact B o F b st f τ J v.spec I C O P
 .have E:=n.view φ a RX
  have K:=n.Vi.S1;rw[Zg] at K;obtain⟨ab,L,M,N⟩:=CP K i hv;by_cases j:a.YW=0/\a.sv=0
  .refine⟨{e with YW:=1,wk:=if b then 0 else e.wk},.ch k .own .work,?_,U,⟨U,U,U⟩,by rw[Zg];exact .acq J J,λo ad=>?_⟩
   .simp[RU,RV,L,M,N,j.1,j.2]
   .rw[Wv];rw[j.1,j.2] at r;refine V.Zh (g _ _ _) ?_;refine W.ZB ?_;refine YQ ?_;refine Ζ U ?_;refine V9 r ?_;refine W.exit U (.stop ?_);exact R _ _ U
  .have am:a.YW=1\/a.sv=1:=J
   refine⟨{e with nw:=e.nw+1,wk:=if b then 0 else e.wk,sv:=if(st&&decide (a.YW=1)) then 1 else e.sv},.ch k .q .work,?_,U,⟨U,U,U⟩,by rw[Zg];exact .queue (st&&decide (a.YW=1)) J (λh=>by simp at h;exact⟨C h.1,J⟩),λo ad=>?_⟩
   .simp only[RU,if_neg j,RV,ab,L,M,N];simp
   .rw[Wv];refine V.Zh (g _ _ _) ?_;refine W.ZB ?_;refine YQ ?_;refine Ζ U ?_;refine W.forget (YL m (mwd a) b st f τ) (by simp[YL]) (.stop ?_);exact T o _ J J
theorem vn (f:Vh x s m sp) {φ:Nat} {b st:Bool} {a τ:Int} {g:Nat} {j:Z'} (B:0<=a) (C:a<4)
  (r:∀(l:Nat) (e:Z'),l<=g->e.toSpec=sp->PK e (.ch k (.act b) .work)->UX Q mn x c rest S H s m (.ch k (.act b) .work) (some (l,e)) 1 Ug (YL m (mwd e) b st (a+1) τ)) :
  UX Q mn x c rest S H s m (.ch k (.act b) .work) (some (g,j)) 1 (.code (Yf [0,0,1,0,1,0] Tm)::.code (Yf [0,0,1,0,1,1] Tm)::.code Rl::.inBlock 1::Ug) [(0,.z (ptr m 0)),(2,.z (.int .i64 τ)),(3,.z (.bool st)),(4,.z (.bool b)),(5,.z (.int .i64 a))]:=by
 letI:ZP:=XV;have d:=f.seq;have n:i64.wrap (a+1)=a+1:=by simp only[IntKind.wrap_i64];omega
 refine V.Zh (d _ _ _) ?_;unfold Tm Rm;refine YQ ?_;refine W.Za (.stop ?_);refine V.IJ (d _ _ _) (vs:=[]) ⟨⟨U,U,by simp[Frame.enter],U⟩,vA,⟨_,U⟩,U,U,U⟩ ?_;refine V.Zh (d _ _ _) ?_;refine W.ZB ?_;refine YQ ?_;refine YZ λt h=>?_;(try simp);(repeat (rw[Θ];simp[n]));(try simp[n]);apply h;refine YQ ?_;refine W.Za ?_;refine Xn [0,1,2] [3,4] ?_;refine W.stop ?_;refine V.MT (d _ _ _).here (sp:=sp) f.spec (by rw[Zg];exact id) ⟨U,U,by simp[Frame.enter],U⟩ U U U MS U IE mwd (λD w u v=>v.Rt (by rw[u];exact f.ZK)) (λy o i=>.inl ?_);have E:=i.view g j RX;have p:=i.Vi.S1;rw[Zg] at p;unfold VT;rw[UG];refine V.Zh (d _ _ _) ?_;refine W.part (A:=[]) Ο [4] [] U λt h=>?_;(try simp);(repeat (rw[Θ];simp));(try simp);apply h;refine W.ZB ?_;refine W.exit U ?_;refine W.forget (YL m (mwd o) b st (a+1) τ) (by simp[YL]) (.stop ?_);exact r y o J i.spec p
theorem vm (o:Vh x s m sp) (ak:PI Q mn x c rest S H s k sp):∀(N φ:Nat) (a:Z') (f st:Bool) (d τ:Int),φ*8+(4-d).toNat<N->a.toSpec=sp->PK a (.ch k (.act f) .work)->(st=true->f=true)->0<=d->d<=4->
  UX Q mn x c rest S H s m (.ch k (.act f) .work) (some (φ,a)) 1 (.code Tm::Ug) (YL m (mwd a) f st d τ):=by
 letI:ZP:=XV;have p:=o.seq;intro N
 induction N with
 | zero=>intro φ a f st d τ h;omega
 | succ N al=>
  intro φ a f st d τ aw X r v Y am;have an:=CQ r;have ax:=Lg o X;have ay:=r.YW;have az:=r.wk;have aA:=r.sv;have aB:=r.nw;have w:=GD a.YW J a.wk J a.sv J a.nw J;have Ρ:=IH a.YW J a.wk J a.sv J a.nw J;have L:=vI a.YW J a.wk J a.sv J a.nw J;have B:=GA a.YW J a.wk J a.sv J a.nw J;rw[<-RV] at w Ρ B L;have Z:∀(l:Nat) (g:Z') (e t:Bool) (n C:Int),l*8+(4-n).toNat<N->g.toSpec=sp->PK g (.ch k (.act e) .work)->(t=true->e=true)->0<=n->n<=4->
    UX Q mn x c rest S H s m (.ch k (.act e) .work) (some (l,g)) 1 Ug (YL m (mwd g) e t n C):=λl g e t n C F I D i u M=>by
   have:=al l g e t n C F I D i u M;refine V.W' (p _ _ _) U ?_;exact W.inLoop (.stop this)
  have ao:Lh Q mn x c rest S H s m k sp φ:=λl g e t n C F I D i u M=>Z l g e t n C J I D i u M
  have aa:UX Q mn x c rest S H s m (.ch k (.act f) .work) (some (φ,a)) 1 (.code Rl::.inBlock 1::Ug) (YL m (mwd a) f st d τ):=by
   rw[RV];exact vu o J J J J an v (by rw[<-RV];exact vo o ak ao X r v Y am)
  have E:∀(O:Nat) (ab:Z') (e:Bool),d<4->(O<=φ)->(st=true->e=true)->UX Q mn x c rest S H s m (.ch k (.act e) .work) (some (O,ab)) 1 (.code (Yf [0,0,1,0,1,0] Tm)::.code (Yf [0,0,1,0,1,1] Tm)::.code Rl::.inBlock 1::Ug) [(0,.z (ptr m 0)),(2,.z (.int .i64 τ)),(3,.z (.bool st)),(4,.z (.bool e)),(5,.z (.int .i64 d))]:=λO ab e F I D=>
   vn o (φ:=φ) Y F λl g ad ae P=>Z l g e st (d+1) τ J ae P D J J
  refine V.Zh (p _ _ _) ?_;unfold Tm Rm;refine YQ ?_;by_cases af:a.YW=1/\a.sv=0
  .rw[af.1,af.2] at w;refine W.Za ?_;refine W.part (A:=[]) Ο [0,1,2,3,4] [5,6] U λj b=>?_;(try simp);(repeat (rw[Θ];simp[YL,w]));(try simp[YL,w]);apply b;refine W.stop ?_;refine V.canSpin (p _ _ _) ⟨⟨U,U,by simp[Frame.enter],U⟩,vB,⟨_,U⟩,U,U,U⟩ λy ap=>?_;refine V.Zh (p _ _ _) ?_;refine W.part (A:=[]) Ο [6] [] U λj b=>?_;(try simp);(repeat (rw[Θ];simp[YL]));(try simp[YL]);apply b;refine W.ZB ?_;cases y with
   | false=>
    refine Η U ?_
    first|apply WU|apply wb|apply Wl|apply wd
    refine W.forget (YL m (mwd a) f st d τ) (by simp[YL]) (.stop ?_);exact aa
   | true=>
    have i:=ap U;refine Ζ U ?_;refine YQ ?_;cases f with
    | true=>
     (repeat (first|apply WU|apply wb|apply Wl|apply wd|refine Ζ rfl ?_|refine Η rfl ?_|(refine YZ λj b=>?_;simp;(repeat (rw[Θ];simp[YL]));apply b)));refine W.forget [(0,.z (ptr m 0)),(2,.z (.int .i64 τ)),(3,.z (.bool st)),(4,.z (.bool true)),(5,.z (.int .i64 d))] Ω (.stop ?_);exact E φ a true i (Z6 _) (λ_=>rfl)
    | false=>
     by_cases ag:a.wk=0
     .by_cases R:a.nw=0
      .rw[ag] at Ρ;rw[R] at B;(repeat (first|apply WU|apply wb|apply Wl|apply wd|refine Ζ rfl ?_|refine Η rfl ?_|(refine YZ λj b=>?_;simp;(repeat (rw[Θ];simp[YL,Ρ,B]));apply b)));refine W.forget [(0,.z (ptr m 0)),(2,.z (.int .i64 τ)),(3,.z (.bool st)),(4,.z (.bool false)),(5,.z (.int .i64 d))] Ω (.stop ?_);exact E φ a false i (Z6 _) v
      .rw[ag] at Ρ;have ah:((a.nw:Int) != 0)=true:=by simp;omega
       refine W.Za ?_;refine W.part (A:=[]) Ο [0,1,2,3,4,5,6,7,8,9,10,11,12,13,14,15,16,17,18] [19,20] U λj b=>?_;(try simp);(repeat (rw[Θ];simp[YL,Ρ,B,L,R,ah]));(try simp[YL,Ρ,B,L,R,ah]);apply b;refine W.stop ?_;refine V.IM (p _ _ _).here (UA _) (sp:=sp) o.spec (by rw[Zg];exact id) o.ZK ⟨⟨U,U,by simp[Frame.enter],U⟩,IF,⟨_,U⟩,U,U,U⟩ (λai T K hv=>.inl ?_) (λai T K hv=>?_)
       .have aq:=K.view φ a RX;unfold VT;rw[UG];refine V.Zh (p _ _ _) ?_;refine W.part (A:=[]) Ο [20] [] U λj b=>?_;(try simp);(repeat (rw[Θ];simp[YL]));(try simp[YL]);apply b;refine W.ZB ?_;refine Η U ?_;refine YQ ?_;refine W.forget [(0,.z (ptr m 0)),(2,.z (.int .i64 τ)),(3,.z (.bool st)),(4,.z (.bool false)),(5,.z (.int .i64 d))] (by simp[YL]) (.stop ?_);exact E ai T false i J v
       .have aq:=K.view φ a RX
        have aj:=K.Vi.S1;rw[Zg] at aj;obtain⟨ad,ae,P,ar⟩:=CP aj r hv;refine⟨{T with wk:=1},.ch k (.act true) .work,?_,U,⟨U,U,U⟩,by rw[Zg];exact .Aq J J J J,λau aC=>?_⟩
        .simp[RV,ad,P,ar]
        .rw[Wv];refine V.Zh (p _ _ _) ?_;refine W.part (A:=[]) Ο [20] [] U λj b=>?_;(try simp);(repeat (rw[Θ];simp[YL]));(try simp[YL]);apply b;refine W.ZB ?_;refine Ζ U ?_;refine YZ λj b=>?_;(try simp);(repeat (rw[Θ];simp[YL]));(try simp[YL]);apply b;refine YQ ?_;refine W.forget [(0,.z (ptr m 0)),(2,.z (.int .i64 τ)),(3,.z (.bool st)),(4,.z (.bool true)),(5,.z (.int .i64 d))] (by simp[YL]) (.stop ?_);exact E au _ true i J (λ_=>rfl)
     .have av:a.wk=1:=J
      rw[av] at Ρ;(repeat (first|apply WU|apply wb|apply Wl|apply wd|refine Ζ rfl ?_|refine Η rfl ?_|(refine YZ λj b=>?_;simp;(repeat (rw[Θ];simp[YL,Ρ]));apply b)));refine W.forget [(0,.z (ptr m 0)),(2,.z (.int .i64 τ)),(3,.z (.bool st)),(4,.z (.bool false)),(5,.z (.int .i64 d))] Ω (.stop ?_);exact E φ a false i (Z6 _) v
  .have u:¬XT .i32 (mwd a) 5=1:=by rw[w];omega
   refine YZ λj b=>?_;(try simp);(repeat (rw[Θ];simp[YL,u]));(try simp[YL,u]);apply b;refine Η U ?_
   first|apply WU|apply wb|apply Wl|apply wd
   refine W.forget (YL m (mwd a) f st d τ) (by simp[YL]) (.stop ?_);exact aa
theorem vl (a:Vh x s m sp):CU Q mn x s m k sp:=by
 intro c rest S B σ H v j l;letI:ZP:=XV;have b:=a.seq;have n:=λφ d o st e τ p r t u y=>vm a l (φ*8+(4-e).toNat+1) φ d o st e τ (Qj _) p r t u y;refine V.Rr (z:=one _) (vs:=[ptr m 0]) func213 U j (by simp[ntmps213]) ?_ _ U;refine V.Zh (b _ _ _) ?_;refine Wa ?_;refine W.Za ?_;refine Xn [0,1,2] [3,4] ?_;refine W.stop ?_;refine V.MT (b _ _ _).here (sp:=sp) a.spec (by rw[Zg];exact id) ⟨U,U,by simp[Frame.enter],U⟩ U U U MS U IE mwd (λd w C D=>D.Rt (by rw[C];exact a.ZK)) (λE f g=>.inl ?_);have i:=g.Vi.S1;rw[Zg] at i;unfold VT;rw[UG];refine V.Zh (b _ _ _) ?_;refine W.part (A:=[]) Ο [4] [] U λI F=>?_;(try simp);(repeat (rw[Θ];simp));(try simp);apply F;refine W.ZB ?_;refine YQ ?_;refine W.loop ?_;refine W.forget (YL m (mwd f) false false 0 0) (by simp[YL]) (.stop ?_);exact n E f false false 0 0 g.spec i (λh=>by cases h) J J
theorem vk (a:Vh x s m sp) (e:Holds S B σ H) (f:PI Q mn x c rest S H s k sp):Y6 prog Q mn (ZH x s (.ch k .idle .work) v 0) (Frame.enter prog 144 #[ptr m 0] .normal) (c::rest) H:=by
 letI:ZP:=XV;have b:=a.seq;refine V.Rr (z:=one _) (vs:=[ptr m 0]) func144 U e (by simp[ntmps144]) ?_ _ U;refine V.Zh (b _ _ _) ?_;refine YQ ?_;refine W.Za ?_;refine Xn [0,1,2] [3] ?_;refine W.stop ?_;refine V.call (b _ _ _) ⟨U,U,by simp[Frame.enter],U⟩ U U U ⟨_,func175,U,U⟩ λu g w t1 A h d hv=>?_;obtain rfl:=To (l:=[ptr m 0]) hv;obtain rfl:g=[]:=YA.1 d.holds.len;rintro y rfl;refine vv a d.holds (vl a) λi j L E n o p r t=>?_;rw[VJ U];refine Y6.leave0 (b _ _ _) U U U U func144 U ?_;exact f i j L E (h.ext.trans n) o p r t
end
noncomputable def CO:Code:=f215.body.getD .skip
noncomputable def Gv:Code:=Yf [1,1,0,1,0,0] CO
noncomputable def CN:Zz:=[.inLoop Gv,.inBlock 0]
theorem vj:∀n<8,0<n->QY .i32 (i32.wrap (Wu 0 0 0 n-8)) 2=Wu 0 1 0 (n-1):=by decide +kernel
theorem vi:∀b<2,∀c<2,∀n<8,XT .i32 (i32.wrap (Wu 0 b c n+1)) 1=1:=by decide +kernel
abbrev Xp:κ:=λ_ _=>none
theorem Lf {S b:κ} {B B':Z5} {σ σ':Ξ} {env:Β} {t:ζ} (c:∀p∈env,∃v,p.2=Ψ.z v) (h:Yv S B σ env t):Yv b B' σ' env t:=by
 intro i;have d:∀(env:Β),(∀p∈env,∃v,p.2=Ψ.z v)->(∃v,Z3 env i=.z v)\/Z3 env i=.Ze:=by
  intro env
  induction env with
  | nil=>exact λ_=>.inr rfl
  | cons p l f=>
   intro h;obtain⟨j,a⟩:=p;simp only[Z3];split
   .exact .inl (h (j,a) Ω)
   .exact f λq g=>h q (by simp[g])
 have hi:=h i;rcases d env c with⟨v,e⟩|e
 .rw[e] at hi ⊢;generalize t.getD i undef=u at hi;cases hi;exact .z _
 .rw[e];exact .Ze _
theorem MR (H:Τ):Holds Xp [] [] H:=⟨λb o v h=>(by cases h),rfl,λid r bo h=>(by simp at h),λi j a c b d e _ h=>(by simp at h),λid r b N h=>(by simp at h)⟩
theorem Xb.none {m nt:Nat} {S:κ} {B:Z5} {H H':Τ} {env:Β} {t:ζ} (h:Xb m nt S B H [] env t) (a:∀p∈env,∃v,p.2=Ψ.z v):Xb 0 nt Xp [] H' [] env t:=⟨MR H',Lf a h.Y7,h.size,Z6 _⟩
section
variable {Q:Value->Prop} {mn:Bool} {x:ZU} {c:Frame} {rest:YU} {S:κ} {B:Z5} {σ:Ξ} {H:Τ} {s m k:Nat} {sp:Spec} {v:Option (Nat×Z')} {t:Tok}
abbrev Gu (Q:Value->Prop) (mn:Bool) (x:ZU) (c:Frame) (rest:YU) (H:Τ) (s m:Nat) (w:Int) (t:Tok) (v:Option (Nat×Z')) (K:Zz) (env:Β):Prop:=
 V prog Q mn (one (ZH x s t v 1)) (Frame.enter prog 215 #[ptr m 0,.int .i32 w] .normal) (c::rest) 43 ⟨Xp,[],H,[],0⟩ K env []
def Le (Q:Value->Prop) (mn:Bool) (x:ZU) (c:Frame) (rest:YU) (H:Τ) (s k d:Nat):Prop:=
 ∀(v:Option (Nat×Z')) (b:κ) (a:Τ),Ext Xp [] H b [] a->Y6 prog Q mn (ZH x s (.ch k .done .work) v d) (c.finish (.tuple #[])) rest a
theorem Gt (a:Vh x s m sp) (b:Le Q mn x c rest H s k 1) {w:Int} {K:Zz} {env:Β} (e:t=.ch k .done .work):Gu Q mn x c rest H s m w t v (.code .ret::K) env:=by
 letI:ZP:=XV;have d:=a.seq;subst e;refine V.GI (d _ _ _) U U U U func215 U λf g h i j=>?_;obtain rfl:g=[]:=YA.1 j.len;rintro y rfl;exact b v f h i.ext
def CM (k:Nat) (a:Z') (t:Tok):Prop:=((a.nw=0\/a.YW=1\/a.wk=1\/a.sv=1)/\t=.ch k .done .work)\/(0<a.nw/\a.YW=0/\a.wk=0/\a.sv=0/\t=.ch k .uc .work)
theorem CL (b:Vh x s m sp) (D:Le Q mn x c rest H s k 1) {w:Int}:∀(N φ:Nat) (a:Z') (t:Tok),φ<N->a.YW<=1->a.wk<=1->a.sv<=1->a.nw<7->CM k a t->
  Gu Q mn x c rest H s m w t (some (φ,a)) (.code Gv::CN) [(0,.z (ptr m 0)),(4,.z (.int .i32 (mwd a)))]:=by
 letI:ZP:=XV;have d:=b.seq;intro N
 induction N with
 | zero=>intro φ a t h;omega
 | succ N ad=>
  intro φ a t ao ap aq ar au K;have l:=vL a.YW J a.wk J a.sv J a.nw J;have i:=GA a.YW J a.wk J a.sv J a.nw J;rw[<-RV] at l i;have L:∀(n:Nat) (e:Z') (t':Tok),n<N->e.YW<=1->e.wk<=1->e.sv<=1->e.nw<7->CM k e t'->Gu Q mn x c rest H s m w t' (some (n,e)) CN [(0,.z (ptr m 0)),(4,.z (.int .i32 (mwd e)))]:=λn e t' E o p r M ae=>by
   have:=ad n e t' E o p r M ae;refine V.W' (d _ _ _) U ?_;exact W.inLoop (.stop this)
  refine V.Zh (d _ _ _) ?_;unfold Gv CO;refine YQ ?_;rcases K with⟨K,rfl⟩|⟨E,o,p,r,rfl⟩
  .by_cases u:a.nw=0
   .rw[u] at i;refine V9 i ?_;exact .stop (Gt b D U)
   .have O:¬XT .i32 (mwd a) 7=0:=by rw[l];omega
    have af:(XT .i32 (mwd a) 7 != 0)=true:=by simpa using O
    refine V9 (Υ i (Υ u (Υ O af))) ?_;exact .stop (Gt b D U)
  .have u:¬a.nw=0:=J
   have ag:¬(a.nw:Int)=0:=J
   have P:mwd a=Wu 0 0 0 a.nw:=by rw[RV,o,p,r]
   have F:=vj a.nw J E;rw[<-P] at F;rw[o,p,r] at l;refine V9 (Υ i (Υ u (Υ ag l))) ?_;refine W.Za ?_;refine W.part (A:=[]) Ο [0,1,2,3,4] [5] U λR j=>?_;(try simp);(repeat (rw[Θ];simp[F]));(try simp[F]);apply j;refine W.stop ?_;refine V.IM (d _ _ _).here (UA _) (sp:=sp) b.spec (by rw[Zg];exact id) b.ZK ⟨⟨U,U,by simp[Frame.enter],U⟩,IF,⟨_,U⟩,U,U,U⟩ (λv f y hv=>.inl ?_) (λv f y hv=>?_)
   .have ah:=y.view φ a RX
    have M:v<φ:=by
     rcases OF v φ with h|h
     .exact h
     .exact absurd (by rw[ah.2 J]) hv
    unfold VT;rw[UG];refine V.Zh (d _ _ _) ?_;refine W.ZB ?_;refine Η U ?_;refine YQ ?_;refine W.Za ?_;refine Xn [0,1,2] [3,4] ?_;refine W.stop ?_;refine V.MT (d _ _ _).here (sp:=sp) b.spec (by rw[Zg];exact id) ⟨U,U,by simp[Frame.enter],U⟩ U U U MS U Zr mwd (λa w ai aj=>aj.Rt (by rw[ai];exact b.ZK)) (λS g I=>?_);have av:=I.view v f RX;have B:=I.Vi.S1;have ak:=Lg b I.spec;have T:=B.YW;have X:=B.wk;have Y:=B.sv;have aw:=B.nw;by_cases Z:g.nw=0\/g.YW=1\/g.wk=1\/g.sv=1
    .refine .inr ⟨.ch k .done .work,by rw[Zg];exact .Al Z,λaa al=>?_⟩;rw[Wv];refine V.Zh (d _ _ _) ?_;refine W.part (A:=[]) Ο [4] [] U λR j=>?_;(try simp);(repeat (rw[Θ];simp));(try simp);apply j;refine W.ZB ?_;refine YQ ?_;refine W.forget [(0,.z (ptr m 0)),(4,.z (.int .i32 (mwd g)))] Ω (.stop ?_);exact L aa g _ J T X Y J (.inl ⟨Z,U⟩)
    .refine .inl ?_;unfold VT;rw[UG];refine V.Zh (d _ _ _) ?_;refine W.part (A:=[]) Ο [4] [] U λR j=>?_;(try simp);(repeat (rw[Θ];simp));(try simp);apply j;refine W.ZB ?_;refine YQ ?_;refine W.forget [(0,.z (ptr m 0)),(4,.z (.int .i32 (mwd g)))] Ω (.stop ?_);exact L S g _ J T X Y J (.inr ⟨J,J,J,J,U⟩)
   .have C:=y.Vi.S1
    have ak:=Lg b y.spec
    have f1:=C.YW;have f2:=C.wk;have f3:=C.sv;have f4:=C.nw
    have f5:f.YW=0/\f.wk=0/\f.sv=0/\f.nw=a.nw:=by
     rw[P] at hv;simp only[mwd,Wu] at hv;omega
    refine⟨{f with nw:=f.nw-1,wk:=1},.ch k .us .work,?_,U,⟨U,U,U⟩,by rw[Zg];exact .Am J J J J,λS al=>?_⟩
    .simp[RV,f5]
    .rw[Wv];refine V.Zh (d _ _ _) ?_;refine W.ZB ?_;refine Ζ U ?_;refine YQ ?_;refine W.Za ?_;refine Xn [0,1,2] [3] ?_;refine W.stop ?_;refine V.C5 (d _ _ _).here (sp:=sp) b.spec (by rw[Zg];exact id) b.ZK (vs:=[ptr m 1,.bool false,.int .i64 2]) U ⟨⟨U,U,by simp[Frame.enter],U⟩,CX,⟨_,U⟩,U,U,U⟩ (λaa ab am=>?_);have an:=am.Vi.S1;refine⟨by have:=an.Yp;omega,{ab with Yp:=ab.Yp+1},.ch k .done .work,U,U,⟨U,U,U⟩,by rw[Zg];exact .post,λax ay=>?_⟩;rw[Wv];refine V.Zh (d _ _ _) ?_;refine W.ZB (.stop ?_);exact Gt b D U
theorem vh (e:Vh x s m sp) (i:Le Q mn x c rest H s k 1) {a:Z'} {φ:Nat} (K:a.toSpec=sp) (l:a.YW=0) (n:a.wk<=1) (o:a.sv<=1) (p:a.nw<7)
  (u:(a.sv=0/\(a.nw=0\/a.wk=1)/\t=.ch k .done .work)\/(a.sv=0/\0<a.nw/\a.wk=0/\t=.ch k .uc .work)\/(a.sv=1/\t=.ch k .us .work)) :
  Y6 prog Q mn (ZH x s t (some (φ,a)) 1) (Frame.enter prog 215 #[ptr m 0,.int .i32 (mwd a)] .normal) (c::rest) H:=by
 letI:ZP:=XV;have f:=e.seq;have g:=vi a.wk J a.sv J a.nw J;have b:=GC 0 J a.wk J a.sv J a.nw J;have v:mwd a=Wu 0 a.wk a.sv a.nw:=by rw[RV,l]
 rw[<-v] at g b;refine V.Rr (z:=one _) (vs:=[ptr m 0,.int .i32 (mwd a)]) (S:=Xp) func215 U (MR H) (by simp[ntmps215]) ?_ _ U;refine V.Zh (f _ _ _) ?_;rcases u with⟨d,j,rfl⟩|⟨d,j,w,rfl⟩|⟨d,rfl⟩
 .rw[d] at b;refine V9 (Υ g b) ?_;refine W.loop ?_;refine W.forget [(0,.z (ptr m 0)),(4,.z (.int .i32 (mwd a)))] Ω (.stop ?_);exact CL e i (φ+1) φ a _ (Qj _) J n o p (.inl ⟨j.imp id λh=>.inr (.inl h),U⟩)
 .rw[d] at b;refine V9 (Υ g b) ?_;refine W.loop ?_;refine W.forget [(0,.z (ptr m 0)),(4,.z (.int .i32 (mwd a)))] Ω (.stop ?_);exact CL e i (φ+1) φ a _ (Qj _) J n o p (.inr ⟨j,l,w,d,U⟩)
 .rw[d] at b;refine V9 (Υ g b) ?_;refine W.Za ?_;refine Xn [0,1,2] [3] ?_;refine W.stop ?_;refine V.C5 (f _ _ _).here (sp:=sp) e.spec (by rw[Zg];exact id) e.ZK (vs:=[ptr m 1,.bool true,.int .i64 2]) U ⟨⟨U,U,by simp[Frame.enter],U⟩,CX,⟨_,U⟩,U,U,U⟩ (λL r A=>?_);have B:=A.Vi.S1;refine⟨by have:=B.Yp;omega,{r with Yp:=r.Yp+1},.ch k .done .work,U,U,⟨U,U,U⟩,by rw[Zg];exact .post,λM N=>?_⟩;rw[Wv];refine V.Zh (f _ _ _) ?_;refine W.ZB (.stop ?_);refine V.IK (f _ _ _) U U U U func215 U λC D E F I=>?_;obtain rfl:D=[]:=YA.1 I.len;rintro y rfl;exact i _ C E F.ext
end
noncomputable def Ld:Code:=f176.body.getD .skip
theorem vg:(prog.funcs[176]?).any (·.norace)=true:=by kernel_rfl
section
variable {Q:Value->Prop} {mn:Bool} {x:ZU} {c:Frame} {rest:YU} {S:κ} {B:Z5} {σ:Ξ} {H:Τ} {s m k:Nat} {sp:Spec} {v:Option (Nat×Z')} {t:Tok}
abbrev CK (Q:Value->Prop) (mn:Bool) (x:ZU) (c:Frame) (rest:YU) (H:Τ) (s m:Nat) (t:Tok) (v:Option (Nat×Z')) (d:Nat) (K:Zz) (env:Β):Prop:=
 V prog Q mn (one (ZH x s t v d)) (Frame.enter prog 176 #[ptr m 0] .normal) (c::rest) 21 ⟨Xp,[],H,[],0⟩ K env []
theorem CJ {c:κ} {H H':Τ} (h:Ext Xp [] H c [] H'):Ext Xp [] H Xp [] H':=
 ⟨λb o v h=>(by cases h),λb a d=>h.W7 b a d,λb a=>h.blocks b a,λb o v h=>(by cases h),h.grow⟩
theorem CI (b:Vh x s m sp) (d:Le Q mn x c rest H s k 0) {env:Β}:CK Q mn x c rest H s m (.ch k .done .work) v 1 [.code (Yf [1,1,1] Ld)] env:=by
 letI:ZP:=XV;have a:=b.seq;refine V.Zh (a _ _ _) ?_;unfold Ld;refine W.Za (.stop ?_);refine V.enable (a _ _ _).here (UA _) ⟨⟨U,U,by simp[Frame.enter],U⟩,OZ,⟨_,U⟩,U,U,U⟩ ?_;rw[Ll];refine V.Zh (a _ _ _) ?_;refine W.ZB (.stop ?_);refine V.IK (a _ _ _) U U U U func176 U λe f g h i=>?_;obtain rfl:f=[]:=YA.1 i.len;rintro y rfl;exact d _ e g h.ext
theorem vf (d:Vh x s m sp) (Y:Holds S B σ H) {L:ο}
  (Z:∀(F:κ) (H':Τ),Ext S [] H F [] H'->Holds F [] [] H'->∃g E,Split H' g E/\sp.XI (L++[k]) E/\Le Q mn x c rest g s k 0) :
  Y6 prog Q mn (ZH x s (.ch k (.Yw L) .work) v 0) (Frame.enter prog 176 #[ptr m 0] .normal) (c::rest) H:=by
 letI:ZP:=XV;have e:=d.seq;refine V.Rr (z:=one _) (vs:=[ptr m 0]) func176 U Y (by simp[ntmps176]) ?_ _ U;refine V.Zh (e _ _ _) ?_;refine YQ ?_;refine Ζ U ?_;refine YQ ?_;refine W.Za ?_;refine Xn [0,1,2] [3] ?_;refine W.stop ?_;refine V.MT (e _ _ _).here (sp:=sp) d.spec (by rw[Zg];exact id) ⟨U,U,by simp[Frame.enter],U⟩ U U U MS U vg mwd (λI w n o=>o.Rt (by rw[n];exact d.ZK)) (λaD aE aF=>.inl ?_);unfold VT;rw[UG];refine V.Zh (e _ _ _) ?_;refine W.ZB ?_;refine YQ ?_;refine W.forget [(0,.z (ptr m 0))] Ω ?_;refine W.Za ?_;refine Xn [0] [1,2] ?_;refine W.stop ?_;refine V.conv (e _ _ _).here (sp:=sp) d.spec (by rw[Zg];exact id) ⟨U,U,by simp[Frame.enter],U⟩ U U U Gz OY Gy U (λI w n o=>⟨_,o.Rt (by rw[n];exact d.ZK)⟩) (λφ I aG=>?_);unfold VT;rw[UG];refine V.HE d.rel U (sp:=sp) (L:=L) d.spec d.ZK Zg ⟨⟨U,U,by simp[Frame.enter],U⟩,C3,⟨_,U⟩,U,U,U⟩ λaa ab g t1 ad p=>?_;obtain rfl:ab=[]:=YA.1 p.holds.len;obtain⟨r,E,ae,af,K⟩:=Z aa g ad.ext p.holds;refine⟨r,E,ae,af,?_⟩;rw[Wv];refine V.here (x:=one _) (S:=Xp) (B:=[]) (σ:=[]) (m:=0) (nt:=21) ?_ (p.none Ω) _ U;refine V.Zh (e _ _ _) ?_;refine W.ZB ?_;refine YQ ?_;refine W.Za (.stop ?_);refine V.disable (e _ _ _).here ⟨⟨U,U,by simp[Frame.enter],U⟩,Lj,⟨_,U⟩,U,U,U⟩ ?_;rw[Lm];refine V.Zh (e _ _ _) ?_;refine W.ZB ?_;refine YQ ?_;refine W.Za ?_;refine Xn [0,1,2] [3,4] ?_;refine W.stop ?_;refine V.Da (e _ _ _).here (UA _) (sp:=sp) d.spec (by rw[Zg];exact id) d.ZK ⟨⟨U,U,by simp[Frame.enter],U⟩,C1,⟨_,U⟩,U,U,U⟩ (λaH b u=>?_);have f:=u.Vi.S1;rw[Zg] at f;have ag:=f.hold U;have aI:=Lg d u.spec;have f1:=f.wk;have f2:=f.sv;have f3:=f.nw;have M:mwd {b with YW:=0}=i32.wrap (mwd b+-1):=by simp only[mwd,IntKind.wrap_i32,ag];omega
 have N:∀(t:Tok) (O:Nat),(b.sv=0/\(b.nw=0\/b.wk=1)/\t=.ch k .done .work)\/(b.sv=0/\0<b.nw/\b.wk=0/\t=.ch k .uc .work)\/(b.sv=1/\t=.ch k .us .work)->
   CK Q mn x c rest r s m t (some (O,{b with YW:=0})) 1 [.code (Yf [1,1,0] Ld),.code (Yf [1,1,1] Ld)] [(0,.z (ptr m 0)),(2,.z (.int .i32 (mwd {b with YW:=0})))]:=λt O P=>by
  refine V.Zh (e _ _ _) ?_;unfold Ld;refine YQ ?_;by_cases i:mwd {b with YW:=0}=0
  .refine V9 i ?_;have ah:t=.ch k .done .work:=by
    simp only[mwd] at i;rcases P with⟨_,_,h⟩|⟨_,h,_⟩|⟨h,_⟩
    .exact h
    .omega
    .omega
   subst ah;exact .stop (CI d K)
  .have ai:(mwd {b with YW:=0} != 0)=true:=by simpa using i
   refine V9 (Υ i ai) ?_;refine W.Za ?_;refine Xn [0,1] [2] ?_;refine W.stop ?_;refine V.call (e _ _ _) ⟨U,U,by simp[Frame.enter],U⟩ U U U ⟨_,func215,U,U⟩ λaJ aj aK t4 aL ak R al=>?_;obtain rfl:=To (l:=[ptr m 0,.int .i32 (mwd {b with YW:=0})]) al;obtain rfl:aj=[]:=YA.1 R.holds.len;rintro y rfl;refine vh d (λaM aN am an=>?_) (by exact u.spec) U f1 f2 (by show b.nw<7;omega) P;rw[VJ U];have ao:Ext Xp [] r Xp [] am:=(CJ ak.ext).trans (CJ an);refine V.here (x:=one _) (S:=Xp) (B:=[]) (σ:=[]) (m:=0) (nt:=21) ?_ ((R.put (a:=Sr) U (.z _)).none Ω) _ U;refine V.Zh (e _ _ _) ?_;refine W.ZB (.stop ?_);exact CI d λap aq ar au=>K ap aq ar (ao.trans au)
 by_cases T:b.sv=1
 .refine⟨{b with YW:=0},.ch k .us .work,M,U,⟨U,U,U⟩,by rw[Zg];exact .An T,λC _=>?_⟩;rw[Wv];refine V.Zh (e _ _ _) ?_;refine W.part (A:=[]) Ο [4] [] U λav D=>?_;(try simp);(repeat (rw[Θ];simp));(try simp);apply D;refine W.ZB ?_
  first|apply WU|apply wb|apply Wl|apply wd
  refine W.forget [(0,.z (ptr m 0)),(2,.z (.int .i32 (mwd {b with YW:=0})))] Ω (.stop ?_);exact N _ C (.inr (.inr ⟨T,U⟩))
 .have j:b.sv=0:=J
  have step:∀(t:Tok),(b.sv=0/\(b.nw=0\/b.wk=1)/\t=.ch k .done .work)\/(b.sv=0/\0<b.nw/\b.wk=0/\t=.ch k .uc .work)->Act b (.ch k .fin .work) {b with YW:=0} t->∃o' t',mwd o'=i32.wrap (mwd b+-1)/\o'.Yp=b.Yp/\MU b o'/\Act b (.ch k .fin .work) o' t'/\((b.sv=0/\(b.nw=0\/b.wk=1)/\t'=.ch k .done .work)\/(b.sv=0/\0<b.nw/\b.wk=0/\t'=.ch k .uc .work))/\o'={b with YW:=0}:=λt aw ax=>⟨_,t,M,U,⟨U,U,U⟩,ax,aw,U⟩;obtain⟨o',t',ay,az,aA,aB,aC,rfl⟩:∃o' t',mwd o'=i32.wrap (mwd b+-1)/\o'.Yp=b.Yp/\MU b o'/\Act b (.ch k .fin .work) o' t'/\((b.sv=0/\(b.nw=0\/b.wk=1)/\t'=.ch k .done .work)\/(b.sv=0/\0<b.nw/\b.wk=0/\t'=.ch k .uc .work))/\o'={b with YW:=0}:=by
   by_cases X:b.nw=0\/b.wk=1
   .exact step _ (.inl ⟨j,X,U⟩) (.Ap j X)
   .exact step _ (.inr ⟨j,J,J,U⟩) (.Ao j J J)
  refine⟨_,t',ay,az,aA,by rw[Zg];exact aB,λC _=>?_⟩;rw[Wv];refine V.Zh (e _ _ _) ?_;refine W.part (A:=[]) Ο [4] [] U λav D=>?_;(try simp);(repeat (rw[Θ];simp));(try simp);apply D;refine W.ZB ?_
  first|apply WU|apply wb|apply Wl|apply wd
  refine W.forget [(0,.z (ptr m 0)),(2,.z (.int .i32 (mwd {b with YW:=0})))] Ω (.stop ?_);exact N _ C (aC.imp id λh=>.inl h)
theorem Y6.leaveD [ZP] {P:Program} {Q:Value->Prop} {mn:Bool} {x:ZU} {c b:Frame} {rest:YU} {H:Τ} {t:ζ} {ops:ZC} {fn:Func} (a:Seq (one x)) (d:b.mode=.run) (e:b.roundOf=none) (f:b.defers=[]) (g:b.kind=.deferred) (i:P.funcs[b.fn]?=some fn) (j:fn.results=#[])
  (k:c.mode=.returning) (h:Y6 P Q mn x c rest H):Y6 P Q mn x (π b t [.inRegion ops []]) (c::rest) H:=by
 refine γ.ZB (x:=one x) a d (.Qb a d e (.Hz a U f g i ?_)) x U;rw[results_none j];refine Φ.pure' ?_;simp only[k];intro y l;cases l;exact h
theorem ve (h:Vh x s m sp) (p:Holds S B σ H) (r:c.mode=.returning) {L:ο}
  (t:∀(j:κ) (H':Τ),Ext S [] H j [] H'->Holds j [] [] H'->∃d E,Split H' d E/\sp.XI (L++[k]) E/\∀(v:Option (Nat×Z')) (e:κ) (b:Τ),Ext Xp [] d e [] b->Y6 prog Q mn (ZH x s (.ch k .done .work) v 0) c rest b) :
  Y6 prog Q mn (ZH x s (.ch k (.Yw L) .work) v 0) (Frame.enter prog 145 #[ptr m 0] .deferred) (c::rest) H:=by
 letI:ZP:=XV;have f:=h.seq;rw[Rw (body:=f145.body.getD .skip) func145 U];refine V.here (x:=one _) (m:=0) (nt:=6) (env:=entry 0 [.z (ptr m 0)]) ?_ (Xb.enter p.bare ⟨U,λi a v g n=>?_⟩ (Z6 _) Ω) _ U
 .refine V.W' (f _ _ _) U ?_;simp only[f145,Option.getD_some];refine YQ ?_;refine W.Za ?_;refine Xn [0,1,2] [3] ?_;refine W.stop ?_;refine V.call (f _ _ _) ⟨U,U,by simp[Frame.enter],U⟩ U U U ⟨_,func176,U,U⟩ λP u d t1 R w o hv=>?_;obtain rfl:=To (l:=[ptr m 0]) hv;obtain rfl:u=[]:=YA.1 o.holds.len;rintro y rfl;refine vf h o.holds (L:=L) λe b A C=>?_;obtain⟨D,E,F,I,J⟩:=t e b (w.ext.trans A) C;refine⟨D,E,F,I,λK M N O=>?_⟩;rw[VJ U];refine Y6.leaveD (f _ _ _) U U U U func145 U r ?_;exact J K M N O
 .cases i with
  | zero=>simp at g n;subst g;subst n;exact .z _
  | succ i=>simp at g
end
structure TR (x:ZU) (s:Nat) (sp:Spec):Prop where
 rel:x.rel=false
 Z4:x.Z4=λ_=>none
 spec:x.spec s=some sp
 top:sp.top<7
 still:∀a,a≠s->S3 (x.tok a)
theorem TR.seq {x:ZU} {s:Nat} {sp:Spec} (h:TR x s sp):∀t v d,@Seq XV (one (ZH x s t v d)):=λt v d=>@Seq.O1 XV _ trivial h.rel h.Z4
abbrev VW (c w:Nat):Int:=(c:Int)*4294967296+w
theorem ID:∀c<8,∀w<2,XT .u64 (VW c w) 2147483648=0:=by decide +kernel
theorem IC:∀c<8,∀w<2,i32.wrap ((VW c w).fdiv (2 ^ min 32 u64.bits))=c:=by decide +kernel
theorem IB:∀c<8,∀w<2,u32.wrap (XT .u64 (VW c w) 2147483647)=w:=by decide +kernel
theorem vd:∀c<7,∀w<2,u64.wrap (VW c w+4294967296)=VW (c+1) w:=by decide +kernel
theorem vc:∀c<8,∀w<2,0<c->u64.wrap (VW c w+18446744069414584320)=VW (c-1) w:=by decide +kernel
theorem vb:∀c<8,u64.wrap (VW c 0+1)=VW c 1:=by decide +kernel
theorem CH:u64.wrap 1=1:=ZT
theorem CG:u64.wrap (2 ^ min 32 u64.bits)=4294967296:=ZT
theorem Gs:i32.wrap 1=1:=ZT
theorem OX (a:Z'):YN a=VW a.cnt a.wt:=rfl
section
variable {Q:Value->Prop} {mn:Bool} {x:ZU} {c:Frame} {rest:YU} {S:κ} {B:Z5} {σ:Ξ} {H:Τ} {s k:Nat} {sp:Spec} {v:Option (Nat×Z')} {t:Tok}
theorem IA (b:TR x s sp) {a:Z'} (h:a.toSpec=sp):a.top<7:=by have:=b.top;rw[show a.top=sp.top by rw[<-h]];exact this
def MQ (Q:Value->Prop) (mn:Bool) (x:ZU) (c:Frame) (rest:YU) (S:κ) (H:Τ) (r:Value):Prop:=
 ∀(a:κ) (H':Τ),Ext S [] H a [] H'->Holds a [] [] H'->Y6 prog Q mn x (c.finish r) rest H'
theorem va (f:TR x s sp) (h:¬WY t) {d:Int} (i:Holds S B σ H)
  (j:∀φ a,Seen (ZH x s t v 1) s sp φ a->∃o' t',YN o'=u64.wrap (YN a+d)/\o'.YK=a.YK/\QF a o'/\Act a t o' t'/\∀b,b<φ->MQ Q mn (ZH x s t' (some (b,o')) 1) c rest S H (.int .u64 (YN o'))) :
  Y6 prog Q mn (ZH x s t v 1) (Frame.enter prog 166 #[ptr s 0,.int .u64 d] .normal) (c::rest) H:=by
 letI:ZP:=XV;have e:=f.seq;refine V.Rr (z:=one _) (vs:=[ptr s 0,.int .u64 d]) func166 U i (by simp[ntmps166]) ?_ _ U;refine V.Zh (e _ _ _) ?_;refine Wa ?_;refine W.Za ?_;refine Xn [0,1,2,3] [4,5] ?_;refine W.stop ?_;refine V.GJ (e _ _ _).here (UA _) (sp:=sp) f.spec (by rw[Zg];exact h) ⟨⟨U,U,by simp[Frame.enter],U⟩,C0,⟨_,U⟩,U,U,U⟩ (λφ a k=>?_);obtain⟨o',t',l,m,n,o,p⟩:=j φ a k;refine⟨o',t',l,m,n,by rw[Zg];exact o,λb r=>?_⟩;rw[Wv];refine V.Zh (e _ _ _) ?_;refine W.part (A:=[]) Ο [5] [] U λF u=>?_;(try simp);(repeat (rw[Θ];simp));(try simp);apply u;refine W.ZB (.stop ?_);refine V.PM (e _ _ _) U U U U func166 U U λw C D E g=>?_;obtain rfl:C=[]:=YA.1 g.len;rintro y rfl;exact p b r w D E.ext g
theorem Gr (l:TR x s sp) (m:¬WY t) (n:Holds S B σ H)
  (o:∀φ a,Seen (ZH x s t v 1) s sp φ a->MQ Q mn (ZH x s t (some (φ,a)) 1) c rest S H (.int .u64 (YN a))\/∃t',Act a t a t'/\∀e,e<φ->MQ Q mn (ZH x s t' (some (e,a)) 1) c rest S H (.int .u64 (YN a))) :
  Y6 prog Q mn (ZH x s t v 1) (Frame.enter prog 168 #[ptr s 0] .normal) (c::rest) H:=by
 letI:ZP:=XV;have b:=l.seq;refine V.Rr (z:=one _) (vs:=[ptr s 0]) func168 U n (by simp[ntmps168]) ?_ _ U;refine V.Zh (b _ _ _) ?_;refine Wa ?_;refine W.Za ?_;refine Xn [0,1,2] [3,4] ?_;refine W.stop ?_;refine V.GK (b _ _ _).here (UA _) (sp:=sp) l.spec (by rw[Zg];exact m) ⟨⟨U,U,by simp[Frame.enter],U⟩,CZ,⟨_,U⟩,U,U,U⟩ (λφ a p=>(o φ a p).imp (λh=>?_) (λ⟨t',r,u⟩=>⟨t',by rw[Zg];exact r,λe w=>?_⟩))
 .unfold VT;rw[UG];refine V.Zh (b _ _ _) ?_;refine W.part (A:=[]) Ο [4] [] U λC f=>?_;(try simp);(repeat (rw[Θ];simp));(try simp);apply f;refine W.ZB (.stop ?_);refine V.PM (b _ _ _) U U U U func168 U U λg i j k d=>?_;obtain rfl:i=[]:=YA.1 d.len;rintro y rfl;exact h g j k.ext d
 .rw[Wv];refine V.Zh (b _ _ _) ?_;refine W.part (A:=[]) Ο [4] [] U λC f=>?_;(try simp);(repeat (rw[Θ];simp));(try simp);apply f;refine W.ZB (.stop ?_);refine V.PM (b _ _ _) U U U U func168 U U λg i j k d=>?_;obtain rfl:i=[]:=YA.1 d.len;rintro y rfl;exact u e w g j k.ext d
theorem u' (o:TR x s sp) (p:¬WY t) (r:Holds S B σ H) {e g:Int}
  (u:∀φ a,Seen (ZH x s t v 1) s sp φ a->¬YN a=e->MQ Q mn (ZH x s t (some (φ,a)) 1) c rest S H (.bool false))
  (w:∀φ a,Seen (ZH x s t v 1) s sp φ a->YN a=e->∃o' t',YN o'=g/\o'.YK=a.YK/\QF a o'/\Act a t o' t'/\∀f,f<φ->MQ Q mn (ZH x s t' (some (f,o')) 1) c rest S H (.bool true)) :
  Y6 prog Q mn (ZH x s t v 1) (Frame.enter prog 179 #[ptr s 0,.int .u64 e,.int .u64 g] .normal) (c::rest) H:=by
 letI:ZP:=XV;have b:=o.seq;refine V.Rr (z:=one _) (vs:=[ptr s 0,.int .u64 e,.int .u64 g]) func179 U r (by simp[ntmps179]) ?_ _ U;refine V.Zh (b _ _ _) ?_;refine Wa ?_;refine W.Za ?_;refine Xn [0,1,2,3,4] [5,6] ?_;refine W.stop ?_;refine V.we (b _ _ _).here (UA _) (sp:=sp) o.spec (by rw[Zg];exact p) ⟨⟨U,U,by simp[Frame.enter],U⟩,vD,⟨_,U⟩,U,U,U⟩ (λφ a i hv=>?_) (λφ a i hv=>?_)
 .have h:=u φ a i hv;unfold VT;rw[UG];refine V.Zh (b _ _ _) ?_;refine W.part (A:=[]) Ο [6] [] U λC j=>?_;(try simp);(repeat (rw[Θ];simp));(try simp);apply j;refine W.ZB (.stop ?_);refine V.PM (b _ _ _) U U U U func179 U U λk l m n d=>?_;obtain rfl:l=[]:=YA.1 d.len;rintro y rfl;exact h k m n.ext d
 .obtain⟨o',t',D,E,F,I,J⟩:=w φ a i hv;refine⟨o',t',D,E,F,by rw[Zg];exact I,λf K=>?_⟩;rw[Wv];refine V.Zh (b _ _ _) ?_;refine W.part (A:=[]) Ο [6] [] U λC j=>?_;(try simp);(repeat (rw[Θ];simp));(try simp);apply j;refine W.ZB (.stop ?_);refine V.PM (b _ _ _) U U U U func179 U U λk l m n d=>?_;obtain rfl:l=[]:=YA.1 d.len;rintro y rfl;exact J f K k m n.ext d
end
theorem Xb.OW {m nt:Nat} {S a:κ} {B:Z5} {H H':Τ} {env:Β} {t:ζ} (h:Xb m nt S B H [] env t) (b:∀p∈env,∃v,p.2=Ψ.z v) (c:Holds a [] [] H'):Xb 0 nt a [] H' [] env t:=⟨c,Lf b h.Y7,h.size,Z6 _⟩
theorem Y6.Gq [ZP] {P:Program} {d:Value->Prop} {mn:Bool} {x:ZU} {c b:Frame} {rest:YU} {H:Τ} {t:ζ} {k:Zz} {fn:Func} {f:FuncId} (e:Seq (one x)) (j:Seq (one {x with deaf:=x.deaf-1})) (hd:0<x.deaf) (g:b.mode=.run) (i:b.roundOf=none) (l:b.defers=[Go.Conc.dcall f #[]]) (m:b.kind=.normal) (n:P.funcs[b.fn]?=some fn) (o:fn.results=#[])
  (p:Entry P f (λ_=>do mark .enable;pure Extern.Race.none_)) (h:Y6 P d mn {x with deaf:=x.deaf-1} (c.finish (.tuple #[])) rest H):Y6 P d mn x (π b t (.code .ret::k)) (c::rest) H:=by
 refine γ.ret (x:=one x) e g i (λy a=>?_) x U;cases a;refine Y6.v7 e.here hd g i l p ?_;refine γ.back (f:={π {b with defers:=[]} t (.code .ret::k) with mode:=.returning}) (x:=one {x with deaf:=x.deaf-1}) j U U (.inl m) n ?_ _ U;rw[results_none o];refine Φ.pure' (λy a=>?_);cases a;exact h
section
variable {Q:Value->Prop} {mn:Bool} {x:ZU} {c:Frame} {rest:YU} {S:κ} {B:Z5} {σ:Ξ} {H:Τ} {s n p:Nat} {sp:Spec} {v:Option (Nat×Z')} {t:Tok}
theorem u9 (g:TR x s sp) (L:n<sp.top) (M:Holds S B σ H)
  (N:∀v,MQ Q mn (ZH x s (.par (n+1) (p+1) .add) v 0) c rest S H (.tuple #[])) :
  Y6 prog Q mn (ZH x s (.par n p .add) v 0) (Frame.enter prog 140 #[ptr s 0,.int .i64 1] .normal) (c::rest) H:=by
 letI:ZP:=XV;have e:=g.seq;refine V.Rr (z:=one _) (vs:=[ptr s 0,.int .i64 1]) func140 U M (by simp[ntmps140]) ?_ _ U;refine V.Zh (e _ _ _) ?_;refine Wa ?_;refine W.Za (.stop ?_);refine V.disable (e _ _ _).here ⟨⟨U,U,by simp[Frame.enter],U⟩,Lj,⟨_,U⟩,U,U,U⟩ ?_;rw[Lm];refine V.Zh (e _ _ _) ?_;refine W.ZB ?_;refine YQ ?_;refine W.Za (.stop ?_);refine V.GH (e _ _ _) ⟨U,U,by simp[Frame.enter],U⟩ U U U ?_;refine V.Zh (e _ _ _) ?_;refine W.ZB ?_;refine Wa ?_;refine W.Za (.stop ?_);refine V.IJ (e _ _ _) (vs:=[]) ⟨⟨U,U,by simp[Frame.enter],U⟩,C2,⟨_,U⟩,U,U,U⟩ ?_;refine V.Zh (e _ _ _) ?_;refine W.ZB ?_;refine Wa ?_;refine W.Za ?_;refine W.part (A:=[]) Ο [0,1,2,3,4,5] [6,7] U λO k=>?_;(try simp);(repeat (rw[Θ];simp[CH,CG]));(try simp[CH,CG]);apply k;refine W.stop ?_;refine V.call (e _ _ _) ⟨U,U,by simp[Frame.enter],U⟩ U U U ⟨_,func166,U,U⟩ λam P an t1 ao R o hv=>?_;obtain rfl:=To (l:=[ptr s 0,.int .u64 4294967296]) hv;obtain rfl:P=[]:=YA.1 o.holds.len;rintro y rfl;refine va g id o.holds λφ f j=>?_;have u:=j.Vi.PJ;rw[Zg] at u;obtain⟨C,ap,aq,ar,T⟩:=u.add n p U;have X:=IA g j.spec;have D:n<f.top:=by rw[show f.top=sp.top by rw[<-j.spec]];exact L
 have Y:∀a b c d:Nat,a=b+1->b<=c->c<d->d<7->a<8/\b<7/\0<a/\¬a=0:=λa b c d i au av aw=>J;obtain⟨cc,r⟩:=Ε (f.cnt+1);obtain⟨t,Z,aa,ax⟩:=Y cc f.cnt n f.top r T D X;have E:YN {f with cnt:=cc}=VW cc 0:=by rw[OX];simp only[C]
 refine⟨{f with cnt:=cc},.par (n+1) (p+1) .add,?_,U,⟨U,U,U⟩,by rw[r];exact .add D,λay az ab ad ae af=>?_⟩
 .rw[E,OX,C,vd f.cnt Z 0 ZT,r]
 have f1:=ID cc t 0 ZT
 have f2:=IC cc t 0 ZT
 have f3:=IB cc t 0 ZT;rw[E];generalize VW cc 0=w at f1 f2 f3;rw[VJ U];refine V.here (x:=one _) (m:=0) (nt:=117) ?_ ((o.put (a:=.z (.int .u64 w)) U (.z _)).OW Ω af) _ U;have F:∀(v:Option (Nat×Z')) (env:Β) (K:Zz),V prog Q mn (one (ZH x s (.par (n+1) (p+1) .add) v 1)) {Frame.enter prog 140 #[ptr s 0,.int .i64 1] .normal with defers:=[Go.Conc.dcall 161 #[]]} (c::rest) 117 ⟨ab,[],ad,[],0⟩ (.code .ret::K) env []:=λv env K ag ah ai t3 aj I=>by
  rintro y rfl;obtain rfl:ah=[]:=YA.1 I.holds.len;exact Y6.Gq (e _ _ _) (e _ _ 0) (UA _) U U U U func140 U OZ (N v ag ai ((R.ext.trans ae).trans aj.ext) I.holds)
 refine V.Zh (e _ _ _) ?_;refine W.part (A:=[]) Ο [7] [] U λO k=>?_;(try simp);(repeat (rw[Θ];simp));(try simp);apply k;refine W.ZB ?_;by_cases i:cc=1
 .refine V9 (Υ f1 (Υ f2 (Υ f3 (Υ @Gs i)))) ?_;refine W.Za ?_;refine Xn [0,1,2] [3,4] ?_;refine W.stop ?_;refine V.conv (e _ _ _).here (sp:=sp) g.spec (by rw[Zg];exact id) ⟨U,U,by simp[Frame.enter],U⟩ U U U CW OY CV U (λf w aA ak=>⟨_,ak.IQ⟩) (λφ f j=>?_);unfold VT;rw[UG];refine V.wi g.rel Zg Ω ⟨⟨U,U,by simp[Frame.enter],U⟩,vF,⟨_,U⟩,U,U,U⟩ ?_;refine V.Zh (e _ _ _) ?_;refine W.ZB ?_;refine V9 (Υ f1 (Υ f2 (Υ f3 (Υ @Gs i)))) ?_;exact .stop (F _ _ _)
 .have al:¬(cc:Int)=1:=λh=>i (by exact_mod_cast h);refine V9 (Υ f1 (Υ f2 (Υ f3 (Υ @Gs (Υ i (Υ al aa)))))) ?_;exact .stop (F _ _ _)
end
noncomputable def Lc:Code:=f146.body.getD .skip
noncomputable def SS:Code:=Yf [1,0,0] Lc
noncomputable def NZ:Zz:=[.inLoop SS,.inBlock 0]
theorem CF:XT .u64 0 2147483648=0:=ZT
theorem CE:XT .u64 0 2147483647=0:=ZT
theorem Iz:u32.wrap 0=0:=ZT
theorem CD:i32.wrap 0=0:=ZT
section
variable {Q:Value->Prop} {mn:Bool} {x:ZU} {c:Frame} {rest:YU} {S:κ} {B:Z5} {σ:Ξ} {H:Τ} {s n p:Nat} {sp:Spec} {v:Option (Nat×Z')} {t:Tok}
abbrev OV (Q:Value->Prop) (mn:Bool) (x:ZU) (c:Frame) (rest:YU) (S:κ) (H:Τ) (s:Nat) (t:Tok) (v:Option (Nat×Z')) (d:Nat) (K:Zz) (env:Β):Prop:=
 V prog Q mn (one (ZH x s t v d)) (Frame.enter prog 146 #[ptr s 0] .normal) (c::rest) 84 ⟨S,[],H,[],0⟩ K env []
def QD (Q:Value->Prop) (mn:Bool) (x:ZU) (c:Frame) (rest:YU) (S:κ) (H:Τ) (s n:Nat) (sp:Spec):Prop:=
 ∀(d:κ) (H':Τ) (e f:ο) (b a:Τ),Ext S [] H d [] H'->Holds d [] [] H'->e.Perm (List.range n)->T6 sp.D e b->(sp.ZK≠none->f.Perm (List.range n)/\sp.XI f a)->(sp.ZK=none->a=Τ.empty)->Apart H' b->Apart H' a->Apart b a->(∃w,Fits H' w/\Fits b w/\Fits a w)->
  ∀(v:Option (Nat×Z')) (h:κ) (g:Τ),Ext Xp [] (join (join H' b) a) h [] g->Y6 prog Q mn (ZH x s (.par n 0 .ZO) v 0) (c.finish (.tuple #[])) rest g
theorem QD.later {a:κ} {b:Τ} (h:QD Q mn x c rest S H s n sp) (d:Ext S [] H a [] b):QD Q mn x c rest a b s n sp:=
 λe H' f g i j k l m o p r t u w y v A B C=>h e H' f g i j (d.trans k) l m o p r t u w y v A B C
theorem CC (b:TR x s sp) (d:∀(v:Option (Nat×Z')) (e:κ) (a:Τ),Ext Xp [] H e [] a->Y6 prog Q mn (ZH x s (.par n 0 .ZO) v 0) (c.finish (.tuple #[])) rest a) {K:Zz} {env:Β}:OV Q mn x c rest Xp H s (.par n 0 .ZO) v 0 (.code .ret::K) env:=by
 letI:ZP:=XV;have f:=b.seq;refine V.GI (f _ _ _) U U U U func146 U λg h i j k=>?_;obtain rfl:h=[]:=YA.1 k.len;rintro y rfl;exact d v g i j.ext
theorem CB (a:TR x s sp) (e:QD Q mn x c rest S H s n sp):OV Q mn x c rest S H s (.par n 0 .SJ) v 1 (.code (Yf [0,1] SS)::.inBlock 1::NZ) [(0,.z (ptr s 0)),(2,.z (.int .u64 0))]:=by
 letI:ZP:=XV;have b:=a.seq;refine V.Zh (b _ _ _) ?_;unfold SS Lc;refine V9 (Υ @CF (Υ @CE (Υ @Iz @CD))) ?_;refine W.Za (.stop ?_);refine V.enable (b _ _ _).here (UA _) ⟨⟨U,U,by simp[Frame.enter],U⟩,OZ,⟨_,U⟩,U,U,U⟩ ?_;rw[Ll];refine V.Zh (b _ _ _) ?_;refine W.ZB ?_;refine W.Za ?_;refine Xn [0] [1,2] ?_;refine W.stop ?_;refine V.conv (b _ _ _).here (sp:=sp) a.spec (by rw[Zg];exact id) ⟨U,U,by simp[Frame.enter],U⟩ U U U Gx OY Gw U (λf w J g=>⟨_,g.S2⟩) (λφ f K=>?_);unfold VT;rw[UG];refine V.Kd a.rel U (sp:=sp) a.spec Zg (.inl U) ⟨⟨U,U,by simp[Frame.enter],U⟩,IG,⟨_,U⟩,U,U,U⟩ λh i j t1 k l o p r d t u y A C D E F=>?_;rw[Wv];obtain rfl:i=[]:=YA.1 d.holds.len;have I:=e h j k l o p r.ext d.holds t u y A C D E F;refine V.here (x:=one _) (S:=Xp) (B:=[]) (σ:=[]) (m:=0) (nt:=84) ?_ (d.none Ω) _ U;refine V.Zh (b _ _ _) ?_;refine W.ZB ?_;refine V9 (Υ @CF (Υ @CE (Υ @Iz @CD))) ?_;exact .stop (CC a I)
theorem u7 (e:TR x s sp) (p:QD Q mn x c rest S H s n sp):OV Q mn x c rest S H s (.par n 0 .w4) v 1 (.code (Yf [0,1,1,1,1,1,0,1,1,1,1] SS)::.inBlock 1::NZ) [(0,.z (ptr s 0))]:=by
 letI:ZP:=XV;have b:=e.seq;refine V.Zh (b _ _ _) ?_;unfold SS Lc;refine YQ ?_;refine W.Za ?_;refine Xn [0,1,2] [3,4,5] ?_;refine W.stop ?_;refine V.call (b _ _ _) ⟨U,U,by simp[Frame.enter],U⟩ U U U ⟨_,func168,U,U⟩ λi f j t1 ab g d hv=>?_;obtain rfl:=To (l:=[ptr s 0]) hv;obtain rfl:f=[]:=YA.1 d.holds.len;rintro y rfl;refine Gr e id d.holds λφ h k=>.inl λad ae r t=>?_;have o:=k.Vi.PJ;rw[Zg] at o;obtain⟨u,af,C⟩:=o.fin n 0 (.inr (.inl U));have D:YN h=0:=by simp only[YN,u,C];rfl
 rw[D,VJ U];have E:=p.later (g.ext.trans r);refine V.here (x:=one _) (m:=0) (nt:=84) ?_ ((d.put (a:=.z (.int .u64 0)) U (.z _)).OW Ω t) _ U;refine V.Zh (b _ _ _) ?_;refine W.part (A:=[]) Ο [4,5] [] U λag F=>?_;(try simp);(repeat (rw[Θ];simp));(try simp);apply F;refine W.ZB ?_;refine Wa ?_;refine W.Za (.stop ?_);refine V.enable (b _ _ _).here (UA _) ⟨⟨U,U,by simp[Frame.enter],U⟩,OZ,⟨_,U⟩,U,U,U⟩ ?_;rw[Ll];refine V.Zh (b _ _ _) ?_;refine W.ZB ?_;refine W.Za ?_;refine Xn [0] [1,2] ?_;refine W.stop ?_;refine V.conv (b _ _ _).here (sp:=sp) e.spec (by rw[Zg];exact id) ⟨U,U,by simp[Frame.enter],U⟩ U U U Gx OY Gw U (λh w ah I=>⟨_,I.S2⟩) (λφ h k=>?_);unfold VT;rw[UG];refine V.Kd e.rel U (sp:=sp) e.spec Zg (.inr U) ⟨⟨U,U,by simp[Frame.enter],U⟩,IG,⟨_,U⟩,U,U,U⟩ λi f j t1 J K L M g d N O P R T X Y Z=>?_;rw[Wv];obtain rfl:f=[]:=YA.1 d.holds.len;have aa:=E i j J K L M g.ext d.holds N O P R T X Y Z;refine V.here (x:=one _) (S:=Xp) (B:=[]) (σ:=[]) (m:=0) (nt:=84) ?_ (d.none Ω) _ U;refine V.Zh (b _ _ _) ?_;refine W.ZB ?_;refine Wa ?_;exact .stop (CC e aa)
theorem u6 {a b d:Nat} (h:a<=b) (c:b<7):a<8/\a<7:=J
theorem u5 {a b:Nat} (h:a<b):¬b=0:=J
theorem u4 (b:TR x s sp) (f:QD Q mn x c rest S H s n sp) {φ:Nat} {a:Z'}:OV Q mn x c rest S H s (.par n 0 .w3) (some (φ,a)) 1 (.code (Yf [0,1,1,1,1,1,0,1,1,1,0] SS)::.code (Yf [0,1,1,1,1,1,0,1,1,1,1] SS)::.inBlock 1::NZ) [(0,.z (ptr s 0)),(5,.z (.bool false))]:=by
 letI:ZP:=XV;have d:=b.seq;have woken:∀v,OV Q mn x c rest S H s (.par n 0 .w4) v 1 (.code (Yf [0,1,1,1,1,1,0,1,1,1,1] SS)::.inBlock 1::NZ) [(0,.z (ptr s 0))]:=λv=>u7 b f;refine V.Zh (d _ _ _) ?_;unfold SS Lc;refine W.Za ?_;refine Xn [0,1,2,3] [4] ?_;refine W.stop ?_;refine V.wa (d _ _ _).here (sp:=sp) b.spec (by rw[Zg];exact id) (vs:=[ptr s 1,.bool false]) U (λg e=>by rw[Lk e];exact b.still g e) ⟨⟨U,U,by simp[Frame.enter],U⟩,vy,⟨_,U⟩,U,U,U⟩ (λi a j h=>by rw[Zg];exact h) (λi a j h=>?_);refine⟨{a with YK:=a.YK-1},.par n 0 .w4,U,U,⟨U,U,U⟩,by rw[Zg];exact .wake h,λk l=>?_⟩;rw[Wv];refine V.Zh (d _ _ _) ?_;refine W.ZB ?_;refine W.forget [(0,.z (ptr s 0))] Ω (.stop ?_);exact woken _
theorem u3 (f:TR x s sp):∀(N φ:Nat) (b:Z') (S:κ) (H:Τ),φ<N->b.toSpec=sp->0<b.cnt->b.cnt<=b.top->b.wt=0->QD Q mn x c rest S H s n sp->
  OV Q mn x c rest S H s (.par n 0 .add) (some (φ,b)) 1 (.code (Yf [0,1] SS)::.inBlock 1::NZ) [(0,.z (ptr s 0)),(2,.z (.int .u64 (YN b)))]:=by
 letI:ZP:=XV;have e:=f.seq;intro N
 induction N with
 | zero=>intro φ b S H h;exact absurd h (Qi _)
 | succ N ah=>
  intro φ b S H ai O P aj ak g;have al:=IA f O;obtain⟨k,aD⟩:=u6 (d:=0) aj al;have f1:=ID b.cnt k 0 ZT;have f2:=IC b.cnt k 0 ZT;have f3:=IB b.cnt k 0 ZT;have f4:=vb b.cnt k;have R:YN b=VW b.cnt 0:=by rw[OX,ak]
  have T:¬b.cnt=0:=u5 P
  have am:¬(b.cnt:Int)=0:=λh=>T (by exact_mod_cast h);rw[<-R] at f1 f2 f3 f4;have sleep:∀(S H) (φ:Nat) (b:Z'),QD Q mn x c rest S H s n sp->OV Q mn x c rest S H s (.par n 0 .w3) (some (φ,b)) 1 (.code (Yf [0,1,1,1,1,1,0,1,1,1,0] SS)::.code (Yf [0,1,1,1,1,1,0,1,1,1,1] SS)::.inBlock 1::NZ) [(0,.z (ptr s 0)),(5,.z (.bool false))]:=λS H φ b g=>u4 f g;have an:∀(S H v),QD Q mn x c rest S H s n sp->OV Q mn x c rest S H s (.par n 0 .SJ) v 1 (.code (Yf [0,1] SS)::.inBlock 1::NZ) [(0,.z (ptr s 0)),(2,.z (.int .u64 0))]:=λS H v g=>CB f g;refine V.Zh (e _ _ _) ?_;unfold SS Lc;refine V9 (Υ f2 (Υ f3 (Υ T am))) ?_;refine W.Za ?_;refine W.part (A:=[]) Ο [0,1,2,3,4,5] [6] U λX i=>?_;(try simp);(repeat (rw[Θ];simp[f4]));(try simp[f4]);apply i;refine W.stop ?_;refine V.call (e _ _ _) ⟨U,U,by simp[Frame.enter],U⟩ U U U ⟨_,func179,U,U⟩ λaE ao aF t1 aG Y o hv=>?_;obtain rfl:=To (l:=[ptr s 0,.int .u64 (YN b),.int .u64 (VW b.cnt 1)]) hv;obtain rfl:ao=[]:=YA.1 o.holds.len;rintro y rfl;refine u' f id o.holds (λp r t hv ap aq D E=>?_) (λp r t hv=>?_)
  .have Z:=t.view φ b RX
   have ar:p<N:=by
    rcases OF p φ with h|h
    .exact KG h (Nat.le_of_lt_succ ai)
    .exact absurd (by rw[Z.2 (Nat.le_antisymm Z.1 h)]) hv
   have u:=g.later (Y.ext.trans D);rw[VJ U];refine V.here (x:=one _) (m:=0) (nt:=84) ?_ ((o.put (a:=.z (.bool false)) U (.z _)).OW Ω E) _ U;refine V.Zh (e _ _ _) ?_;refine W.ZB ?_;refine Η U ?_;refine YQ ?_;refine W.inLoop ?_;refine W.forget [(0,.z (ptr s 0))] Ω ?_;refine YQ ?_;refine W.Za ?_;refine Xn [0,1,2] [3,4] ?_;refine W.stop ?_;refine V.call (e _ _ _) ⟨U,U,by simp[Frame.enter],U⟩ U U U ⟨_,func168,U,U⟩ λaH au aI t3 aJ aa B av=>?_;obtain rfl:=To (l:=[ptr s 0]) av;obtain rfl:au=[]:=YA.1 B.holds.len;rintro y rfl;refine Gr f id B.holds λab j F=>?_;have I:=F.Vi.PJ;rw[Zg] at I;obtain⟨C,aw,ax,ay,az⟩:=I.add n 0 U;have aA:=F.view p r RX;by_cases J:j.cnt=0
   .refine .inr ⟨.par n 0 .SJ,.thru J,λaK aL ad ae K L=>?_⟩;have aB:YN j=0:=by simp only[YN,C,J];rfl
    rw[aB,VJ U];have M:=u.later (aa.ext.trans K);refine V.here (x:=one _) (m:=0) (nt:=84) ?_ ((B.put (a:=.z (.int .u64 0)) U (.z _)).OW Ω L) _ U;refine V.Zh (e _ _ _) ?_;refine W.part (A:=[]) Ο [4] [] U λX i=>?_;(try simp);(repeat (rw[Θ];simp));(try simp);apply i;refine W.ZB ?_;refine W.forget [(0,.z (ptr s 0)),(2,.z (.int .u64 0))] Ω (.stop ?_);exact an _ _ _ M
   .refine .inl λad ae K L=>?_;rw[VJ U];have M:=u.later (aa.ext.trans K);refine V.here (x:=one _) (m:=0) (nt:=84) ?_ ((B.put (a:=.z (.int .u64 (YN j))) U (.z _)).OW Ω L) _ U;refine V.Zh (e _ _ _) ?_;refine W.part (A:=[]) Ο [4] [] U λX i=>?_;(try simp);(repeat (rw[Θ];simp));(try simp);apply i;refine W.ZB ?_;refine W.forget [(0,.z (ptr s 0)),(2,.z (.int .u64 (YN j)))] Ω (.stop ?_);exact ah ab j ad ae (Qp aA.1 ar) F.spec (Nat.pos_of_ne_zero J) I.cnt C M
  .have af:=t.Vi.PJ;rw[Zg] at af;obtain⟨C,aw,ax,ay,az⟩:=af.add n 0 U;have ag:r.cnt=b.cnt:=by rw[R,OX,C] at hv;simp only[VW] at hv;omega
   refine⟨{r with wt:=1},.par n 0 .w3,?_,U,⟨U,U,U⟩,.Fl (by rw[ag];exact P),λab aM ap aq D E=>?_⟩
   .rw[OX];simp only[ag]
   rw[VJ U];have u:=g.later (Y.ext.trans D);refine V.here (x:=one _) (m:=0) (nt:=84) ?_ ((o.put (a:=.z (.bool true)) U (.z _)).OW Ω E) _ U;refine V.Zh (e _ _ _) ?_;refine W.ZB ?_;refine Ζ U ?_;refine Wa ?_;refine W.Za ?_;refine Xn [0,1,2] [3,4] ?_;refine W.stop ?_;refine V.conv (e _ _ _).here (sp:=sp) f.spec (by rw[Zg];exact id) ⟨U,U,by simp[Frame.enter],U⟩ U U U CW OY CV U (λb w O aC=>⟨_,aC.IQ⟩) (λφ b t=>?_);unfold VT;rw[UG];refine V.wh f.rel Zg Ω ⟨⟨U,U,by simp[Frame.enter],U⟩,vE,⟨_,U⟩,U,U,U⟩ ?_;refine V.Zh (e _ _ _) ?_;refine W.ZB ?_;refine V9 f1 ?_;refine W.forget [(0,.z (ptr s 0)),(5,.z (.bool false))] Ω (.stop ?_);exact sleep _ _ _ _ u
theorem u2 (e:TR x s sp) (E:Holds S B σ H) (p:QD Q mn x c rest S H s n sp) :
  Y6 prog Q mn (ZH x s (.par n 0 .add) v 0) (Frame.enter prog 146 #[ptr s 0] .normal) (c::rest) H:=by
 letI:ZP:=XV;have b:=e.seq;refine V.Rr (z:=one _) (vs:=[ptr s 0]) func146 U E (by simp[ntmps146]) ?_ _ U;refine V.Zh (b _ _ _) ?_;refine Wa ?_;refine W.Za (.stop ?_);refine V.disable (b _ _ _).here ⟨⟨U,U,by simp[Frame.enter],U⟩,Lj,⟨_,U⟩,U,U,U⟩ ?_;rw[Lm];refine V.Zh (b _ _ _) ?_;refine W.ZB ?_;refine YQ ?_;refine W.loop ?_;refine YQ ?_;refine W.Za ?_;refine Xn [0,1,2] [3,4] ?_;refine W.stop ?_;refine V.call (b _ _ _) ⟨U,U,by simp[Frame.enter],U⟩ U U U ⟨_,func168,U,U⟩ λL F M t3 N r f I=>?_;obtain rfl:=To (l:=[ptr s 0]) I;obtain rfl:F=[]:=YA.1 f.holds.len;rintro y rfl;refine Gr e id f.holds λt d u=>?_;have g:=u.Vi.PJ;rw[Zg] at g;obtain⟨w,O,P,R,T⟩:=g.add n 0 U;by_cases h:d.cnt=0
 .refine .inr ⟨.par n 0 .SJ,.thru h,λX Y C D i j=>?_⟩;have J:YN d=0:=by simp only[YN,w,h];rfl
  rw[J,VJ U];have k:=p.later (r.ext.trans i);refine V.here (x:=one _) (m:=0) (nt:=84) ?_ ((f.put (a:=.z (.int .u64 0)) U (.z _)).OW Ω j) _ U;refine V.Zh (b _ _ _) ?_;refine W.part (A:=[]) Ο [4] [] U λK o=>?_;(try simp);(repeat (rw[Θ];simp));(try simp);apply o;refine W.ZB ?_;refine W.forget [(0,.z (ptr s 0)),(2,.z (.int .u64 0))] Ω (.stop ?_);exact CB e k
 .refine .inl λC D i j=>?_;rw[VJ U];have k:=p.later (r.ext.trans i);refine V.here (x:=one _) (m:=0) (nt:=84) ?_ ((f.put (a:=.z (.int .u64 (YN d))) U (.z _)).OW Ω j) _ U;refine V.Zh (b _ _ _) ?_;refine W.part (A:=[]) Ο [4] [] U λK o=>?_;(try simp);(repeat (rw[Θ];simp));(try simp);apply o;refine W.ZB ?_;refine W.forget [(0,.z (ptr s 0)),(2,.z (.int .u64 (YN d)))] Ω (.stop ?_);exact u3 e (t+1) t d C D (Qj _) u.spec (Nat.pos_of_ne_zero h) g.cnt w k
end
end Go.TL
namespace Go.TL
open Go.IntKind (i32 i64 u32 u64)
open Go.Proofs.Tryz
open Go.Conc Go.Proofs
open Go.ConcN (sumTo upd sumTo_upd upd_ne upd_same sumTo_congr le_sumTo)
variable [ZP]
def Y8.MP:Y8->Ψ->Prop
 | .ok a,b=>a=b
 | .Y0 p r,b=>p/\r.MP b
 | .bad,_=>False
def Vq (P:Program) {b:Type} (s:Sem b) (a:b):Prop:=∀w,s.run P w=.ok a w/\∀es,s.events P w es=es
section
variable {P:Program} {T:ZR} {α β:Type}
theorem Vq.pure (a:α):Vq P (Pure.pure a) a:=λw=>⟨Ω,λes=>Ω⟩
theorem Vq.bind {s:Sem α} {f:α->Sem β} {a:α} {b:β} (h:Vq P s a) (k:Vq P (f a) b):Vq P (s >>= f) b:=λw=>⟨by simp[(h w).1,(k w).1,Result.andThen],λes=>by simp[(h w).1,(h w).2,(k w).2,Result.evThen]⟩
theorem Vq.program:Vq P Go.program P:=λw=>⟨Ω,λes=>Ω⟩
theorem Vq.underlying {t:TypeId} {d:TypeDesc} (h:P.underlying t=some d):Vq P (Go.underlying t) d:=λw=>⟨run_underlying h w,λes=>Ω⟩
theorem Vq.sizeOf {t:TypeId} {i:TypeInfo} (hi:P.info? t=some i):Vq P (Go.sizeOf t) i.size:=by
 unfold Go.sizeOf Go.typeInfo;refine Vq.bind (Vq.bind .program ?_) (Vq.pure _);show Vq P (match P.info? t with|some i=>Pure.pure i|none=>_) i;rw[hi];exact .pure _
theorem u1 {d:BinOp} {f:TypeId} {p q:Operand} {x y v:Value} (h:(P8 d x y).MP (.z v)):Vq P (do eqGuard d f p q x y;binOp d f x y) v:=by
 unfold P8 at h;split at h
 case h_25=>exact h.elim
 case h_1=>
  obtain⟨a,b⟩:=h;cases b;have c:¬(_:Int)<0:=OE.2 a;simp only[eqGuard,binOp,Op.shift,c,if_false];exact .pure _
 case h_2=>
  obtain⟨a,b⟩:=h;cases b;have c:¬(_:Int)<0:=OE.2 a;simp only[eqGuard,binOp,Op.shift,c,if_false];exact .pure _
 case h_6=>
  split at h
  .rename_i e;subst e;obtain⟨a,b⟩:=h;cases b;simp only[eqGuard,binOp,Op.intDiv,a,if_false,ne_eq,not_true_eq_false];exact .pure _
  .exact h.elim
 case h_7=>
  split at h
  .rename_i e;subst e;obtain⟨a,b⟩:=h;cases b;simp only[eqGuard,binOp,Op.intDiv,a,if_false,ne_eq,not_true_eq_false];exact .pure _
  .exact h.elim
 case h_18=>
  obtain⟨a,b⟩:=h;cases b;have c:¬((_:Int) > i64.max):=OE.2 a;simp only[eqGuard,binOp,Op.stringOp,c,if_false];exact .pure _
 all_goals first
  |(cases h;exact .pure _)
  |(split at h
    .rename_i e;subst e;cases h;simp only[eqGuard,binOp,Op.intArith,Op.intBits,Op.intCmp,ne_eq,not_true_eq_false,if_false];exact .pure _
    .exact h.elim)
def MO (T:ZR) (env:Β) (o:Oper):Y8:=match o.op with
 | .move x=>.ok (ε env x)
 | .assign x=>.ok (ε env x)
 | .pick c a b=>Nb (ε env c) (ε env a) (ε env b)
 | .binOp e _ x y _=>match ε env x,ε env y with
  | .z a,.z b=>P8 e a b
  | _,_=>.bad
 | .unOp e _ x=>Nm e (ε env x)
 | .convert s d x=>Nd T s d (ε env x)
 | .nilCheck x=>match ε env x with
  | .z (.pointer (some a))=>.ok (.z (.pointer (some a)))
  | _=>.bad
 | .fieldAddr g x f=>match ε env x with
  | .z (.pointer (some ⟨b,o',none⟩))=>match W5 T g f with|some (o,_)=>.ok (.z (.pointer (some ⟨b,o'+o,none⟩)))|none=>.bad
  | _=>.bad
 | _=>.bad
theorem uZ (m:Zv P T) {env:Β} {o:Oper} {v:Value} (h:(MO T env o).MP (.z v)) {ρ:Operand->Value} (d:∀y u,ε env y=.z u->ρ y=u):Vq P (execOp ρ o) (.value v):=by
 have l:∀{s:Sem Value} {u:Value},Vq P s u->Vq P (do Pure.pure (Next.value (<-s))) (.value u):=λA=>.bind A (.pure _);unfold MO at h;unfold execOp;split at h<;>rename_i B<;>first|(rw[B];simp only)|exact h.elim
 .rw[d _ _ h];exact .pure _
 .rw[d _ _ h];exact .pure _
 .rename_i c a b;unfold Nb at h;split at h
  .rename_i p C;rw[d _ _ C];refine Vq.bind (a:=p) (Vq.pure _) ?_;split at h
   .rename_i y z r D;cases h;rw[d _ _ r,d _ _ D];cases p<;>exact .pure _
   .cases p with
    | true=>rw[d a v h];exact .pure _
    | false=>rw[d b v h];exact .pure _
  .exact h.elim
 .split at h
  .rename_i x y g r;rw[d _ _ g,d _ _ r];exact l (u1 h)
  .exact h.elim
 .unfold Nm at h;split at h
  .rename_i p t;rw[d _ _ t];split at h
   .cases h;exact l (.pure _)
   .exact h.elim
  .rename_i k n t;rw[d _ _ t];split at h
   .cases h;exact l (.pure _)
   .exact h.elim
  .exact h.elim
 .unfold Nd at h;split at h
  .rename_i i j hi E;split at h
   .rename_i k kk n w g;cases h;rw[d _ _ g];refine l ?_;unfold convert;refine .bind (.underlying (m _ _ hi).1.1) (.bind (.underlying (m _ _ E).1.1) ?_);rw[w];exact .pure _
   .exact h.elim
  .exact h.elim
 .split at h
  .rename_i a g;cases h;rw[d _ _ g];exact .pure _
  .exact h.elim
 .split at h
  .rename_i b o' g;rw[d _ _ g];split at h
   .rename_i K L e;cases h;refine l ?_;unfold W5 at e;split at e<;>try cases e
    rename_i i hi;split at e<;>try cases e
    rename_i M w;split at e<;>try cases e
    rename_i x g;split at e<;>try cases e
    rename_i N F;split at e<;>try cases e
    rename_i H;unfold Instr.fieldAt;refine .bind (.underlying (m _ _ hi).1.1) ?_;rw[w];simp only[g];refine .bind (a:=⟨b,o',none⟩) (.pure _) ?_;obtain⟨f,I,J,_⟩:=(m _ _ F).2;refine .bind (a:=⟨b,o'+x.offset,none⟩) ?_ (.pure _);unfold fieldPlace;refine .bind (.sizeOf I) ?_;rw[J,if_neg H,Pk];exact .pure _
   .exact h.elim
  .exact h.elim
end
theorem uY (vs:List Value) {nt:Nat} (d:vs.length<=nt):Yv Xp [] [] (entry 0 (vs.map Ψ.z)) (vs.toArray++Array.replicate (nt-vs.length) undef):=by
 have e:XN Xp [] [] (vs.map Ψ.z) vs.toArray:=⟨Ω,λi a v b c=>by
  simp only[Yc,List.getElem?_toArray] at b c;rw[c] at b;cases b;exact .z v⟩
 have:=(Xb.enter (MR Τ.empty) (m:=0) (nt:=nt) e (Z6 _) (by simpa using d)).Y7;simpa using this
def Gp (P:Program) (mn:Bool) (a:Goroutine->Prop):Prop:=∀g g',Vy g->(∀w,stepG P mn g w=.go g' w #[])->a g'->a g
def Γ (a:Goroutine->Prop) (b:Frame) (cs:YU) (nt:Nat) (k:Zz) (env:Β):Prop:=∀t:ζ,t.size=nt->Yv Xp [] [] env t->a (Go.Conc.G (π b t k) cs)
def Tk (T:ZR) (nt:Nat) (ops:ZC):ο->Β->(Β->Prop)->Prop
 | [],env,K=>K env
 | i::is,env,K=>W3 ops[i]? λo=>Wz nt o=true/\W3 (Xx env ops o) λw=>
   V1 w (Tk T nt ops is (Zn o env .Ze) K) (∃v,(MO T env o).MP (.z v)/\Tk T nt ops is (Zn o env (.z v)) K)
theorem NY {T:ZR} {nt:Nat} {ops:ZC} {env:Β} {K:Β->Prop}:Tk T nt ops [] env K=K env:=Xk rfl rfl
def NX (T:ZR) (nt:Nat) (ops:ZC) (is:ο) (o:Oper) (env:Β) (K:Β->Prop):Y8->Prop
 | .ok (.z v)=>Tk T nt ops is (Zn o env (.z v)) K
 | .Y0 p (.ok (.z v))=>p/\Tk T nt ops is (Zn o env (.z v)) K
 | _=>False
theorem uX {T:ZR} {nt:Nat} {ops:ZC} {is:ο} {o:Oper} {env:Β} {K:Β->Prop} {v:Value}:NX T nt ops is o env K (.ok (.z v))=Tk T nt ops is (Zn o env (.z v)) K:=Xk rfl rfl
theorem uW {T:ZR} {nt:Nat} {ops:ZC} {is:ο} {o:Oper} {env:Β} {K:Β->Prop} {v:Value} {p:Prop}:NX T nt ops is o env K (.Y0 p (.ok (.z v)))=(p/\Tk T nt ops is (Zn o env (.z v)) K):=Xk rfl rfl
theorem uV {T:ZR} {nt:Nat} {ops:ZC} {is:ο} {o:Oper} {env:Β} {K:Β->Prop} {r r':Y8} (h:r=r'):NX T nt ops is o env K r=NX T nt ops is o env K r':=by rw[h]
theorem uU {T:ZR} {nt:Nat} {ops:ZC} {is:ο} {o:Oper} {env:Β} {K:Β->Prop} {r:Y8} (h:NX T nt ops is o env K r):∃v,r.MP (.z v)/\Tk T nt ops is (Zn o env (.z v)) K:=by
 unfold NX at h;split at h
 .exact⟨_,U,h⟩
 .exact⟨_,⟨h.1,U⟩,h.2⟩
 .exact h.elim
theorem Wt {T:ZR} {nt:Nat} {ops:ZC} {i:Nat} {is:ο} {env:Β} {K:Β->Prop} (h:W3 ops[i]? λo=>Wz nt o=true/\W3 (Xx env ops o) λw=>V1 w (Tk T nt ops is (Zn o env .Ze) K) (NX T nt ops is o env K (MO T env o))):Tk T nt ops (i::is) env K:=by
 unfold Tk;unfold W3 at h ⊢;split at h
 .exact h.elim
 rename_i o a;refine⟨h.1,?_⟩
 replace h:=h.2
 split at h
 .exact h.elim
 rename_i w b;exact⟨h.1,λe=>uU (h.2 e)⟩
section
variable {P:Program} {T:ZR} {mn:Bool} {X7:Goroutine->Prop} {b:Frame} {cs:YU} {nt:Nat} {k:Zz} {env:Β} {ops:ZC} {i:Nat} {rest:ο} {op:Oper}
variable (WO:Gp P mn X7) (hb:b.mode=.run)
include WO hb
theorem Γ.to {a:Zz} (c:∀t w,stepG.exec P mn true (π b t k) cs none w=.go (Go.Conc.G (π b t a) cs) w #[]) (h:Γ X7 b cs nt a env):Γ X7 b cs nt k env:=
 λt d e=>WO _ _ ⟨U,U⟩ (λw=>(Vn hb w).trans (c t w)) (h t d e)
theorem Γ.skip (h:Γ X7 b cs nt k env):Γ X7 b cs nt (.code .skip::k) env:=.to WO hb (λ_ _=>rfl) h
theorem Γ.inBlock {l:Nat} (h:Γ X7 b cs nt k env):Γ X7 b cs nt (.inBlock l::k) env:=.to WO hb (λ_ _=>rfl) h
theorem Γ.seq {a c:Code} (h:Γ X7 b cs nt (.code a::.code c::k) env):Γ X7 b cs nt (.code (.seq a c)::k) env:=.to WO hb (λ_ _=>rfl) h
theorem Γ.block {l:Nat} {c:Code} (h:Γ X7 b cs nt (.code c::.inBlock l::k) env):Γ X7 b cs nt (.code (.block l c)::k) env:=.to WO hb (λ_ _=>rfl) h
theorem Γ.loop {c:Code} (h:Γ X7 b cs nt (.code c::.inLoop c::k) env):Γ X7 b cs nt (.code (.loop c)::k) env:=.to WO hb (λ_ _=>rfl) h
theorem Γ.inLoop {c:Code} (h:Γ X7 b cs nt (.code c::.inLoop c::k) env):Γ X7 b cs nt (.inLoop c::k) env:=.to WO hb (λ_ _=>rfl) h
theorem Γ.Za {id:Nat} {ops:ZC} (h:Γ X7 b cs nt (.inRegion ops (idx ops.size [])::k) env):Γ X7 b cs nt (.code (.region id ops false)::k) env:=.to WO hb (λ_ _=>by rw[idx_eq];rfl) h
theorem Γ.ZB {ops:ZC} (h:Γ X7 b cs nt k env):Γ X7 b cs nt (.inRegion ops []::k) env:=.to WO hb (λ_ _=>rfl) h
theorem Γ.exit {l:Nat} {a:Zz} (c:exitTo l k=some a) (h:Γ X7 b cs nt a env):Γ X7 b cs nt (.code (.exit l)::k) env:=by
 refine .to WO hb (λt w=>?_) h;unfold stepG.exec;simp only[π,c,Option.elim];rfl
theorem Γ.cond {c:Operand} {a e:Code} {v:Bool} (g:ε env c=.z (.bool v)) (h:Γ X7 b cs nt (.code (if v then a else e)::k) env):Γ X7 b cs nt (.code (.cond c a e)::k) env:=by
 intro t i d;refine WO _ _ ⟨U,U⟩ (λw=>?_) (h t i d);rw[Vn hb w];have f:(π b t (.code (.cond c a e)::k)).eval c=.bool v:=by rw[LV];exact IU d g
 unfold stepG.exec;simp only[π] at f ⊢;rw[f];rfl
theorem Γ.Tj {c:Operand} {a e:Code} (d:ε env c=.z (.bool true)) (h:Γ X7 b cs nt (.code a::k) env):Γ X7 b cs nt (.code (.cond c a e)::k) env:=.cond WO hb d h
theorem Γ.Ti {c:Operand} {a e:Code} (d:ε env c=.z (.bool false)) (h:Γ X7 b cs nt (.code e::k) env):Γ X7 b cs nt (.code (.cond c a e)::k) env:=.cond WO hb d h
theorem Gn {t:ζ} (h:Yv Xp [] [] env t) (hd:Wz nt op=true) (b:t.size=nt) {a:Ψ} {v:Value} (c:υ Xp [] [] a v):(put op t v).size=nt/\Yv Xp [] [] (Zn op env a) (put op t v):=⟨(QT h hd b c).2,(QT h hd b c).1⟩
theorem Γ.unwanted (c:ops[i]?=some op) (e:Xx env ops op=some false) (hd:Wz nt op=true) (h:Γ X7 b cs nt (.inRegion ops rest::k) (Zn op env .Ze)):Γ X7 b cs nt (.inRegion ops (i::rest)::k) env:=by
 intro t f d;obtain⟨g,j⟩:=Gn (b:=b) WO hb d hd f (a:=.Ze) (v:=undef) (.Ze _);refine WO _ _ ⟨U,U⟩ (λw=>?_) (h _ g j);rw[Vn hb,<-VJ c];have l:((ops[i]?).map (Region.wanted · (yielded ops t))).getD false=false:=by simp[c,UO d e]
 unfold stepG.exec;simp only[π,l];rfl
theorem Γ.opn (f:Zv P T) (d:b.roundOf=none) (g:b.kind≠.early) (j:ops[i]?=some op) (l:Xx env ops op=some true) (hd:Wz nt op=true) {v:Value} (hv:(MO T env op).MP (.z v)) (h:Γ X7 b cs nt (.inRegion ops rest::k) (Zn op env (.z v))):Γ X7 b cs nt (.inRegion ops (i::rest)::k) env:=by
 intro t m c;obtain⟨n,o⟩:=Gn (b:=b) WO hb c hd m (a:=.z v) (v:=v) (.z v);refine WO _ _ ⟨U,U⟩ (λw=>?_) (h _ n o);have e:=uZ f hv (ρ:=ZJ t) λy u p=>IU c p;rw[WJ hb d,WJ hb d,<-O2,stepG_value (a:=⟨t,b.defers⟩) j (UO c l) g (by rw[TS];exact(e w).1)];unfold listed;rw[TS,(e w).2,seen_none]
theorem Γ.part (g:Zv P T) (j:b.roundOf=none) (m:b.kind≠.early) (is a:ο) {l:ο} (n:l=is++a) (h:∀c:Β->Prop,(∀env,Γ X7 b cs nt (.inRegion ops a::k) env->c env)->Tk T nt ops is env c):Γ X7 b cs nt (.inRegion ops l::k) env:=by
 subst n;have p:∀(is:ο) (env:Β),Tk T nt ops is env (λenv=>Γ X7 b cs nt (.inRegion ops a::k) env)->Γ X7 b cs nt (.inRegion ops (is++a)::k) env:=by
  intro is
  induction is with
  | nil=>intro env h;exact h
  | cons i is d=>
   intro env h;unfold Tk W3 at h;split at h
   .exact h.elim
   rename_i o e;obtain⟨hd,h⟩:=h;split at h
   .exact h.elim
   rename_i w f;cases w with
   | false=>exact .unwanted WO hb e f hd (d _ (h.1 rfl))
   | true=>
    obtain⟨v,r,s⟩:=h.2 U;exact .opn WO hb g j m e f hd r (d _ s)
 exact p is env (h _ λ_ h=>h)
theorem Γ.region (c:Zv P T) (d:b.roundOf=none) (e:b.kind≠.early) {id:Nat} (h:∀a:Β->Prop,(∀env,Γ X7 b cs nt k env->a env)->Tk T nt ops (idx ops.size []) env a):Γ X7 b cs nt (.code (.region id ops false)::k) env:=by
 refine .Za WO hb (.part WO hb c d e (idx ops.size []) [] Ω λa f=>h a λenv g=>f env (.ZB WO hb g))
theorem Γ.IJ (d:Tp b ops i op) (e:Xx env ops op=some true) (hd:Wz nt op=true) {f:FuncId} {args:Array Operand} {g:Array TypeId} (j:op.op=.call ⟨.value (.func f),args,g⟩) {v:Value} (l:Entry P f (λ_=>pure v)) (h:Γ X7 b cs nt (.inRegion ops rest::k) (Zn op env (.z v))):Γ X7 b cs nt (.inRegion ops (i::rest)::k) env:=by
 intro t m c;obtain⟨n,o⟩:=Gn (b:=b) WO hb c hd m (a:=.z v) (v:=v) (.z v);exact WO _ _ ⟨U,U⟩ (λw=>IV l d (UO c e) j (vs:=args.map (ZJ t)) U Ω Ω Ω) (h _ n o)
theorem Γ.GH (c:Tp b ops i op) (e:Xx env ops op=some true) (g:op.dst=none) {f:FuncId} {j:Array TypeId} (l:op.op=.defer ⟨.value (.func f),#[],j⟩)
  (h:Γ X7 {b with defers:=Go.Conc.dcall f #[]::b.defers} cs nt (.inRegion ops rest::k) env):Γ X7 b cs nt (.inRegion ops (i::rest)::k) env:=by
 intro t m d;refine WO _ (Go.Conc.G (π {b with defers:=Go.Conc.dcall f #[]::b.defers} t (.inRegion ops rest::k)) cs) ⟨U,U⟩ (λw=>?_) (h t m d);rw[WJ c.run c.ro,stepG_defer (a:=⟨t,b.defers⟩) c.op (UO d e) c.kd l];have:(⟨t,Go.Conc.dcall f #[]::b.defers⟩:_root_.Go.Act).put op.dst undef=⟨t,Go.Conc.dcall f #[]::b.defers⟩:=by rw[g];rfl
 simp only[Array.map_empty,List.map_toArray,TF];rw[this,WJ (b:={b with defers:=Go.Conc.dcall f #[]::b.defers}) c.run c.ro];rfl
theorem Γ.call (c:Tp b ops i op) (o:Xx env ops op=some true) {args:Array Operand} {p:Array TypeId} {g:FuncId} (r:op.op=.call ⟨.value (.func g),args,p⟩) {vs:List Value} (s:Lo env args vs) {fn:Func} {body:Code} (l:P.funcs[g]?=some fn) (u:(fn.name == "runtime.NumGoroutine")=false) (d:fn.body=some body) (v:vs.length<=fn.ntmps)
  (h:∀t:ζ,t.size=nt->Yv Xp [] [] env t->Γ X7 (Frame.enter P g vs.toArray .normal) (π b t (.inRegion ops (i::rest)::k)::cs) fn.ntmps [.code body] (entry 0 (vs.map Ψ.z))):Γ X7 b cs nt (.inRegion ops (i::rest)::k) env:=by
 intro t f j;have m:=h t f j (vs.toArray++Array.replicate (fn.ntmps-vs.length) undef) (by simp;omega) (uY vs v);rw[show vs.toArray++Array.replicate (fn.ntmps-vs.length) undef=vs.toArray++Array.replicate (fn.ntmps-vs.toArray.size) undef by simp,<-Rw l d] at m;refine WO _ _ ⟨U,U⟩ (λw=>?_) m;have x:(fn.name == "runtime.NumGoroutine")=false:=u;have y:fn.body.isNone=false:=by rw[d];rfl
 have n:(execOp (ZJ t) op).run P w=.ok (.enter g vs.toArray) w/\(execOp (ZJ t) op).events P w #[]=#[]:=by
  have e:execOp (ZJ t) op=callFunc g vs.toArray:=by
   unfold execOp;rw[r];have:args.map (ZJ t)=vs.toArray:=s.ZJ j;simp only[resolve];rw[this];simp[Deferred.ofValue,Go.TL.ZJ,invoke]
  rw[e];unfold callFunc;have f:¬fn.name = "runtime.NumGoroutine" := by simpa using x
  simp[l,f,d]
 rw[WJ c.run c.ro,stepG_enter (a:=⟨t,b.defers⟩) c.op (UO j o) c.kd (by rw[TS];exact n.1)];unfold listed;rw[TS,n.2,seen_none]
theorem Γ.PM (e:b.roundOf=none) (g:b.defers=[]) (i:b.kind=.normal) {fn:Func} (j:P.funcs[b.fn]?=some fn) {d:Nat} (f:fn.results=#[.tmp d]) {v:Value} (hv:Z3 env d=.z v) {c:Frame}
  (h:X7 (Go.Conc.G (c.finish v) cs)):Γ X7 b (c::cs) nt (.code .ret::k) env:=by
 intro t n l;have m:t.getD d undef=v:=by
  have:=l d;rw[hv] at this;generalize t.getD d undef=u at this;cases this;rfl
 refine WO _ (Go.Conc.G {π b t (.code .ret::k) with mode:=.returning} (c::cs)) ⟨U,U⟩ (λw=>?_) (WO _ _ ⟨U,U⟩ (λw=>?_) h)
 .rw[Vn hb];unfold stepG.exec;simp only[π,e];rfl
 .rw[WJ hb e,stepG_leave (a:=⟨t,b.defers⟩) i g j (results_tmp f _ P w) (events_results_tmp f _ _),m]
theorem Γ.IK (d:b.roundOf=none) (f:b.defers=[]) (g:b.kind=.normal) {fn:Func} (i:P.funcs[b.fn]?=some fn) (e:fn.results=#[]) {c:Frame}
  (h:X7 (Go.Conc.G (c.finish (.tuple #[])) cs)):Γ X7 b (c::cs) nt [] env:=by
 intro t j k;refine WO _ (Go.Conc.G {π b t [] with mode:=.returning} (c::cs)) ⟨U,U⟩ (λw=>?_) (WO _ _ ⟨U,U⟩ (λw=>?_) h)
 .rw[Vn hb];unfold stepG.exec;simp only[π,d];rfl
 .rw[WJ hb d,stepG_leave (a:=⟨t,b.defers⟩) g f i (Go.results_none e _ P w) (Go.Conc.events_results_none e _ _)]
end
attribute [congr] uV
attribute [simp] NY uX uW MO
def UF (P:Program) (a:Value->Prop) (mn:Bool) (y:ZU) (g:Goroutine):Prop:=Vy g/\Goes P a mn g {y with G:=Τ.empty}
def Uf (P:Program) (d:Nat) (g:Goroutine):Prop:=∃n,QuitsD P n d g
theorem ZI {P:Program} {c:Value->Prop} {mn:Bool} {y:ZU} (d:XB y):Gp P mn (UF P c mn y):=λg g' a e b=>⟨a,Quiet.goes (.cons a e (.nil _)) d b.1 b.2⟩
theorem X8 {P:Program} {d:Nat}:Gp P false (Uf P d):=λg g' a b ⟨n,c⟩=>⟨n+1,.ctl a.1 b c⟩
section
variable {P:Program} {Q:Value->Prop} {mn:Bool} {y:ZU} {b:Frame} {cs:YU} {nt:Nat} {k:Zz} {env:Β}
variable {ops:ZC} {i:Nat} {rest:ο} {op:Oper} {f:FuncId} {e:ζ->Sem Value} {args:Array Operand} {vs:List Value}
theorem Γ.leaves {d:Nat} (a:y.rel=true) (c:∀s,Gone (y.tok s)) (hd:y.deaf=d) (h:Γ (Uf P d) b cs nt k env):Γ (UF P Q false y) b cs nt k env:=λt e f=>by
 obtain⟨n,g⟩:=h t e f;subst hd;exact⟨⟨U,U⟩,Goes.quits n a c g⟩
theorem Γ.disable (d:XB y) (h:Ww P b ops i op f (λ_=>do mark .disable;pure Extern.Race.none_) args env [] nt) (e:Γ (UF P Q mn {y with deaf:=y.deaf+1}) b cs nt (.inRegion ops rest::k) (Zn op env Sr)):Γ (UF P Q mn y) b cs nt (.inRegion ops (i::rest)::k) env:=λt g c=>by
 obtain⟨j,l⟩:=QT c h.dst g (a:=Sr) (v:=.tuple #[]) (.z _);exact⟨⟨U,U⟩,Goes.step d.ok (.inr ⟨⟨U,U⟩,.inr (.inl ⟨Go.Conc.G (π b (put op t (.tuple #[])) (.inRegion ops rest::k)) cs,⟨U,U⟩,.inl λw _=>
  ⟨h.step c (IT .disable) (IS .disable _) (QK Ω),(e _ l j).2⟩⟩)⟩)⟩
def Gm (P:Program) (Q:Value->Prop) (mn:Bool) (y:ZU) (b:Frame) (cs:YU) (nt:Nat) (ops:ZC) (rest:ο) (k:Zz) (op:Oper) (env:Β) (s φ:Nat) (a:Z') (v:Value):Prop:=
 Γ (UF P Q mn {y with view:=upd y.view s (some (φ,a))}) b cs nt (.inRegion ops rest::k) (Zn op env (.z v))
def Iy (P:Program) (Q:Value->Prop) (mn:Bool) (y:ZU) (b:Frame) (cs:YU) (nt:Nat) (ops:ZC) (rest:ο) (k:Zz) (op:Oper) (env:Β) (s φ:Nat) (c:Z') (v:Value) (o':Z') (t':Tok):Prop:=
 Act c (y.tok s) o' t'/\∀a,a<φ->Γ (UF P Q mn {y with tok:=upd y.tok s t',view:=upd y.view s (some (a,o'))}) b cs nt (.inRegion ops rest::k) (Zn op env (.z v))
theorem Γ.ext (r:XB y) {s:Nat} {sp:Spec} (u:y.spec s=some sp) (x:¬WY (y.tok s)) (h:Ww P b ops i op f e args env vs nt)
  (A:∀(w:World) (φ:Nat) (c:Z'),Seen y s sp φ c->At s c w->
   (∃v w' d,(e vs.toArray).run P w=.ok v w'/\(e vs.toArray).events P w #[⟨.mark (Mark.extern f),false,true⟩]=#[⟨.mark (Mark.extern f),false,true⟩]++d/\(∀y∈d,y.sync=true/\∀g,y.loc≠.mark (Mark.extern g))/\
    Xd (λB _=>X1 s sp B) (λ_=>False) w w'/\Se s sp y.deaf d/\
    ((At s c w'/\Gm P Q mn y b cs nt ops rest k op env s φ c v)\/∃o' t',At s o' w'/\Iy P Q mn y b cs nt ops rest k op env s φ c v o' t'))) :
  Γ (UF P Q mn y) b cs nt (.inRegion ops (i::rest)::k) env:=by
 obtain⟨V,n⟩:=h.call;intro t C j;refine⟨⟨U,U⟩,Goes.step r.ok (.inr ⟨⟨U,U⟩,.inr (.inr (.inr (.inl ⟨s,sp,u,x,λw φ c W hv D E F H=>?_⟩)))⟩)⟩;obtain⟨v,w',d,I,J,K,L,M,N⟩:=A w φ c ⟨D,F,H⟩ E;have O:=IV (mn:=mn) (cs:=cs) (rest:=rest) (k:=k) h.Tt h.at_ (UO j h.want) n (h.Ln.ZJ j) I J K;refine .inl ?_;rw[O];obtain⟨o,p⟩:=QT j h.dst C (a:=.z v) (v:=v) (.z _);refine⟨⟨U,U⟩,L,M,?_⟩;rcases N with⟨l,m⟩|⟨o',t',l,m,R⟩
 .exact .inl ⟨l,(m _ p o).2⟩
 .exact .inr ⟨o',t',m,l,.inl (Df h.Tt h.at_ n),λS T=>(R S T _ p o).2⟩
section
variable {s:Nat} {sp:Spec} (XG:XB y) (hd:0<y.deaf) (VD:y.spec s=some sp) (VC:¬WY (y.tok s))
include XG hd VD VC
theorem Γ.GK (h:Ww P b ops i op f (Extern.Atomic.loadT (.int .u64)) args env [.pointer (some ⟨s,0,none⟩)] nt)
  (e:∀φ a,Seen y s sp φ a->Gm P Q mn y b cs nt ops rest k op env s φ a (.int .u64 (YN a))):Γ (UF P Q mn y) b cs nt (.inRegion ops (i::rest)::k) env:=by
 refine .ext XG VD VC h λw φ a g c=>?_;have d:=c.S2;refine⟨.int .u64 (YN a),w,#[⟨.cell ⟨s,0,none⟩,false,true⟩],?_,?_,QG (QH _ false),Xd.refl _ _ _,QJ (.inl U) hd (QH _ false),.inl ⟨c,e φ a g⟩⟩
 .change Sem.run P (do Extern.Atomic.read (.int .u64) (<-asAddr (.pointer (some _)))) w=_;simp[Extern.Atomic.read,asAddr,d]
 .change Sem.events P (do Extern.Atomic.read (.int .u64) (<-asAddr (.pointer (some _)))) w _=_;simp[Extern.Atomic.read,asAddr,d,events_load]
theorem Γ.GJ {d:Int} (h:Ww P b ops i op f (Extern.Atomic.update (Op.intArith .add) .u64 true) args env [.pointer (some ⟨s,0,none⟩),.int .u64 d] nt)
  (o:∀φ a,Seen y s sp φ a->∃o' t',YN o'=u64.wrap (YN a+d)/\o'.YK=a.YK/\QF a o'/\Iy P Q mn y b cs nt ops rest k op env s φ a (.int .u64 (YN o')) o' t') :
  Γ (UF P Q mn y) b cs nt (.inRegion ops (i::rest)::k) env:=by
 refine .ext XG VD VC h λw φ a p c=>?_;have j:=c.S2;have l:=c.O0 0;obtain⟨o',t',m,r,e,n⟩:=o φ a p;rw[m] at n;refine⟨_,_,_,run_add_entry j l,(events_add_entry j l _).trans U,QG (QI ⟨s,0,none⟩),c.MV _,QJ (.inl U) hd (QI ⟨s,0,none⟩),.inr ⟨o',t',c.MW e.ZK e.g e.w ?_,n⟩⟩;rw[m,r];rfl
theorem Γ.uT {d:Int} (h:Ww P b ops i op f Extern.Atomic.storeT args env [.pointer (some ⟨s,0,none⟩),.int .u64 d] nt)
  (m:∀φ a,Seen y s sp φ a->∃o' t',YN o'=d/\o'.YK=a.YK/\QF a o'/\Iy P Q mn y b cs nt ops rest k op env s φ a (.tuple #[]) o' t') :
  Γ (UF P Q mn y) b cs nt (.inRegion ops (i::rest)::k) env:=by
 refine .ext XG VD VC h λw φ a n c=>?_;have j:=c.S2;have l:=c.O0 0;obtain⟨o',t',o,p,e,r⟩:=m φ a n;refine⟨.tuple #[],w.setCell ⟨s,0,none⟩ (.int .u64 d),#[⟨.cell ⟨s,0,none⟩,true,true⟩],?_,?_,QG (QH _ true),c.MV _,QJ (.inl U) hd (QH _ true),.inr ⟨o',t',c.MW e.ZK e.g e.w (by rw[o,p];rfl),r⟩⟩
 .change Sem.run P (do
   store (<-asAddr (.pointer (some _))) (.int .u64 d) .atomic
   pure Extern.Atomic.none_) w=_
  simp[asAddr,j,l,run_store P w _ (.int .u64 d) .atomic U,Result.andThen,Extern.Atomic.none_]
 .change Sem.events P (do
   store (<-asAddr (.pointer (some _))) (.int .u64 d) .atomic
   pure Extern.Atomic.none_) w _=_
  simp[asAddr,j,l,events_store P w _ _ (.int .u64 d) .atomic U]
end
section
variable {s:Nat} {sp:Spec} (XG:XB y) (VD:y.spec s=some sp) (VC:¬WY (y.tok s))
include XG VD VC
theorem Γ.uS (e:vs[0]?=some (.pointer (some ⟨s,1,none⟩))) (h:Ww P b ops i op f Extern.Sync.semrelease args env vs nt)
  (l:∀φ a,Seen y s sp φ a->a.YK<1000/\∃o' t',YN o'=YN a/\o'.YK=a.YK+1/\QF a o'/\Iy P Q mn y b cs nt ops rest k op env s φ a (.tuple #[]) o' t') :
  Γ (UF P Q mn y) b cs nt (.inRegion ops (i::rest)::k) env:=by
 refine .ext XG VD VC h λw φ a m c=>?_;have j:=c.IQ;obtain⟨r,o',t',n,o,d,p⟩:=l φ a m;refine⟨_,_,_,C7 e j (c.O0 1),C6 e j (c.O0 1) _,semEvents_sync _,c.MV _,IL (.inl U),.inr ⟨o',t',c.MW d.ZK d.g d.w ?_,p⟩⟩;rw[n,o,show u32.wrap (((a.YK:Nat):Int)+1)=((a.YK+1:Nat):Int) by simp only[IntKind.wrap_u32];omega];rfl
end
theorem CA {t:ζ} (e:b.mode=.run) (g:b.roundOf=none) (i:b.defers=[Go.Conc.dcall f #[]]) (j:b.kind=.normal) {fn:Func} (l:P.funcs[b.fn]?=some fn) (d:fn.results=#[]) (m:Entry P f (λ_=>do mark .enable;pure Extern.Race.none_)) {c:Frame}
  (h:Uf P 0 (Go.Conc.G (c.finish (.tuple #[])) cs)):Uf P 1 (Go.Conc.G {π b t k with mode:=.returning} (c::cs)):=by
 obtain⟨v,o,Ρ,p,r,s⟩:=m;obtain⟨n,u⟩:=h;rw[WJ e g];refine⟨n+1+1,QuitsD.unwind_mark (a:=⟨t,b.defers⟩) (ds:=[]) .enable U Ω i o Ρ p r s ?_⟩;exact .ctl U (λw=>stepG_leave (a:=⟨t,[]⟩) j U l (Go.results_none d _ P w) (Go.Conc.events_results_none d _ _)) u
theorem Γ.Gq (a:b.mode=.run) (d:b.roundOf=none) (e:b.defers=[Go.Conc.dcall f #[]]) (g:b.kind=.normal) {fn:Func} (i:P.funcs[b.fn]?=some fn) (j:fn.results=#[]) (l:Entry P f (λ_=>do mark .enable;pure Extern.Race.none_)) {c:Frame}
  (h:Uf P 0 (Go.Conc.G (c.finish (.tuple #[])) cs)):Γ (Uf P 1) b (c::cs) nt (.code .ret::k) env:=λt _ _=>by
 refine X8 _ (Go.Conc.G {π b t (.code .ret::k) with mode:=.returning} (c::cs)) ⟨U,U⟩ (λw=>?_) (CA a d e g i j l h);rw[Vn a];unfold stepG.exec;simp only[π,d];rfl
theorem Γ.uR (a:b.mode=.run) (d:b.roundOf=none) (e:b.defers=[Go.Conc.dcall f #[]]) (g:b.kind=.normal) {fn:Func} (i:P.funcs[b.fn]?=some fn) (j:fn.results=#[]) (k:Entry P f (λ_=>do mark .enable;pure Extern.Race.none_)) {c:Frame}
  (h:Uf P 0 (Go.Conc.G (c.finish (.tuple #[])) cs)):Γ (Uf P 1) b (c::cs) nt [] env:=λt _ _=>by
 refine X8 _ (Go.Conc.G {π b t [] with mode:=.returning} (c::cs)) ⟨U,U⟩ (λw=>?_) (CA a d e g i j k h);rw[Vn a];unfold stepG.exec;simp only[π,d];rfl
end
def MN (x:ZU):ZU:={x with Z4:=λ_=>none,rel:=true}
theorem V.HD {P:Program} {m:Value->Prop} {x:ZU} {b:Frame} {cs:YU} {nt:Nat} {o:Base} {k:Zz} {env:Β} {ops:ZC} {i:Nat} {rest:ο} {l:Oper} {f:FuncId} {args:Array Operand} (r:x.rel=false) {s n:Nat} {sp:Spec} {c:Ua} {v:Option (Nat×Z')} (E:x.spec s=some sp) (F:c=.done\/(c=.idle/\sp.ZK=none)) (I:∀g,g≠s->WY (x.tok g)) (J:sp.D n Τ.empty)
  (h:Ww P b ops i l f (Extern.Race.marked .releaseMerge) args env [.pointer (some ⟨s,0,none⟩)] nt) (K:∀p∈Zn l env Sr,∃v,p.2=Ψ.z v)
  (L:Γ (UF P m false (ZH (MN x) s (.ch n c .rel) none 0)) b cs nt (.inRegion ops rest::k) (Zn l env Sr)):V P m false (one (ZH x s (.ch n c .work) v 0)) b cs nt o (.inRegion ops (i::rest)::k) env []:=by
 intro S B H t O u y M;cases M;have A:=u.put h.dst (a:=Sr) (v:=.tuple #[]) (.z _);have N:=(L _ A.size (Lf K A.Y7)).2;refine Goes.step (XB.ok (.inl r)) (.inr ⟨⟨U,U⟩,.inr (.inr (.inr (.inr (.inr (.inr (.inl ⟨s,sp,n,c,Go.Conc.G (π b (put l t (.tuple #[])) (.inRegion ops rest::k)) cs,Τ.empty,E,Zg (v:=v) (d:=0),F,λg C=>by
  rw[show({ZH x s (.ch n c .work) v 0 with G:=H}:ZU).tok g=(ZH x s (.ch n c .work) v 0).tok g from rfl,Lk C];exact I g C,U,⟨U,U⟩,r,λw _=>
  h.step u.Y7 (MZ .releaseMerge _) (MY .releaseMerge _ _) (QK Ω),⟨λb o v p j=>(by cases j),λb y j=>(by cases j),λb y j=>(by cases j)⟩,J,?_⟩))))))⟩)
 have e:({({ZH x s (.ch n c .work) v 0 with G:=H}:ZU) with G:=Τ.empty,Z4:=λ_=>none,tok:=upd ({ZH x s (.ch n c .work) v 0 with G:=H}:ZU).tok s (.ch n c .rel),view:=upd ({ZH x s (.ch n c .work) v 0 with G:=H}:ZU).view s none,rel:=true}:ZU)={ZH (MN x) s (.ch n c .rel) none 0 with G:=Τ.empty}:=by
  unfold ZH MN;simp only[GG]
 exact e▸N
end Go.TL
namespace Go.TL
open Go.IntKind (i32 i64 u32 u64)
open Go.Proofs.Tryz
open Go.Conc Go.Proofs
open Go.ConcN (sumTo upd sumTo_upd upd_ne upd_same sumTo_congr le_sumTo)
noncomputable def Ix:Code:=f140.body.getD .skip
noncomputable abbrev Gl (s:Nat):Frame:={Frame.enter prog 140 #[ptr s 0,.int .i64 (-1)] .normal with defers:=[Go.Conc.dcall 161 #[]]}
theorem uQ:u64.wrap (u64.wrap (-1)*2 ^ min 32 u64.bits)=18446744069414584320:=ZT
theorem uP:u64.wrap (18446744073709551615*2 ^ min 32 u64.bits)=18446744069414584320:=ZT
theorem uO:u64.wrap (-1)=18446744073709551615:=ZT
theorem Iw:i32.wrap (-1)=-1:=ZT
section
variable {Q:Value->Prop} {c:Frame} {rest:YU} {s k:Nat} {sp:Spec} {v:Option (Nat×Z')}
theorem uN [ZP] (n:Uf prog 0 (Go.Conc.G (c.finish (.tuple #[])) rest)) {cc w0:Nat} (e:cc<8) (f:w0<2) (o:0<cc\/w0=0) {env:Β} (g:Z3 env 0=.z (ptr s 0)) (h:Z3 env 1=.z (.int .i64 (-1))) (i:Z3 env 4=.z (.bool false)) (d:Z3 env 6=.z (.int .u64 (VW cc w0))) :
  Γ (Uf prog 1) (Gl s) (c::rest) 117 [.code (Yf [1,1,1,1] Ix)] env:=by
 have j:∀(K:Zz) (env:Β),Γ (Uf prog 1) (Gl s) (c::rest) 117 (.code .ret::K) env:=λK env=>Γ.Gq U U U U func140 U OZ n
 have k:¬(cc:Int)<0:=OE.2 (Int.natCast_nonneg _)
 have p:w0=0\/w0=1:=J
 have f1:=ID cc e w0 f
 have f2:=IC cc e w0 f
 have f3:=IB cc e w0 f;generalize VW cc w0=w at f1 f2 f3 d;unfold Ix;by_cases a:0<cc
 .have l:(0:Int)<cc:=by exact_mod_cast a
  rcases p with rfl|rfl
  ·(repeat (first|refine Γ.seq X8 rfl ?_|refine Γ.block X8 rfl ?_|refine Γ.inBlock X8 rfl ?_|refine Γ.skip X8 rfl ?_|refine Γ.Tj X8 rfl rfl ?_|refine Γ.Ti X8 rfl rfl ?_|(refine Γ.region X8 rfl Ο rfl (by simp[Frame.enter]) λm b=>?_;(try simp);(repeat (refine Wt ?_;simp[g,h,i,d,f1,f2,f3,Iw,k,a,l]));refine b _ ?_)));exact j _ _
  ·(repeat (first|refine Γ.seq X8 rfl ?_|refine Γ.block X8 rfl ?_|refine Γ.inBlock X8 rfl ?_|refine Γ.skip X8 rfl ?_|refine Γ.Tj X8 rfl rfl ?_|refine Γ.Ti X8 rfl rfl ?_|(refine Γ.region X8 rfl Ο rfl (by simp[Frame.enter]) λm b=>?_;(try simp);(repeat (refine Wt ?_;simp[g,h,i,d,f1,f2,f3,Iw,k,a,l]));refine b _ ?_)));exact j _ _
 .have r:w0=0:=o.resolve_left a
  have t:cc=0:=Nat.eq_zero_of_not_pos a;subst r;subst t;(repeat (first|refine Γ.seq X8 rfl ?_|refine Γ.block X8 rfl ?_|refine Γ.inBlock X8 rfl ?_|refine Γ.skip X8 rfl ?_|refine Γ.Tj X8 rfl rfl ?_|refine Γ.Ti X8 rfl rfl ?_|(refine Γ.region X8 rfl Ο rfl (by simp[Frame.enter]) λm b=>?_;(try simp);(repeat (refine Wt ?_;simp[g,h,i,d,f1,f2,f3,Iw]));refine b _ ?_)));exact j _ _
structure Rk (x:ZU) (s:Nat) (sp:Spec):Prop where
 rel:x.rel=true
 spec:x.spec s=some sp
 top:sp.top<7
 shut:∀a,a≠s->WY (x.tok a)
theorem Rk.here {x:ZU} (h:Rk x s sp) {g:Pr} {d:Nat} (a:g≠.gone):XB (ZH x s (.ch k .done g) v d):=.inr ⟨s,by rw[Zg];cases g<;>simp_all [Gone]⟩
theorem Rk.gone {x:ZU} (h:Rk x s sp) {d:Nat}:∀a,Gone ((ZH x s (.ch k .done .gone) v d).tok a):=λa=>by
 by_cases e:a=s
 .subst e;rw[Zg];trivial
 .rw[Lk e];have:=h.shut a e;revert this;cases x.tok a with
  | nil=>exact λ_=>trivial
  | par n p b=>cases b<;>exact λh=>h
  | ch k m g=>exact λh=>h.elim
theorem Rk.IA {x:ZU} (b:Rk x s sp) {a:Z'} (h:a.toSpec=sp):a.top<7:=by have:=b.top;rw[show a.top=sp.top by rw[<-h]];exact this
theorem Γ.back [ZP] {d:Goroutine->Prop} {b:Frame} {cs:YU} {nt:Nat} {k:Zz} {env:Β} {ops:ZC} {i:Nat} {rest:ο} {c:Oper} {t:ζ} {v:Value} (e:ops[i]?=some c) (hd:Wz nt c=true) (f:t.size=nt) (g:Yv Xp [] [] env t)
  (h:Γ d b cs nt (.inRegion ops rest::k) (Zn c env (.z v))):d (Go.Conc.G ((π b t (.inRegion ops (i::rest)::k)).finish v) cs):=by
 rw[VJ e];obtain⟨j,l⟩:=QT g hd f (a:=.z v) (v:=v) (.z _);exact h _ l j
theorem Γ.Cz [ZP] {P:Program} {b:Frame} {cs:YU} {nt:Nat} {env:Β} (d:b.mode=.run) (e:b.roundOf=none) (f:b.defers=[]) (g:b.kind=.deferred) {fn:Func} (i:P.funcs[b.fn]?=some fn) (j:fn.results=#[]) {c:Frame} (k:c.mode=.returning)
  (h:Uf P 0 (Go.Conc.G c cs)):Γ (Uf P 0) b (c::cs) nt [] env:=λt _ _=>by
 obtain⟨n,l⟩:=h;refine X8 _ (Go.Conc.G {π b t [] with mode:=.returning} (c::cs)) ⟨U,U⟩ (λw=>?_) ⟨n+1,?_⟩
 .rw[Vn d];unfold stepG.exec;simp only[π,e];rfl
 .rw[WJ d e];exact QuitsD.leaveD (a:=⟨t,b.defers⟩) g f i j k l
theorem uM [ZP] {x:ZU} (g:Rk x s sp) {t:Tok} (a:∀v,XB (ZH x s t v 1)) (e:¬WY t) {cs:YU} (h:∀φ b,Seen (ZH x s t v 1) s sp φ b->UF prog Q false (ZH x s t (some (φ,b)) 1) (Go.Conc.G (c.finish (.int .u64 (YN b))) cs)) :
  Γ (UF prog Q false (ZH x s t v 1)) (Frame.enter prog 168 #[ptr s 0] .normal) (c::cs) 7 [.code (f168.body.getD .skip)] (entry 0 [.z (ptr s 0)]):=by
 simp only[f168,Option.getD_some];(repeat (first|refine Γ.seq (ZI (a _)) rfl ?_|refine Γ.block (ZI (a _)) rfl ?_|refine Γ.inBlock (ZI (a _)) rfl ?_|refine Γ.skip (ZI (a _)) rfl ?_|refine Γ.Tj (ZI (a _)) rfl rfl ?_|refine Γ.Ti (ZI (a _)) rfl rfl ?_|(refine Γ.region (ZI (a _)) rfl Ο rfl (by simp[Frame.enter]) λf d=>?_;(try simp);(repeat (refine Wt ?_;simp[e]));refine d _ ?_)));refine Γ.Za (ZI (a _)) U ?_;refine Γ.part (ZI (a _)) U Ο U (by simp[Frame.enter]) [0,1,2] [3,4] U λf d=>?_;(try simp[-NY]);(repeat (refine Wt ?_;simp));refine d _ ?_;refine Γ.GK (a _) (UA _) (sp:=sp) g.spec (by rw[Zg];exact e) ⟨⟨U,U,by simp[Frame.enter],U⟩,CZ,⟨_,U⟩,U,U,U⟩ λφ b i=>?_;unfold Gm;rw[UG];refine Γ.part (ZI (a _)) U Ο U (by simp[Frame.enter]) [4] [] U λf d=>?_;(try simp[-NY]);(repeat (refine Wt ?_;simp));refine d _ ?_;refine Γ.ZB (ZI (a _)) U ?_;exact Γ.PM (ZI (a _)) U U U U func168 U U (h φ b i)
theorem uL [ZP] {x:ZU} (i:Rk x s sp) {t t':Tok} {d:Int} (a:∀v,XB (ZH x s t v 1)) (g:∀v,XB (ZH x s t' v 1)) (h:¬WY t) {cs:YU} (j:∀φ b,Seen (ZH x s t v 1) s sp φ b->∃o',YN o'=d/\o'.YK=b.YK/\QF b o'/\Act b t o' t'/\∀e,e<φ->UF prog Q false (ZH x s t' (some (e,o')) 1) (Go.Conc.G (c.finish (.tuple #[])) cs)) :
  Γ (UF prog Q false (ZH x s t v 1)) (Frame.enter prog 169 #[ptr s 0,.int .u64 d] .normal) (c::cs) 9 [.code (f169.body.getD .skip)] (entry 0 [.z (ptr s 0),.z (.int .u64 d)]):=by
 simp only[f169,Option.getD_some];(repeat (first|refine Γ.seq (ZI (a _)) rfl ?_|refine Γ.block (ZI (a _)) rfl ?_|refine Γ.inBlock (ZI (a _)) rfl ?_|refine Γ.skip (ZI (a _)) rfl ?_|refine Γ.Tj (ZI (a _)) rfl rfl ?_|refine Γ.Ti (ZI (a _)) rfl rfl ?_|(refine Γ.region (ZI (a _)) rfl Ο rfl (by simp[Frame.enter]) λk f=>?_;(try simp);(repeat (refine Wt ?_;simp[h]));refine f _ ?_)));refine Γ.Za (ZI (a _)) U ?_;refine Γ.part (ZI (a _)) U Ο U (by simp[Frame.enter]) [0,1,2,3] [4] U λk f=>?_;(try simp[-NY]);(repeat (refine Wt ?_;simp));refine f _ ?_;refine Γ.uT (a _) (UA _) (sp:=sp) i.spec (by rw[Zg];exact h) ⟨⟨U,U,by simp[Frame.enter],U⟩,vC,⟨_,U⟩,U,U,U⟩ λφ b l=>?_;obtain⟨o',m,n,o,p,r⟩:=j φ b l;refine⟨o',t',m,n,o,by rw[Zg];exact p,λe u=>?_⟩;rw[Wv];refine Γ.ZB (ZI (g _)) U ?_;exact Γ.IK (ZI (g _)) U U U U func169 U (r e u)
theorem uK [ZP] {x:ZU} (j:Rk x s sp) {t:Tok} {d:Int} (a:∀v,XB (ZH x s t v 1)) (k:¬WY t) {cs:YU}
  (l:∀φ b,Seen (ZH x s t v 1) s sp φ b->∃o' t',YN o'=u64.wrap (YN b+d)/\o'.YK=b.YK/\QF b o'/\Act b t o' t'/\∀f,f<φ->(((∀v,XB (ZH x s t' v 1))/\UF prog Q false (ZH x s t' (some (f,o')) 1) (Go.Conc.G (c.finish (.int .u64 (YN o'))) cs))\/((∀m,Gone ((ZH x s t' (some (f,o')) 1).tok m))/\Uf prog 1 (Go.Conc.G (c.finish (.int .u64 (YN o'))) cs)))) :
  Γ (UF prog Q false (ZH x s t v 1)) (Frame.enter prog 166 #[ptr s 0,.int .u64 d] .normal) (c::cs) 10 [.code (f166.body.getD .skip)] (entry 0 [.z (ptr s 0),.z (.int .u64 d)]):=by
 simp only[f166,Option.getD_some];(repeat (first|refine Γ.seq (ZI (a _)) rfl ?_|refine Γ.block (ZI (a _)) rfl ?_|refine Γ.inBlock (ZI (a _)) rfl ?_|refine Γ.skip (ZI (a _)) rfl ?_|refine Γ.Tj (ZI (a _)) rfl rfl ?_|refine Γ.Ti (ZI (a _)) rfl rfl ?_|(refine Γ.region (ZI (a _)) rfl Ο rfl (by simp[Frame.enter]) λh e=>?_;(try simp);(repeat (refine Wt ?_;simp[k]));refine e _ ?_)));refine Γ.Za (ZI (a _)) U ?_;refine Γ.part (ZI (a _)) U Ο U (by simp[Frame.enter]) [0,1,2,3] [4,5] U λh e=>?_;(try simp[-NY]);(repeat (refine Wt ?_;simp));refine e _ ?_;refine Γ.GJ (a _) (UA _) (sp:=sp) j.spec (by rw[Zg];exact k) ⟨⟨U,U,by simp[Frame.enter],U⟩,C0,⟨_,U⟩,U,U,U⟩ λφ b n=>?_;obtain⟨o',t',o,p,r,u,w⟩:=l φ b n;refine⟨o',t',o,p,r,by rw[Zg];exact u,λf y=>?_⟩;rw[Wv];rcases w f y with⟨g,i⟩|⟨g,i⟩
 .refine Γ.part (ZI (g _)) U Ο U (by simp[Frame.enter]) [5] [] U λh e=>?_;(try simp[-NY]);(repeat (refine Wt ?_;simp));refine e _ ?_;refine Γ.ZB (ZI (g _)) U ?_;exact Γ.PM (ZI (g _)) U U U U func166 U U i
 .refine Γ.leaves (d:=1) j.rel g U ?_;refine Γ.part X8 U Ο U (by simp[Frame.enter]) [5] [] U λh e=>?_;(try simp[-NY]);(repeat (refine Wt ?_;simp));refine e _ ?_;refine Γ.ZB X8 U ?_;exact Γ.PM X8 U U U U func166 U U i
theorem uJ [ZP] {x:ZU} (j:Rk x s sp) (u:Uf prog 0 (Go.Conc.G (c.finish (.tuple #[])) rest)) {env:Β} (h:Z3 env 0=.z (ptr s 0)) (y:Z3 env 1=.z (.int .i64 (-1))) (l:Z3 env 4=.z (.bool false)) (m:Z3 env 6=.z (.int .u64 (VW 0 1))) :
  Γ (UF prog Q false (ZH x s (.ch k .done .l2) v 1)) (Gl s) (c::rest) 117 [.code (Yf [1,1,1,1] Ix)] env:=by
 have f1:=ID 0 ZT 1 ZT
 have f2:=IC 0 ZT 1 ZT
 have f3:=IB 0 ZT 1 ZT
 have P:VW 0 1=1:=ZT;generalize A:VW 0 1=w at f1 f2 f3 m;have f:=j.here (k:=k) (v:=v) (d:=1) (g:=.l2) Ω;unfold Ix;(repeat (first|refine Γ.seq (ZI f) rfl ?_|refine Γ.block (ZI f) rfl ?_|refine Γ.inBlock (ZI f) rfl ?_|refine Γ.skip (ZI f) rfl ?_|refine Γ.Tj (ZI f) rfl rfl ?_|refine Γ.Ti (ZI f) rfl rfl ?_|(refine Γ.region (ZI f) rfl Ο rfl (by simp[Frame.enter]) λi b=>?_;(try simp);(repeat (refine Wt ?_;simp[h,y,l,m,f1,f2,f3,Iw]));refine b _ ?_)));refine Γ.Za (ZI f) U ?_;refine Γ.part (ZI f) U Ο U (by simp[Frame.enter]) [0,1,2] [3,4,5] U λi b=>?_;(repeat (refine Wt ?_;simp[h]));refine b _ ?_;refine Γ.call (ZI f) U ⟨U,U,by simp[Frame.enter],U⟩ U U (vs:=[ptr s 0]) U func168 U U (by simp[ntmps168]) λt B C=>?_;have e:∀v,XB (ZH x s (.ch k .done .l2) v 1):=λv=>j.here Ω;have a:∀v,XB (ZH x s (.ch k .done .RK) v 1):=λv=>j.here Ω;refine uM j e id λφ D E=>?_;have n:=E.Vi.PJ;rw[Zg] at n;obtain⟨F,H⟩:=n.l2 k _ U;have I:YN D=w:=by rw[<-A];simp only[YN,F,H]
 rw[I];refine Γ.back U U B C ?_;refine Γ.part (ZI (e _)) U Ο U (by simp[Frame.enter]) [4,5] [] U λi b=>?_;(repeat (refine Wt ?_;simp[m]));refine b _ ?_;refine Γ.ZB (ZI (e _)) U ?_;(repeat (first|refine Γ.seq (ZI (e _)) rfl ?_|refine Γ.block (ZI (e _)) rfl ?_|refine Γ.inBlock (ZI (e _)) rfl ?_|refine Γ.skip (ZI (e _)) rfl ?_|refine Γ.Tj (ZI (e _)) rfl rfl ?_|refine Γ.Ti (ZI (e _)) rfl rfl ?_|(refine Γ.region (ZI (e _)) rfl Ο rfl (by simp[Frame.enter]) λi b=>?_;(try simp);(repeat (refine Wt ?_;simp[h]));refine b _ ?_)));refine Γ.Za (ZI (e _)) U ?_;refine Γ.part (ZI (e _)) U Ο U (by simp[Frame.enter]) [0,1,2] [3] U λi b=>?_;(repeat (refine Wt ?_;simp[h]));refine b _ ?_;refine Γ.call (ZI (e _)) U ⟨U,U,by simp[Frame.enter],U⟩ U U (vs:=[ptr s 0,.int .u64 0]) U func169 U U (by simp[ntmps169]) λt3 J K=>?_;refine uL j (t':=.ch k .done .RK) e a id λR L M=>?_;have o:=M.Vi.PJ;rw[Zg] at o;obtain⟨S,N⟩:=o.l2 k _ U;refine⟨{L with wt:=0},by simp only[YN,N];rfl,U,⟨U,U,U⟩,.Ai,λT V=>?_⟩;refine Γ.back U U J K ?_;refine Γ.ZB (ZI (a _)) U ?_;(repeat (first|refine Γ.seq (ZI (a _)) rfl ?_|refine Γ.block (ZI (a _)) rfl ?_|refine Γ.inBlock (ZI (a _)) rfl ?_|refine Γ.skip (ZI (a _)) rfl ?_|refine Γ.Tj (ZI (a _)) rfl rfl ?_|refine Γ.Ti (ZI (a _)) rfl rfl ?_|(refine Γ.region (ZI (a _)) rfl Ο rfl (by simp[Frame.enter]) λi b=>?_;(try simp);(repeat (refine Wt ?_;simp[h,l]));refine b _ ?_)));refine Γ.loop (ZI (a _)) U ?_;(repeat (first|refine Γ.seq (ZI (a _)) rfl ?_|refine Γ.block (ZI (a _)) rfl ?_|refine Γ.inBlock (ZI (a _)) rfl ?_|refine Γ.skip (ZI (a _)) rfl ?_|refine Γ.Tj (ZI (a _)) rfl rfl ?_|refine Γ.Ti (ZI (a _)) rfl rfl ?_|(refine Γ.region (ZI (a _)) rfl Ο rfl (by simp[Frame.enter]) λi b=>?_;(try simp);(repeat (refine Wt ?_;simp[h,l]));refine b _ ?_)));refine Γ.Za (ZI (a _)) U ?_;refine Γ.part (ZI (a _)) U Ο U (by simp[Frame.enter]) [0,1,2] [3] U λi b=>?_;(repeat (refine Wt ?_;simp[h]));refine b _ ?_;refine Γ.uS (a _) (sp:=sp) j.spec (by rw[Zg];exact id) (vs:=[ptr s 1,.bool false,.int .i64 0]) U ⟨⟨U,U,by simp[Frame.enter],U⟩,vx,⟨_,U⟩,U,U,U⟩ λW p O=>?_;have r:=O.Vi.PJ;rw[Zg] at r;refine⟨by have:=r.YK;omega,{p with YK:=p.YK+1},.ch k .done .gone,U,U,⟨U,U,U⟩,by rw[Zg];exact .Ah,λX Y=>?_⟩;rw[Wv];refine Γ.leaves (d:=1) j.rel j.gone U ?_;refine Γ.ZB X8 U ?_;(repeat (first|refine Γ.seq X8 rfl ?_|refine Γ.block X8 rfl ?_|refine Γ.inBlock X8 rfl ?_|refine Γ.skip X8 rfl ?_|refine Γ.Tj X8 rfl rfl ?_|refine Γ.Ti X8 rfl rfl ?_|(refine Γ.region X8 rfl Ο rfl (by simp[Frame.enter]) λi b=>?_;(try simp);(repeat (refine Wt ?_;simp[h,Iz]));refine b _ ?_)));refine Γ.inLoop X8 U ?_;(repeat (first|refine Γ.seq X8 rfl ?_|refine Γ.block X8 rfl ?_|refine Γ.inBlock X8 rfl ?_|refine Γ.skip X8 rfl ?_|refine Γ.Tj X8 rfl rfl ?_|refine Γ.Ti X8 rfl rfl ?_|(refine Γ.region X8 rfl Ο rfl (by simp[Frame.enter]) λi b=>?_;(try simp);(repeat (refine Wt ?_;simp[h,Iz]));refine b _ ?_)));refine Γ.exit X8 U U ?_;exact Γ.uR U U U U func140 U OZ u
structure Cy (x:ZU) (s:Nat) (sp:Spec):Prop where
 rel:x.rel=false
 Z4:x.Z4=λ_=>none
 spec:x.spec s=some sp
 top:sp.top<7
 shut:∀a,a≠s->WY (x.tok a)
theorem uI {x:ZU} {H:Τ} (g:Cy x s sp) (R:sp.D k Τ.empty) (n:c.mode=.returning) (K:Uf prog 0 (Go.Conc.G c rest)) :
  Y6 prog Q false (ZH x s (.ch k .done .work) v 0) (Frame.enter prog 142 #[ptr s 0] .deferred) (c::rest) H:=by
 letI:ZP:=XV;have r:∀t v d,Seq (one (ZH x s t v d)):=λt v d=>Seq.O1 trivial g.rel g.Z4;have h:Rk (MN x) s sp:=⟨U,g.spec,g.top,g.shut⟩;have b:∀v d,XB (ZH (MN x) s (.ch k .done .rel) v d):=λv d=>h.here Ω;have A:∀v d,XB (ZH (MN x) s (.ch k .done .l2) v d):=λv d=>h.here Ω;rw[Rw (body:=f142.body.getD .skip) func142 U];refine V.here (x:=one _) (m:=0) (nt:=4) (S:=Xp) (B:=[]) (σ:=[]) (env:=entry 0 [.z (ptr s 0)]) ?_ (Xb.enter (MR H) ⟨U,λi a v C L=>?_⟩ (Z6 _) Ω) _ U
 .refine V.W' (r _ _ _) U ?_;simp only[f142,Option.getD_some];refine YQ ?_;refine W.Za ?_;refine Xn [0] [1] ?_;refine W.stop ?_;refine V.call (r _ _ _) ⟨U,U,by simp[Frame.enter],U⟩ U U U ⟨_,func140,U,U⟩ λab T ad t1 ae af j hv=>?_;obtain rfl:=To (l:=[ptr s 0,.int .i64 (-1)]) hv;obtain rfl:T=[]:=YA.1 j.holds.len;rintro y rfl;refine V.Rr (z:=one _) (vs:=[ptr s 0,.int .i64 (-1)]) func140 U j.holds (by simp[ntmps140]) ?_ _ U;refine V.W' (r _ _ _) U ?_;refine Wa ?_;refine W.Za ?_;refine Xn [0] [1,2] ?_;refine W.stop ?_;refine V.conv (r _ _ _).here (sp:=sp) g.spec (by rw[Zg];exact id) ⟨U,U,by simp[Frame.enter],U⟩ U U U Gx OY Gw U (λe w ag X=>⟨_,X.S2⟩) (λφ e ah=>?_);unfold VT;rw[UG];refine V.HD g.rel (sp:=sp) g.spec (.inl U) g.shut R ⟨⟨U,U,by simp[Frame.enter],U⟩,C3,⟨_,U⟩,U,U,U⟩ Ω ?_;refine Γ.ZB (ZI (b _ _)) U ?_;(repeat (first|refine Γ.seq (ZI (b _ _)) rfl ?_|refine Γ.block (ZI (b _ _)) rfl ?_|refine Γ.inBlock (ZI (b _ _)) rfl ?_|refine Γ.skip (ZI (b _ _)) rfl ?_|refine Γ.Tj (ZI (b _ _)) rfl rfl ?_|refine Γ.Ti (ZI (b _ _)) rfl rfl ?_|(refine Γ.region (ZI (b _ _)) rfl Ο rfl (by simp[Frame.enter]) λo f=>?_;(try simp);(repeat (refine Wt ?_;simp[n]));refine f _ ?_)));refine Γ.Za (ZI (b _ _)) U ?_;refine Γ.disable (b _ _) ⟨⟨U,U,by simp[Frame.enter],U⟩,Lj,⟨_,U⟩,U,U,U⟩ ?_;rw[Lm];refine Γ.ZB (ZI (b _ _)) U ?_;refine Γ.Za (ZI (b _ _)) U ?_;refine Γ.GH (ZI (b _ _)) U ⟨U,U,by simp[Frame.enter],U⟩ U U U ?_;refine Γ.ZB (ZI (b _ _)) U ?_;(repeat (first|refine Γ.seq (ZI (b _ _)) rfl ?_|refine Γ.block (ZI (b _ _)) rfl ?_|refine Γ.inBlock (ZI (b _ _)) rfl ?_|refine Γ.skip (ZI (b _ _)) rfl ?_|refine Γ.Tj (ZI (b _ _)) rfl rfl ?_|refine Γ.Ti (ZI (b _ _)) rfl rfl ?_|(refine Γ.region (ZI (b _ _)) rfl Ο rfl (by simp[Frame.enter]) λo f=>?_;(try simp);(repeat (refine Wt ?_;simp[n]));refine f _ ?_)));refine Γ.Za (ZI (b _ _)) U ?_;refine Γ.IJ (ZI (b _ _)) U ⟨U,U,by simp[Frame.enter],U⟩ U U U C2 ?_;refine Γ.ZB (ZI (b _ _)) U ?_;(repeat (first|refine Γ.seq (ZI (b _ _)) rfl ?_|refine Γ.block (ZI (b _ _)) rfl ?_|refine Γ.inBlock (ZI (b _ _)) rfl ?_|refine Γ.skip (ZI (b _ _)) rfl ?_|refine Γ.Tj (ZI (b _ _)) rfl rfl ?_|refine Γ.Ti (ZI (b _ _)) rfl rfl ?_|(refine Γ.region (ZI (b _ _)) rfl Ο rfl (by simp[Frame.enter]) λo f=>?_;(try simp);(repeat (refine Wt ?_;simp[n]));refine f _ ?_)));refine Γ.Za (ZI (b _ _)) U ?_;refine Γ.part (ZI (b _ _)) U Ο U (by simp[Frame.enter]) [0,1,2,3,4,5] [6,7] U λo f=>?_;(repeat (refine Wt ?_;simp[uO,uQ,uP]));refine f _ ?_;refine Γ.call (ZI (b _ _)) U ⟨U,U,by simp[Frame.enter],U⟩ U U (vs:=[ptr s 0,.int .u64 18446744069414584320]) U func166 U U (by simp[ntmps166]) λt2 M N=>?_;refine uK h (λv=>b v 1) id λφ e O=>?_;have u:=O.Vi.PJ;rw[Zg] at u;have ai:1<=e.cnt:=u.live;have aj:=h.IA O.spec;have ak:=u.cnt;have al:=u.wt;obtain⟨cc,E⟩:=Ε (e.cnt-1);have p:e.cnt<8/\0<e.cnt/\cc<8/\e.wt<2:=J;have P:YN {e with cnt:=cc}=u64.wrap (YN e+18446744069414584320):=by
   rw[OX,OX,vc e.cnt p.1 e.wt p.2.2.2 p.2.1,E]
  by_cases F:e.cnt=1/\e.wt=1
  .have Y:cc=0:=J
   refine⟨{e with cnt:=cc},.ch k .done .l2,P,U,⟨U,U,U⟩,by rw[E];exact .Ak F.1 F.2,λZ aa=>.inl ⟨λv=>A v 1,?_⟩⟩;have I:YN {e with cnt:=cc}=VW 0 1:=by rw[OX,Y];simp only[F.2]
   rw[I];refine Γ.back U U M N ?_;refine Γ.part (ZI (A _ _)) U Ο U (by simp[Frame.enter]) [7] [] U λo f=>?_;(repeat (refine Wt ?_;simp));refine f _ ?_;refine Γ.ZB (ZI (A _ _)) U ?_;refine uJ h ?_ U U U U;exact Γ.back (nt:=4) U U j.size (Lf Ω j.Y7) (Γ.ZB X8 U (Γ.Cz U U U U func142 U n K))
  .refine⟨{e with cnt:=cc},.ch k .done .gone,P,U,⟨U,U,U⟩,by rw[E];exact .Aj J,λZ aa=>.inr ⟨h.gone,?_⟩⟩;have I:YN {e with cnt:=cc}=VW cc e.wt:=rfl;rw[I];refine Γ.back U U M N ?_;refine Γ.part X8 U Ο U (by simp[Frame.enter]) [7] [] U λo f=>?_;(repeat (refine Wt ?_;simp));refine f _ ?_;refine Γ.ZB X8 U ?_;refine uN ?_ (cc:=cc) (w0:=e.wt) p.2.2.1 p.2.2.2 J U U U U;exact Γ.back (nt:=4) U U j.size (Lf Ω j.Y7) (Γ.ZB X8 U (Γ.Cz U U U U func142 U n K))
 .cases i with
  | zero=>simp at C L;subst C;subst L;exact .z _
  | succ i=>simp at C
end
end Go.TL
namespace Go.TL
open Go.IntKind (i32 i64 u32 u64)
open Go.Proofs.Tryz
open Go.Conc
open Go.ConcN (upd)
def QC (S:κ) (H:Τ):Τ:={H with η:=λb o=>match S b o with|some v=>some (v,false)|none=>H.η b o}
def Tg (S:κ):Τ:=⟨λb o=>(S b o).map (·,false),λ_=>none,λ_=>none⟩
def κ.plus (S T:κ):κ:=λb o=>match S b o with|some v=>some v|none=>T b o
structure SR (a:Nat) (c:κ) (E:Τ):Prop where
 η:∀b o x,E.η b o=some x->c b o≠none\/a<b
 row:∀b x,E.row b=some x->a<b
 obj:∀b x,E.obj b=some x->a<b
def MM (r:Row):Prop:=∃t k l,r=.cells t k l
section
variable {S Yl TQ OU Xv:κ} {B B':Z5} {σ σ':Ξ} {H H' Rj E G:Τ} {β:Nat}
theorem Lb {b o:Nat} {v:Value} (h:S b o=some v):(QC S H).η b o=some (v,false):=by simp only[QC,h]
theorem Gk {b o:Nat} (h:S b o=none):(QC S H).η b o=H.η b o:=by simp only[QC,h]
theorem Gj {b o:Nat} {v:Value} (h:S b o=some v):(Tg S).η b o=some (v,false):=by simp only[Tg,h];rfl
theorem Iv {b o:Nat} {x:Value×Bool} (h:(Tg S).η b o=some x):∃v,S b o=some v/\x=(v,false):=by
 cases a:S b o with
 | none=>simp[Tg,a] at h
 | some v=>exact⟨v,rfl,by simp[Tg,a] at h;exact h.symm⟩
theorem La {b o:Nat} {v:Value} (h:S b o=some v):S.plus TQ b o=some v:=by simp only[κ.plus,h]
theorem Iu {b o:Nat} (h:S b o=none):S.plus TQ b o=TQ b o:=by simp only[κ.plus,h]
theorem join_some {b o:Nat} {x:Value×Bool} (h:H.η b o=some x):(join H E).η b o=some x:=by simp only[join,h]
theorem join_none {b o:Nat} (h:H.η b o=none):(join H E).η b o=E.η b o:=by simp only[join,h]
theorem uH {b:Nat} {x:TypeId×Nat} (h:(join H E).row b=some x):H.row b=some x\/E.row b=some x:=by
 cases a:H.row b with
 | none=>simp only[join,a] at h;exact .inr h
 | some y=>simp only[join,a] at h;exact .inl h
theorem uG {b:Nat} {x:Obj} (h:(join H E).obj b=some x):H.obj b=some x\/E.obj b=some x:=by
 cases a:H.obj b with
 | none=>simp only[join,a] at h;exact .inr h
 | some y=>simp only[join,a] at h;exact .inl h
theorem uF (f:Holds S [] [] H):Split H (QC S H) (Tg S):=by
 refine⟨⟨λb o v p h=>?_,λb x h=>h,λb x h=>h⟩,⟨λb o v p h=>?_,λb x h=>(by cases h),λb x h=>(by cases h)⟩,⟨λb o ⟨v,h⟩ ⟨x,k⟩=>?_,λb o ⟨v,h⟩ _=>?_,λb _ ⟨x,h⟩=>(by cases h)⟩⟩
 .cases a:S b o with
  | some u=>
   rw[Lb a] at h;cases h;obtain⟨c,d⟩:=f.Yy b o _ a;exact⟨c,d,λe=>by cases e⟩
  | none=>rw[Gk a] at h;exact⟨p,h,id⟩
 .obtain⟨u,a,e⟩:=Iv h;cases e;obtain⟨c,d⟩:=f.Yy b o _ a;exact⟨c,d,λe=>by cases e⟩
 .obtain⟨u,a,e⟩:=Iv k;rw[Lb a] at h;cases h
 .obtain⟨u,a,e⟩:=Iv h;cases e
theorem uE (a:Holds S [] [] H):Holds S [] [] (QC S H):=
 ⟨λb o v h=>⟨false,Lb h⟩,U,λid r bo h=>by simp at h,λi j c d b e f _ h=>by simp at h,λid r b N h=>by simp at h⟩
theorem uD:Holds S [] [] (Tg S):=
 ⟨λb o v h=>⟨false,Gj h⟩,U,λid r bo h=>by simp at h,λi j a c b d e _ h=>by simp at h,λid r b N h=>by simp at h⟩
theorem uC (f:Holds S [] [] H):Ext S [] H S [] (QC S H):=by
 refine⟨λ_ _ _ h=>h,λb _ _=>⟨λo=>?_,U,U⟩,λb h=>.inl h,λb o v h=>.inl h,λb h=>?_⟩
 .cases a:S b o with
  | none=>exact .inl (Gk a)
  | some v=>
   obtain⟨p,g⟩:=f.Yy b o v a;exact .inr ⟨v,p,U,g,Lb a⟩
 .have d:∀b o,(QC S H).η b o=none->H.η b o=none:=λb o h=>by
   cases a:S b o with
   | none=>rw[Gk a] at h;exact h
   | some v=>rw[Lb a] at h;cases h
  exact⟨λo=>d b o (h.1 o),h.2.1,h.2.2.1,λc e=>⟨λo=>d c o ((h.2.2.2 c e).1 o),(h.2.2.2 c e).2⟩⟩
theorem Holds.P9 (a:Holds S B σ H) (c:∀b,¬H.fresh b->Uv H H' b) (k:∀b,H'.fresh b->H.fresh b):Holds S B σ H'/\Ext S B H S B H':=by
 have l:∀b o x,H.η b o=some x->¬H.fresh b:=λb o x h d=>by rw[d.1 o] at h;cases h
 refine⟨⟨λb o v h=>?_,a.len,λid r bo f g=>?_,a.inj,a.sep⟩,⟨λ_ _ _ h=>h,λb _ d=>SY.of (c b d),λb h=>.inl h,λb o v h=>.inl h,k⟩⟩
 .obtain⟨p,i⟩:=a.Yy b o v h;exact⟨p,by rw[(c b (l b o _ i)).1];exact i⟩
 .by_cases j:r.live
  .refine(a.row id r bo f g).later (Zm.refl S B σ) (λb N e=>c b (a.SE f j (by rw[g,e]))) λm left t e=>?_;subst e;obtain⟨_,_,u,w,xs,y,seen,_,A,⟨es,n⟩,_⟩:=a.row id _ bo f g;exact⟨U,U,λb N s=>c b (a.SE n trivial s)⟩
  .cases r<;>first|exact absurd trivial j|trivial
theorem Ext.P9 (h:Ext Xp [] H Yl [] H') {b:Nat} (a:¬H.fresh b):Uv H H' b:=(h.W7 b (λ⟨N,x⟩=>by simp at x) a).P9 λ_=>rfl
theorem Cx {w:World} (c:Fits H w) (d:Fits E w) {b o:Nat} {u v:Value} {p q:Bool} (h:H.η b o=some (u,p)) (k:E.η b o=some (v,q)):u=v:=by
 have a:=c.η b o u p h;rw[d.η b o v q k] at a;exact(WW a).symm
theorem uB {w:World} (e:Fits H w) (l:Fits E w) (m:Apart H E) {b N:Nat} {t:TypeId} (g:E.row b=some (t,N)) (n:∀o,o<N->∃v,E.η b o=some (v,true)):(∀o,H.η b o=none)/\Uv E (join H E) b:=by
 obtain⟨c,f,p⟩:=l.row b t N g;have h:∀o,H.η b o=none:=λo=>by
  cases a:H.η b o with
  | none=>rfl
  | some x=>
   have i:=e.η b o x.1 x.2 a;by_cases j:o<N
   .exact absurd ⟨x,a⟩ (m.Q' b o (n o j))
   .simp only[World.cell?,f] at i;simp[p,j] at i
 refine⟨h,λo=>join_none (h o),?_,?_⟩
 .cases a:H.row b with
  | none=>simp only[join,a]
  | some x=>
   obtain⟨c',d,k⟩:=e.row b x.1 x.2 a;rw[f] at d;cases d;simp only[join,a,g];obtain⟨r,s⟩:=x
   simp_all
 .cases a:H.obj b with
  | none=>simp only[join,a]
  | some x=>
   obtain⟨d,k⟩:=e.obj b x a;rw[f] at d;cases d;simp[Obj.Qh] at k
theorem Cw (i:Holds S [] [] H) (f:Holds TQ B σ E) (C:Apart H E) (D:∃w,Fits H w/\Fits E w) (y:∀r∈σ,MM r) :
  Holds (S.plus TQ) B σ (join H E)/\Zm S (S.plus TQ) [] B [] σ/\Zm TQ (S.plus TQ) B B σ σ:=by
 obtain⟨w,j,n⟩:=D;have st:∀b o v,TQ b o=some v->S.plus TQ b o=some v:=λb o v h=>by
  cases a:S b o with
  | none=>rw[Iu a];exact h
  | some u=>
   obtain⟨p,c⟩:=i.Yy b o u a;obtain⟨q,F⟩:=f.Yy b o v h;rw[La a,Cx j n c F]
 have l1:Zm S (S.plus TQ) [] B [] σ:=⟨λb o v h=>La h,λid r h=>by simp at h⟩
 have l2:Zm TQ (S.plus TQ) B B σ σ:=⟨st,λid r h=>⟨r,h,r.Qa _⟩⟩
 have A:∀(id:Nat) (r:Row) (b N:Nat),σ[id]?=some r->B[id]?=some (some (b,N))->(∀o,H.η b o=none)/\Uv E (join H E) b:=λid r b N d I=>by
  obtain⟨t,k,l,rfl⟩:=y r (Y1 d);obtain⟨J,_,Ρ,_⟩:=f.row id _ _ d I;exact uB j n C J Ρ
 refine⟨⟨λb o v h=>?_,f.len,λid r bo d g=>?_,f.inj,λid r b N d K g o=>?_⟩,l1,l2⟩
 .cases a:S b o with
  | some u=>
   rw[La a] at h;cases h;obtain⟨p,c⟩:=i.Yy b o _ a;exact⟨p,join_some c⟩
  | none=>
   rw[Iu a] at h;obtain⟨p,c⟩:=f.Yy b o v h;cases s:H.η b o with
   | none=>exact⟨p,by rw[join_none s];exact c⟩
   | some x=>
    obtain⟨u,q⟩:=x;have:=Cx j n s c;subst this;exact⟨q,join_some s⟩
 .refine(f.row id r bo d g).later l2 (λb N e=>(A id r b N d (by rw[g,e])).2) λm left M e=>?_;subst e;obtain⟨t,k,l,e⟩:=y _ (Y1 d);cases e
 .have L:=(A id r b N d g).1 o;cases a:S b o with
  | some u=>
   obtain⟨p,c⟩:=i.Yy b o u a;rw[L] at c;cases c
  | none=>rw[Iu a];exact f.sep id r b N d K g o
theorem Gi {o:Nat} {x:Value×Bool} (a:G.η β o=some x) {b:Nat} (c:G.fresh b):β<b:=by
 by_cases e:β<b
 .exact e
 .rcases OF b β with h|h
  .have:=(c.2.2.2 β h).1 o;rw[a] at this;cases this
  .obtain rfl:β=b:=J
   rw[c.1 o] at a;cases a
theorem Gh {b:Nat} (a:G.fresh β) (h:β<b):G.fresh b:=
 ⟨(a.2.2.2 b h).1,(a.2.2.2 b h).2.1,(a.2.2.2 b h).2.2,λc d=>a.2.2.2 c (Nat.lt_trans h d)⟩
theorem uA (a:∀b o v,S b o=some v->Xv b o≠none\/β<b):SR β Xv (Tg S):=
 ⟨λb o x h=>let ⟨v,c,_⟩:=Iv h;a b o v c,λb x h=>(by cases h),λb x h=>(by cases h)⟩
theorem SR.join (h:SR β Xv G) (k:SR β Xv E):SR β Xv (join G E):=by
 refine⟨λb o x a=>?_,λb x a=>(uH a).elim (h.row b x) (k.row b x),λb x a=>(uG a).elim (h.obj b x) (k.obj b x)⟩;cases c:G.η b o with
 | none=>rw[join_none c] at a;exact k.η b o x a
 | some y=>exact h.η b o y c
theorem SR.ext (h:SR β Xv G) {G':Τ} (f:Ext S B G Yl B' G') (g:∀b,B.has b->β<b) {o:Nat} {x:Value×Bool} (i:G.η β o=some x):SR β Xv G':=by
 have d:∀b,¬β<b->SY S G G' b:=λb a=>f.W7 b (λk=>a (g b k)) λk=>a (Gi i k);refine⟨λb o x c=>?_,λb x c=>?_,λb x c=>?_⟩
 .by_cases a:β<b
  .exact .inr a
  .rcases(d b a).1 o with e|⟨v,p,_,e,_⟩
   .rw[e] at c;exact h.η b o x c
   .exact h.η b o _ e
 .by_cases a:β<b
  .exact a
  .rw[(d b a).2.1] at c;exact h.row b x c
 .by_cases a:β<b
  .exact a
  .rw[(d b a).2.2] at c;exact h.obj b x c
theorem Cv {G':Τ} (b:Ext S B G Yl B' G') (c:¬B.has β) (d:∃o x,G.η β o=some x):∃o x,G'.η β o=some x:=by
 obtain⟨o,x,a⟩:=d;rcases(b.W7 β c (λf=>by rw[f.1 o] at a;cases a)).1 o with e|⟨v,p,_,_,e⟩
 .exact⟨o,x,by rw[e];exact a⟩
 .exact⟨o,_,e⟩
theorem SR.blocks (h:SR β Xv E) (c:Holds TQ B σ E) (f:∀r∈σ,MM r) {b:Nat} (g:B.has b):β<b:=by
 obtain⟨N,i⟩:=g;obtain⟨id,d⟩:=Sl i;have j:id<σ.length:=by rw[<-c.len];exact(Zo.1 d).1
 have a:=Z7 j;obtain⟨t,k,l,e⟩:=f _ (Y1 a);rw[e] at a;exact h.row b _ (c.row id _ _ a d).1
theorem uz (g:Ext OU [] Rj S [] H) (l:∀b o v,Xv b o=some v->S b o=some v) (j:Rj.fresh β) (hi:SR β Xv E) (t:Holds S [] [] H) (m:Holds TQ B σ E) (w:∀r∈σ,MM r) :
  Ext OU [] Rj (S.plus TQ) B (join H E):=by
 have A:∀b,¬Z5.has ([]:Z5) b:=λb ⟨N,h⟩=>by simp at h
 have C:∀b,¬Rj.fresh b->¬β<b:=λb h k=>h (Gh j k)
 have D:∀b,¬β<b->∀o,(join H E).η b o=H.η b o:=λb d o=>by
  cases a:H.η b o with
  | some x=>rw[join_some a]
  | none=>
   rw[join_none a];cases F:E.η b o with
   | none=>rfl
   | some y=>
    rcases hi.η b o y F with k|k
    .cases e:Xv b o with
     | none=>exact absurd e k
     | some v=>
      obtain⟨p,i⟩:=t.Yy b o v (l b o v e);rw[a] at i;cases i
    .exact absurd k d
 refine⟨λb o v h=>La (g.Yy b o v h),λb _ n=>?_,λb d=>.inr (Gh j (hi.blocks m w d)),λb o v h=>?_,λb h=>g.grow b ?_⟩
 .have d:=C b n;obtain⟨I,J,K⟩:=g.W7 b (A b) n;refine⟨λo=>by rw[D b d o];exact I o,?_,?_⟩
  .cases a:E.row b with
   | none=>rw[<-J];simp only[join,a];cases H.row b<;>rfl
   | some x=>exact absurd (hi.row b x a) d
  .cases a:E.obj b with
   | none=>rw[<-K];simp only[join,a];cases H.obj b<;>rfl
   | some x=>exact absurd (hi.obj b x a) d
 .cases e:S b o with
  | some u=>rw[La e] at h;cases h;exact g.QZ b o _ e
  | none=>
   rw[Iu e] at h;obtain⟨p,i⟩:=m.Yy b o v h;rcases hi.η b o _ i with k|k
   .cases s:Xv b o with
    | none=>exact absurd s k
    | some u=>rw[l b o u s] at e;cases e
   .exact .inr (.inr (Gh j k))
 .have c:∀b o,(join H E).η b o=none->H.η b o=none:=λb o h=>by
   cases a:H.η b o with
   | none=>rfl
   | some x=>rw[join_some a] at h;cases h
  have r:∀b,(join H E).row b=none->H.row b=none:=λb h=>by
   cases a:H.row b with
   | none=>rfl
   | some x=>simp only[join,a] at h;cases h
  have o:∀b,(join H E).obj b=none->H.obj b=none:=λb h=>by
   cases a:H.obj b with
   | none=>rfl
   | some x=>simp only[join,a] at h;cases h
  exact⟨λo'=>c b o' (h.1 o'),r b h.2.1,o b h.2.2.1,λf d=>⟨λo'=>c f o' ((h.2.2.2 f d).1 o'),r f (h.2.2.2 f d).2.1,o f (h.2.2.2 f d).2.2⟩⟩
end
end Go.TL
namespace Go.TL
open Go.IntKind (i32 i64 u32 u64)
open Go.Proofs.Tryz
open Go.Conc Go.Proofs
open Go.ConcN (sumTo upd sumTo_upd upd_ne upd_same sumTo_congr le_sumTo)
noncomputable def under (P:Program):Frame:={(default:Frame) with fn:=P.funcs.size,defers:=[],mode:=.panicking [goexitEntry]}
theorem uy {P:Program} {g:FuncId} {cap:ζ} (b:Plain P g) (w:World):stepG P false (born P ⟨.fn (.func g) cap,#[]⟩) w=.go (Go.Conc.G (Frame.enter P g cap .deferred) [under P]) w #[]:=by
 obtain⟨fn,c,d,a⟩:=b;have f:¬fn.name = "runtime.NumGoroutine" := by simpa using d
 have h:¬fn.body=none:=by intro e;rw[e] at a;cases a
 simp[born,stepG,unwind,callDeferred,invoke,callFunc,c,f,h,seen,GStep.after,Go.Conc.G,under]
theorem uw {P:Program} {b:Frame} {fn:Func} (a:P.funcs[b.fn]?=some fn) (c:fn.results=#[]) (d:b.defers=[]) (e:b.mode=.returning) (f:b.kind=.deferred):Uf P 0 (Go.Conc.G b [under P]):=by
 refine⟨2,QuitsD.ctl (g':=Go.Conc.G (under P) []) U (λw=>?_) ?_⟩
 .simp[Go.Conc.G,stepG,unwind,e,d,a,doReturn,results,c,f,under,seen,GStep.after,goexitEntry]
 .refine QuitsD.ctl (g':={Go.Conc.G (under P) [] with status:=.finished}) U (λw=>?_) ⟨U,U⟩;simp[Go.Conc.G,stepG,unwind,under,goexitEntry,Frame.catches];rfl
def PH (l:μ):Ψ:=if l.isEmpty then .sl true 0 [] else .ms 1 l.length 0 l.length
def WI (l:μ):Ξ:=.cells 99 1 [PH l]::ZL 110 3 l
theorem Gg:PH []=.sl true 0 []:=rfl
theorem It {l:μ} (h:l≠[]):PH l=.ms 1 l.length 0 l.length:=by unfold PH;rw[if_neg (by simpa using h)]
theorem Cu {l:μ} {x:Ψ}:PH (l++[x])=.ms 1 (l.length+1) 0 (l.length+1):=by rw[It Ω];simp
theorem Is (l:μ):∀r∈WI l,MM r:=by
 intro r h;unfold WI ZL at h;rcases Y9.1 h with rfl|h
 .exact⟨_,_,_,U⟩
 .split at h
  .cases h
  .simp at h;subst h;exact⟨_,_,_,U⟩
def NW (a:Nat) (b:κ) (o:Nat) (fd:Nat->Option Found) (L:ο) (E:Τ):Prop:=
 SR a b E/\∃S B,Holds S B (WI ((L.filterMap fd).map YB)) E/\B[0]?=some (some (o,1))
theorem uv {S c:κ} {B B':Z5} {l b:μ} {m:Nat} (h:Zm S c (B.take m) B' ((WI l).take m) (WI b)) (f:0<m):B'[0]?=B[0]?:=by
 obtain⟨m,rfl⟩:∃k,m=k+1:=⟨m-1,J⟩;obtain⟨r',d,e⟩:=h.rows 0 (.cells 99 1 [PH l]) (by simp[WI]);have:r'=.cells 99 1 [PH b]:=by simpa[WI] using d.symm
 subst this;rcases e with⟨l2,_,_,a⟩|a
 .simpa[OH] using a
 .have:=a 1 Ω;simp[Row.Wo] at this
section
variable {β s m o k:Nat} {S Xv:κ} {fd:Nat->Option Found} {sp:Spec} {W1:ω} {a b:Int} {v1 v2 ML:Value} {f:Found} {n:Nat}
abbrev TP (s:Nat) (sp:Spec):ZU:=⟨Τ.empty,λ_=>none,λ_=>.nil,upd (λ_=>none) s (some sp),λ_=>none,0,false⟩
abbrev Ir (s m o:Nat) (v1 v2 ML:Value):ζ:=#[ptr s 0,v1,v2,ML,ptr m 0,ptr o 0]
abbrev Gf (s m o:Nat) (W1:ω) (a b:Int):μ:=[.z (ptr s 0),ZV W1,.ξ [I a],.ξ [I b],.z (ptr m 0),.z (ptr o 0)]
theorem Ct:(TP s sp).spec s=some sp:=upd_same (λ_=>(none:Option Spec)) s (some sp)
theorem Cs (a:sp.ZK=some m) (b:sp.top<7):Vh (TP s sp) s m sp:=⟨rfl,rfl,Ct,a,b,λ_ _=>trivial⟩
theorem uu (a:sp.top<7):Cy (TP s sp) s sp:=⟨rfl,rfl,Ct,a,λ_ _=>trivial⟩
theorem uq (n:sp.ZK=some m) (d:sp.top<7) (e:sp.D k Τ.empty) {f:Value->Prop} {c:Frame} {H:Τ} {v:Option (Nat×Z')} {d1:Deferred} (a:N8 prog d1 142 #[ptr s 0])
  (b:c.mode=.returning) (g:c.defers=[d1]) (h:c.kind=.deferred) (i:c.fn=141):Y6 prog f false (ZH (TP s sp) s (.ch k .done .work) v 0) c [under prog] H:=by
 letI:ZP:=XV;have j:Seq (one (ZH (TP s sp) s (.ch k .done .work) v 0)):=Seq.O1 trivial U U;refine γ.deferred (x:=one _) j (by rw[b];simp) g a.t1 a.t2 a.run (λy l=>?_) _ U;cases l;refine uI (uu d) e b ?_;exact uw (fn:=f141) (by rw[i];exact func141) U U b h
theorem uo (g:sp.ZK=some m) (i:sp.top<7) (n:sp.XI=NW β Xv o fd) (p:sp.D k Τ.empty) {r:Value->Prop} {c:Frame} {t:κ} {d:Z5} {a:Τ} {L:ο} {v:Option (Nat×Z')} {d1 d2:Deferred}
  (u:N8 prog d1 142 #[ptr s 0]) (e:N8 prog d2 145 #[ptr m 0]) (f:c.mode=.returning) (w:c.defers=[d2,d1]) (A:c.kind=.deferred) (B:c.fn=141)
  (j:Holds t d (WI (((L++[k]).filterMap fd).map YB)) a) (C:d[0]?=some (some (o,1))) (hi:SR β Xv a) (E:∃q x,a.η β q=some x) :
  Y6 prog r false (ZH (TP s sp) s (.ch k (.Yw L) .work) v 0) c [under prog] a:=by
 letI:ZP:=XV;have F:Seq (one (ZH (TP s sp) s (.ch k (.Yw L) .work) v 0)):=Seq.O1 trivial U U;refine γ.deferred (x:=one _) F (by rw[f];simp) w e.t1 e.t2 e.run (λy H=>?_) _ U;cases H;refine ve (x:=TP s sp) (s:=s) (c:={c with defers:=[d1]}) (Cs g i) j f λI J l K=>⟨Τ.empty,J,⟨Sub.empty _,Sub.refl _,(Apart.Pn _).symm⟩,?_,λv2 P Q _=>?_⟩
 .rw[n];obtain⟨M,R,S⟩:=j.back l K;obtain⟨q,x,O⟩:=E;exact⟨hi.ext l (λb ⟨N,h⟩=>by simp at h) O,I,d,M,C⟩
 .exact uq g i p u f U A B
end
section
variable {β s m o k:Nat} {S Xv:κ} {fd:Nat->Option Found} {sp:Spec} {W1:ω} {a b:Int} {v1 v2 ML:Value} {f:Found} {n:Nat}
noncomputable abbrev um (vs:ζ) (ds:List Deferred):Frame:={Frame.enter prog 141 vs .deferred with defers:=ds}
noncomputable def Iq:Code:=f141.body.getD .skip
theorem uk (am:sp.ZK=some m) (an:sp.top<7) (Z:sp.XI=NW β Xv o fd) (ao:sp.D k Τ.empty) (ap:∀c:ZP,@Κ c prog 78 [YB f,I (-1)] (I n)) (aa:fd k=if 0<n then some f else none) {ab:Value->Prop}
  {r:κ} {H' E:Τ} {L:ο} (aq:Holds r [] [] H') (ad:sp.XI L E) (ar:Apart H' E) (au:∃w,Fits H' w/\Fits E w) (av:((L.filterMap fd).map YB).length<=4294967295) (aw:SR β Xv H') (ax:∃q x,H'.η β q=some x)
  {t:ζ} (ae:Yv r [] [] [(4,.z (ptr m 0)),(5,.z (ptr o 0)),(6,.ξ (YB f).cells)] t) (ay:t.size=20) {vs:ζ} {d1:Deferred} (az:N8 prog d1 142 #[ptr s 0]) {ops:ZC} :
  Y6 prog ab false (ZH (TP s sp) s (.ch k (.Yw L) .work) none 0) (π (um vs [d1]) t [.inRegion ops [],.code (Yf [1,1,1] Iq)]) [under prog] (join H' E):=by
 letI:ZP:=XV;have v:Seq (one (ZH (TP s sp) s (.ch k (.Yw L) .work) none 0)):=Seq.O1 trivial U U;rw[Z] at ad;obtain⟨hi,H,C,P,af⟩:=ad;obtain⟨l,K⟩:=Ε ((L.filterMap fd).map YB);have aA:l.length<=4294967295:=K▸av;rw[<-K] at P;obtain⟨aB,l1,l2⟩:=Cw aq P ar au (Is l);have ag:∀b,C.has b->β<b:=λb=>hi.blocks P (Is l);have aC:∃q x,(join H' E).η β q=some x:=let ⟨q,x,h⟩:=ax;⟨q,x,join_some h⟩;have aD:t.getD 5 undef=ptr o 0:=by
  have:=ae 5;generalize t.getD 5 undef=u at this;cases this;rfl
 have aE:Yv (r.plus H) C (WI l) [(4,.z (ptr m 0)),(5,.Δ 0 1 0 0),(6,.ξ (YB f).cells)] t:=λi=>by
  have Q:=(ae i).later l1;simp only[Z3] at Q ⊢;by_cases ah:4=i
  .simpa[ah] using Q
  by_cases ai:5=i
  .subst ai;simp only[show ¬4=5 by decide,if_false,if_true];rw[aD];have:=υ.Δ (S:=r.plus H) (B:=C) (σ:=WI l) (id:=0) (n:=1) (i:=0) (j:=0) (k:=1) (t:=99) (l:=[PH l]) (b:=o) (N:=1) (by simp[WI]) U af;simpa using this
  .simpa[ah,ai] using Q
 have aj:∀(M:μ) (g:κ) (p:Z5) (a:Τ) (c:Frame) (d2:Deferred),M=((L++[k]).filterMap fd).map YB->XE 1 (r.plus H) C (join H' E) (WI l) g p a (WI M)->Holds g p (WI M) a->N8 prog d2 145 #[ptr m 0]->
   c.mode=.returning->c.defers=[d2,d1]->c.kind=.deferred->c.fn=141->Y6 prog ab false (ZH (TP s sp) s (.ch k (.Yw L) .work) none 0) c [under prog] a:=λM g p a c d2 e R aF O aG aH aI aJ=>by
  subst e;obtain⟨q,x,ak⟩:=aC;exact uo am an Z ao az O aG aH aI aJ aF (by rw[uv R.later J];exact af) ((aw.join hi).ext R.ext ag ak) (Cv R.ext (λh=>Nat.lt_irrefl _ (ag β h)) ⟨q,x,ak⟩)
 refine V.here (x:=one _) (m:=1) (nt:=20) (S:=r.plus H) (B:=C) (σ:=WI l) (env:=[(4,.z (ptr m 0)),(5,.Δ 0 1 0 0),(6,.ξ (YB f).cells)]) ?_ ⟨aB,aE,ay,by simp[WI]⟩ _ U;refine V.W' v U ?_;refine W.ZB ?_;simp only[Iq,f141,Option.getD_some,Yf];refine YQ ?_;refine W.Za (.stop ?_);refine V.defer v U U U U U U U ⟨_,func145,U,U⟩ λaN aO aP t3 d2 aQ al aK aL O=>?_;obtain rfl:=To (l:=[ptr m 0]) aL;rintro y rfl;refine V.here (x:=one _) (m:=1) (nt:=20) ?_ aK _ U;refine V.W' v U ?_;refine W.ZB ?_;refine Z8 λaR aM=>?_;refine Κ.d (ap _) (Z9 ?_);apply aM;by_cases T:0<n
 .refine Ζ (by simp[T]) ?_;refine W.Xq (A:=[19]) Ο [] (WI (l++[YB f])) (.stop ?_) (by
   by_cases F:l=[]
   .subst F;(try simp);(repeat (rw[Θ];simp[WI,Gg,U0]));(try simp[WI,Gg,U0]);exact⟨U,U⟩
   ·(try simp);(repeat (rw[Θ];simp[WI,It F,Yd F,Cu,QM]));(try simp[WI,It F,Yd F,Cu,QM]);exact aA)
  intro g p a t5 X Y;refine γ.Qb v U U ?_;rintro y rfl;exact aj _ g p a _ d2 (by rw[Mj,XA,<-K];simp[aa,T]) (al.trans X) Y.holds O U U U U
 .refine Η (by simp;omega) ?_;refine YQ ?_;refine W.stop ?_;intro g p a t5 X Y;refine γ.Qb v U U ?_;rintro y rfl;exact aj _ g p a _ d2 (by rw[Mj,XA,<-K];simp[aa,T]) (al.trans X) Y.holds O U U U U
theorem NV {S:κ} {B:Z5} {σ:Ξ} {env env':Β} {t:ζ} (h:Yv S B σ env t) (a:∀p∈env',Z3 env p.1=p.2):Yv S B σ env' t:=by
 induction env' with
 | nil=>exact λi=>.Ze _
 | cons p l b=>
  intro i;simp only[Z3];split
  .rename_i e;have:=a p Ω;rw[<-this,e];exact h i
  .exact b (λq c=>a q (by simp[c])) i
theorem uj (i:sp.ZK=some m) (j:sp.top<7) (J:sp.XI=NW β Xv o fd) (K:sp.D k Τ.empty) (M:∀c:ZP,@Κ c prog 143 [Zq W1,Zb (a,b)] (YB f))
  (O:∀c:ZP,@Κ c prog 78 [YB f,I (-1)] (I n)) (P:fd k=if 0<n then some f else none) (Q:∀L:ο,L.Nodup->((L.filterMap fd).map YB).length<=4294967295)
  (R:∃q v,S β q=some v) (T:∀b q v,S b q=some v->Xv b q≠none\/β<b) (X:XN S [] [] (Gf s m o W1 a b) (Ir s m o v1 v2 ML)) {p:Value->Prop} :
  Goes prog p false (born prog ⟨.fn (.func 141) (Ir s m o v1 v2 ML),#[]⟩) {ZH (TP s sp) s (.ch k .idle .work) none 0 with G:=Tg S}:=by
 letI:ZP:=XV;have e:Seq (one (ZH (TP s sp) s (.ch k .idle .work) none 0)):=Seq.O1 trivial U U;refine Quiet.goes (.cons ⟨U,U⟩ (λw=>uy ⟨_,func141,U,U⟩ w) (.nil _)) (.inl U) ⟨U,U⟩ ?_;show Y6 prog p false (ZH (TP s sp) s (.ch k .idle .work) none 0) (Frame.enter prog 141 (Ir s m o v1 v2 ML) .deferred) [under prog] (Tg S);rw[Rw (body:=Iq) func141 U];refine V.here (x:=one _) (m:=0) (nt:=20) (S:=S) (B:=[]) (σ:=[]) (env:=entry 0 (Gf s m o W1 a b)) ?_ (Xb.enter uD X (Z6 _) Ω) _ U;refine V.W' e U ?_;simp only[Iq,f141,Option.getD_some];refine YQ ?_;refine W.Za (.stop ?_);refine V.defer e U U U U U U U ⟨_,func142,U,U⟩ λap Y aq t3 d1 ar Z t aa ab=>?_;obtain rfl:=To (l:=[ptr s 0]) aa;obtain rfl:Y=[]:=YA.1 t.holds.len;rintro y rfl;refine V.here (x:=one _) (m:=0) (nt:=20) ?_ t _ U;refine V.W' e U ?_;refine W.ZB ?_;refine YQ ?_;refine YY (A:=[6]) Ο λau ad=>Z9 ?_;refine Κ.d (M _) (Z9 ?_);apply ad;refine W.fix (id:=0) (σ':=[]) (Α _) U Ω Ω U [(4,.z (ptr m 0)),(5,.z (ptr o 0)),(6,.ξ (YB f).cells)] (by simp[entry]) ?_;refine YQ ?_;refine W.Za (.stop ?_);refine V.call e ⟨U,U,by simp[Frame.enter],U⟩ U U U ⟨_,func144,U,U⟩ λav ae aw t4 ax af g ag=>?_;obtain rfl:=To (l:=[ptr m 0]) ag;obtain rfl:ae=[]:=YA.1 g.holds.len;rintro y rfl;refine vk (Cs i j) g.holds λah ai L E u aj ak al ⟨am,ay,an⟩=>?_;rw[VJ U];have C:Ext S [] (Tg S) ah [] ai:=Z.ext.trans (af.ext.trans u);obtain⟨ao,az,F⟩:=R;have H:∀b,¬Z5.has ([]:Z5) b:=λb ⟨N,h⟩=>by simp at h
 exact uk i j J K O P aj ak al an (Q L am) ((uA T).ext C (λb h=>absurd h (H b)) (Gj F)) (Cv C (H β) ⟨ao,_,Gj F⟩)
  (by
   refine Yv.later (NV (g.put (a:=.z (.tuple #[])) U (.z _)).Y7 (by simp[Zn])) ⟨u.Yy,λid r h=>by simp at h⟩) (g.put (a:=.z (.tuple #[])) U (.z _)).size ab
end
end Go.TL
