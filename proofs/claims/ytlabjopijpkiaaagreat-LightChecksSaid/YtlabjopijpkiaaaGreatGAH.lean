import Derived.Conc.Own2
import Derived.Test.YtlabjopijpkiaaaGreatGAG
set_option maxHeartbeats 16000000
set_option maxRecDepth 20000
set_option linter.unusedSectionVars false
set_option linter.unusedSimpArgs false
set_option linter.unusedVariables false
namespace Go.TL
open Go.IntKind (i32 i64 u32 u64)
open Go.Proofs.Tryz
open Go.Conc Go.Proofs
open Go.ConcN (sumTo upd sumTo_upd upd_ne upd_same sumTo_congr le_sumTo)
theorem E0 {a b:ν} {t u:Tok} (c:Qx a t) (d:Qx b u) (h:mwd a=mwd b):a.Zj=b.Zj/\a.wk=b.wk/\a.sv=b.sv/\a.nw=b.nw:=by
 have:=c.Zj;have:=c.wk;have:=c.sv;have:=d.Zj;have:=d.wk;have:=d.sv;simp only[mwd] at h;omega
section
variable {Q:Value->Prop} {mn:Bool} {x:γ} {c:Frame} {rest:List Frame} {S:Α} {B:θ} {σ:Υ} {H:Ψ} {s m k:Nat} {sp:Spec} {v:Option (Nat×ν)} {t:Tok}
theorem Ms (b:VW x s m sp) {a:ν} (h:a.toSpec=sp):a.top<7:=by have:=b.top;rw[show a.top=sp.top by rw[<-h]];exact this
theorem yk (d:VW x s m sp) (y:Qv Q mn x c rest S H s k sp) {φ:Nat} {a:ν} (B:Mt Q mn x c rest S H s m k sp φ) (p:a.toSpec=sp) {b st:Bool} {f τ:Int} (i:Qx a (.ch k (.act b) .work)) (C:st=true->b=true) (N:0<=f) (O:f<=4) :
  VG Q mn x c rest S H s m (.ch k (.act b) .work) (some (φ,a)) 1 (.code (YC [0] Rl)::.code (YC [1] Rl)::.inBlock 1::U5) (Y6 m (mwd a) b st f τ++[(7,.z (.int .i32 (SA a.Zj a.wk a.sv a.nw b st)))]):=by
 letI:ZS:=Yo;have g:=d.seq;have ad:=E1 i;have ae:=Ms d p;have af:=i.Zj;have ag:=i.wk;have ah:=i.sv;have ai:=i.nw;have r:=Iq a.Zj U a.wk U a.sv U a.nw U;rw[<-SB] at r;have P:∀(w:Option (Nat×ν)) (env:Ι),Z' env 0=.z (ptr m 0)->VG Q mn x c rest S H s m (.ch k .own .work) w 1 [.code Mu] env:=λw env h=>E3 d y h;have R:∀(t:Nat) (D:ν),t<φ->¬X9 .i32 (mwd a) 5=0->VG Q mn x c rest S H s m (.ch k .q .work) (some (t,D)) 1 (.code Ud::.inBlock 1::U5) (Y6 m (mwd a) b st f τ):=λt D T X=>yl d y B T X;refine V.Zy (g _ _ _) ?_;unfold Rl R1 Ue R2;refine W.Zt ?_;refine W.part (A:=[]) Τ [0,1,2,3,4] [5] rfl λY u=>?_;(try simp);(repeat (rw[Μ];simp[Y6]));(try simp[Y6]);apply u;refine W.stop ?_;refine V.Kb (g _ _ _).here (Vn _) (sp:=sp) d.spec (by rw[Zx];exact id) d.Z0 ⟨⟨rfl,rfl,by simp[Frame.enter],rfl⟩,J5,⟨_,rfl⟩,rfl,rfl,rfl⟩ (λl e n hv=>.inl ?_) (λl e n hv=>?_)
 ·
  have E:=n.view φ a SC
  have aj:l<φ:=by
   rcases OB l φ with h|h
   .exact h
   .exact absurd (by rw[E.2 U]) hv
  unfold Wx;rw[Vt];refine V.Zy (g _ _ _) ?_;refine W.ZM ?_;refine Y' ?_;refine χ rfl ?_;refine W.Zt ?_;refine XW [0,1,2] [3,4] ?_;refine W.stop ?_;refine V.NT (g _ _ _).here (sp:=sp) d.spec (by rw[Zx];exact id) ⟨rfl,rfl,by simp[Frame.enter],rfl⟩ rfl rfl rfl NS rfl J4 mwd (λa w p Z=>Z.R9 (by rw[p];exact d.Z0)) (λo F v=>.inl ?_);have ak:=v.view l e SC;have I:=v.VX.TQ;rw[Zx] at I;unfold Wx;rw[Vt];refine V.Zy (g _ _ _) ?_;refine W.part (A:=[]) Τ [4] [] rfl λY u=>?_;(try simp);(repeat (rw[Μ];simp));(try simp);apply u;refine W.ZM ?_;refine W.inBlock ?_;refine W.forget (Y6 m (mwd F) b st f τ) (by simp[Y6]) (.stop ?_);exact B o F b st f τ U v.spec I C N O
 .have E:=n.view φ a SC
  have J:=n.VX.TQ;rw[Zx] at J;obtain⟨aa,K,L,M⟩:=E0 J i hv;by_cases j:a.Zj=0/\a.sv=0
  .refine⟨{e with Zj:=1,wk:=if b then 0 else e.wk},.ch k .own .work,?_,rfl,⟨rfl,rfl,rfl⟩,by rw[Zx];exact .acq U U,λo ab=>?_⟩
   .simp[SA,SB,K,L,M,j.1,j.2]
   .rw[W6];rw[j.1,j.2] at r;refine V.Zy (g _ _ _) ?_;refine W.ZM ?_;refine Y' ?_;refine υ rfl ?_;refine WQ r ?_;refine W.exit rfl (.stop ?_);exact P _ _ rfl
  .have al:a.Zj=1\/a.sv=1:=U
   refine⟨{e with nw:=e.nw+1,wk:=if b then 0 else e.wk,sv:=if(st&&decide (a.Zj=1)) then 1 else e.sv},.ch k .q .work,?_,rfl,⟨rfl,rfl,rfl⟩,by rw[Zx];exact .queue (st&&decide (a.Zj=1)) U (λh=>by simp at h;exact⟨C h.1,U⟩),λo ab=>?_⟩
   .simp only[SA,if_neg j,SB,aa,K,L,M];simp
   .rw[W6];refine V.Zy (g _ _ _) ?_;refine W.ZM ?_;refine Y' ?_;refine υ rfl ?_;refine W.forget (Y6 m (mwd a) b st f τ) (by simp[Y6]) (.stop ?_);exact R o _ U U
theorem yj (f:VW x s m sp) {φ:Nat} {b st:Bool} {a τ:Int} {g:Nat} {j:ν} (B:0<=a) (C:a<4)
  (r:∀(l:Nat) (e:ν),l<=g->e.toSpec=sp->Qx e (.ch k (.act b) .work)->VG Q mn x c rest S H s m (.ch k (.act b) .work) (some (l,e)) 1 U5 (Y6 m (mwd e) b st (a+1) τ)) :
  VG Q mn x c rest S H s m (.ch k (.act b) .work) (some (g,j)) 1 (.code (YC [0,0,1,0,1,0] Ue)::.code (YC [0,0,1,0,1,1] Ue)::.code R1::.inBlock 1::U5) [(0,.z (ptr m 0)),(2,.z (.int .i64 τ)),(3,.z (.bool st)),(4,.z (.bool b)),(5,.z (.int .i64 a))]:=by
 letI:ZS:=Yo;have d:=f.seq;have n:i64.wrap (a+1)=a+1:=by simp only[IntKind.wrap_i64];omega
 refine V.Zy (d _ _ _) ?_;unfold Ue R2;refine Y' ?_;refine W.Zt (.stop ?_);refine V.J9 (d _ _ _) (vs:=[]) ⟨⟨rfl,rfl,by simp[Frame.enter],rfl⟩,yu,⟨_,rfl⟩,rfl,rfl,rfl⟩ ?_;refine V.Zy (d _ _ _) ?_;refine W.ZM ?_;refine Y' ?_;refine YH λt h=>?_;(try simp);(repeat (rw[Μ];simp[n]));(try simp[n]);apply h;refine Y' ?_;refine W.Zt ?_;refine XW [0,1,2] [3,4] ?_;refine W.stop ?_;refine V.NT (d _ _ _).here (sp:=sp) f.spec (by rw[Zx];exact id) ⟨rfl,rfl,by simp[Frame.enter],rfl⟩ rfl rfl rfl NS rfl J4 mwd (λD w u v=>v.R9 (by rw[u];exact f.Z0)) (λy o i=>.inl ?_);have E:=i.view g j SC;have p:=i.VX.TQ;rw[Zx] at p;unfold Wx;rw[Vt];refine V.Zy (d _ _ _) ?_;refine W.part (A:=[]) Τ [4] [] rfl λt h=>?_;(try simp);(repeat (rw[Μ];simp));(try simp);apply h;refine W.ZM ?_;refine W.exit rfl ?_;refine W.forget (Y6 m (mwd o) b st (a+1) τ) (by simp[Y6]) (.stop ?_);exact r y o U i.spec p
theorem yi (o:VW x s m sp) (ak:Qv Q mn x c rest S H s k sp):∀(N φ:Nat) (a:ν) (f st:Bool) (d τ:Int),φ*8+(4-d).toNat<N->a.toSpec=sp->Qx a (.ch k (.act f) .work)->(st=true->f=true)->0<=d->d<=4->
  VG Q mn x c rest S H s m (.ch k (.act f) .work) (some (φ,a)) 1 (.code Ue::U5) (Y6 m (mwd a) f st d τ):=by
 letI:ZS:=Yo;have p:=o.seq;intro N
 induction N with
 | zero=>intro φ a f st d τ h;omega
 | succ N al=>
  intro φ a f st d τ aw X r v Y am;have an:=E1 r;have ax:=Ms o X;have ay:=r.Zj;have az:=r.wk;have aA:=r.sv;have aB:=r.nw;have w:=Iq a.Zj U a.wk U a.sv U a.nw U;have Χ:=J7 a.Zj U a.wk U a.sv U a.nw U;have L:=yC a.Zj U a.wk U a.sv U a.nw U;have B:=Im a.Zj U a.wk U a.sv U a.nw U;rw[<-SB] at w Χ B L;have Z:∀(l:Nat) (g:ν) (e t:Bool) (n C:Int),l*8+(4-n).toNat<N->g.toSpec=sp->Qx g (.ch k (.act e) .work)->(t=true->e=true)->0<=n->n<=4->
    VG Q mn x c rest S H s m (.ch k (.act e) .work) (some (l,g)) 1 U5 (Y6 m (mwd g) e t n C):=λl g e t n C F I D i u M=>by
   have:=al l g e t n C F I D i u M;refine V.XK (p _ _ _) rfl ?_;exact W.inLoop (.stop this)
  have ao:Mt Q mn x c rest S H s m k sp φ:=λl g e t n C F I D i u M=>Z l g e t n C U I D i u M
  have aa:VG Q mn x c rest S H s m (.ch k (.act f) .work) (some (φ,a)) 1 (.code R1::.inBlock 1::U5) (Y6 m (mwd a) f st d τ):=by
   rw[SB];exact yo o U U U U an v (by rw[<-SB];exact yk o ak ao X r v Y am)
  have E:∀(O:Nat) (ab:ν) (e:Bool),d<4->(O<=φ)->(st=true->e=true)->VG Q mn x c rest S H s m (.ch k (.act e) .work) (some (O,ab)) 1 (.code (YC [0,0,1,0,1,0] Ue)::.code (YC [0,0,1,0,1,1] Ue)::.code R1::.inBlock 1::U5) [(0,.z (ptr m 0)),(2,.z (.int .i64 τ)),(3,.z (.bool st)),(4,.z (.bool e)),(5,.z (.int .i64 d))]:=λO ab e F I D=>
   yj o (φ:=φ) Y F λl g ad ae P=>Z l g e st (d+1) τ U ae P D U U
  refine V.Zy (p _ _ _) ?_;unfold Ue R2;refine Y' ?_;by_cases af:a.Zj=1/\a.sv=0
  .rw[af.1,af.2] at w;refine W.Zt ?_;refine W.part (A:=[]) Τ [0,1,2,3,4] [5,6] rfl λj b=>?_;(try simp);(repeat (rw[Μ];simp[Y6,w]));(try simp[Y6,w]);apply b;refine W.stop ?_;refine V.canSpin (p _ _ _) ⟨⟨rfl,rfl,by simp[Frame.enter],rfl⟩,yv,⟨_,rfl⟩,rfl,rfl,rfl⟩ λy ap=>?_;refine V.Zy (p _ _ _) ?_;refine W.part (A:=[]) Τ [6] [] rfl λj b=>?_;(try simp);(repeat (rw[Μ];simp[Y6]));(try simp[Y6]);apply b;refine W.ZM ?_;cases y with
   | false=>
    refine χ rfl ?_
    first|apply Xh|apply Xg|apply WY|apply wd
    refine W.forget (Y6 m (mwd a) f st d τ) (by simp[Y6]) (.stop ?_);exact aa
   | true=>
    have i:=ap rfl;refine υ rfl ?_;refine Y' ?_;cases f with
    | true=>
     (repeat (first|apply Xh|apply Xg|apply WY|apply wd|refine υ rfl ?_|refine χ rfl ?_|(refine YH λj b=>?_;simp;(repeat (rw[Μ];simp[Y6]));apply b)));refine W.forget [(0,.z (ptr m 0)),(2,.z (.int .i64 τ)),(3,.z (.bool st)),(4,.z (.bool true)),(5,.z (.int .i64 d))] J (.stop ?_);exact E φ a true i (ZO _) (λ_=>rfl)
    | false=>
     by_cases ag:a.wk=0
     .by_cases R:a.nw=0
      .rw[ag] at Χ;rw[R] at B;(repeat (first|apply Xh|apply Xg|apply WY|apply wd|refine υ rfl ?_|refine χ rfl ?_|(refine YH λj b=>?_;simp;(repeat (rw[Μ];simp[Y6,Χ,B]));apply b)));refine W.forget [(0,.z (ptr m 0)),(2,.z (.int .i64 τ)),(3,.z (.bool st)),(4,.z (.bool false)),(5,.z (.int .i64 d))] J (.stop ?_);exact E φ a false i (ZO _) v
      .rw[ag] at Χ;have ah:((a.nw:Int) != 0)=true:=by simp;omega
       refine W.Zt ?_;refine W.part (A:=[]) Τ [0,1,2,3,4,5,6,7,8,9,10,11,12,13,14,15,16,17,18] [19,20] rfl λj b=>?_;(try simp);(repeat (rw[Μ];simp[Y6,Χ,B,L,R,ah]));(try simp[Y6,Χ,B,L,R,ah]);apply b;refine W.stop ?_;refine V.Kb (p _ _ _).here (Vn _) (sp:=sp) o.spec (by rw[Zx];exact id) o.Z0 ⟨⟨rfl,rfl,by simp[Frame.enter],rfl⟩,J5,⟨_,rfl⟩,rfl,rfl,rfl⟩ (λai T K hv=>.inl ?_) (λai T K hv=>?_)
       .have aq:=K.view φ a SC;unfold Wx;rw[Vt];refine V.Zy (p _ _ _) ?_;refine W.part (A:=[]) Τ [20] [] rfl λj b=>?_;(try simp);(repeat (rw[Μ];simp[Y6]));(try simp[Y6]);apply b;refine W.ZM ?_;refine χ rfl ?_;refine Y' ?_;refine W.forget [(0,.z (ptr m 0)),(2,.z (.int .i64 τ)),(3,.z (.bool st)),(4,.z (.bool false)),(5,.z (.int .i64 d))] (by simp[Y6]) (.stop ?_);exact E ai T false i U v
       .have aq:=K.view φ a SC
        have aj:=K.VX.TQ;rw[Zx] at aj;obtain⟨ad,ae,P,ar⟩:=E0 aj r hv;refine⟨{T with wk:=1},.ch k (.act true) .work,?_,rfl,⟨rfl,rfl,rfl⟩,by rw[Zx];exact .Db U U U U,λau aC=>?_⟩
        .simp[SB,ad,P,ar]
        .rw[W6];refine V.Zy (p _ _ _) ?_;refine W.part (A:=[]) Τ [20] [] rfl λj b=>?_;(try simp);(repeat (rw[Μ];simp[Y6]));(try simp[Y6]);apply b;refine W.ZM ?_;refine υ rfl ?_;refine YH λj b=>?_;(try simp);(repeat (rw[Μ];simp[Y6]));(try simp[Y6]);apply b;refine Y' ?_;refine W.forget [(0,.z (ptr m 0)),(2,.z (.int .i64 τ)),(3,.z (.bool st)),(4,.z (.bool true)),(5,.z (.int .i64 d))] (by simp[Y6]) (.stop ?_);exact E au _ true i U (λ_=>rfl)
     .have av:a.wk=1:=U
      rw[av] at Χ;(repeat (first|apply Xh|apply Xg|apply WY|apply wd|refine υ rfl ?_|refine χ rfl ?_|(refine YH λj b=>?_;simp;(repeat (rw[Μ];simp[Y6,Χ]));apply b)));refine W.forget [(0,.z (ptr m 0)),(2,.z (.int .i64 τ)),(3,.z (.bool st)),(4,.z (.bool false)),(5,.z (.int .i64 d))] J (.stop ?_);exact E φ a false i (ZO _) v
  .have u:¬X9 .i32 (mwd a) 5=1:=by rw[w];omega
   refine YH λj b=>?_;(try simp);(repeat (rw[Μ];simp[Y6,u]));(try simp[Y6,u]);apply b;refine χ rfl ?_
   first|apply Xh|apply Xg|apply WY|apply wd
   refine W.forget (Y6 m (mwd a) f st d τ) (by simp[Y6]) (.stop ?_);exact aa
theorem yh (a:VW x s m sp):E4 Q mn x s m k sp:=by
 intro c rest S B σ H v j l;letI:ZS:=Yo;have b:=a.seq;have n:=λφ d o st e τ p r t u y=>yi a l (φ*8+(4-e).toNat+1) φ d o st e τ (Q4 _) p r t u y;refine V.R7 (z:=one _) (vs:=[ptr m 0]) func213 rfl j (by simp[ntmps213]) ?_ _ rfl;refine V.Zy (b _ _ _) ?_;refine WR ?_;refine W.Zt ?_;refine XW [0,1,2] [3,4] ?_;refine W.stop ?_;refine V.NT (b _ _ _).here (sp:=sp) a.spec (by rw[Zx];exact id) ⟨rfl,rfl,by simp[Frame.enter],rfl⟩ rfl rfl rfl NS rfl J4 mwd (λd w C D=>D.R9 (by rw[C];exact a.Z0)) (λE f g=>.inl ?_);have i:=g.VX.TQ;rw[Zx] at i;unfold Wx;rw[Vt];refine V.Zy (b _ _ _) ?_;refine W.part (A:=[]) Τ [4] [] rfl λI F=>?_;(try simp);(repeat (rw[Μ];simp));(try simp);apply F;refine W.ZM ?_;refine Y' ?_;refine W.loop ?_;refine W.forget (Y6 m (mwd f) false false 0 0) (by simp[Y6]) (.stop ?_);exact n E f false false 0 0 g.spec i (λh=>by cases h) U U
theorem yg (a:VW x s m sp) (e:Holds S B σ H) (f:Qv Q mn x c rest S H s k sp):Zq prog Q mn (ZR x s (.ch k .idle .work) v 0) (Frame.enter prog 144 #[ptr m 0] .normal) (c::rest) H:=by
 letI:ZS:=Yo;have b:=a.seq;refine V.R7 (z:=one _) (vs:=[ptr m 0]) func144 rfl e (by simp[ntmps144]) ?_ _ rfl;refine V.Zy (b _ _ _) ?_;refine Y' ?_;refine W.Zt ?_;refine XW [0,1,2] [3] ?_;refine W.stop ?_;refine V.call (b _ _ _) ⟨rfl,rfl,by simp[Frame.enter],rfl⟩ rfl rfl rfl ⟨_,func175,rfl,rfl⟩ λu g w t1 A h d hv=>?_;obtain rfl:=Ug (l:=[ptr m 0]) hv;obtain rfl:g=[]:=YV.1 d.holds.len;rintro y rfl;refine yp a d.holds (yh a) λi j L E n o p r t=>?_;rw[Wr rfl];refine Zq.leave0 (b _ _ _) rfl rfl rfl rfl func144 rfl ?_;exact f i j L E (h.ext.trans n) o p r t
end
noncomputable def EZ:Code:=f215.body.getD .skip
noncomputable def Ih:Code:=YC [1,1,0,1,0,0] EZ
noncomputable def EY:List Item:=[.inLoop Ih,.inBlock 0]
theorem yf:∀n<8,0<n->RE .i32 (i32.wrap (W5 0 0 0 n-8)) 2=W5 0 1 0 (n-1):=by decide +kernel
theorem ye:∀b<2,∀c<2,∀n<8,X9 .i32 (i32.wrap (W5 0 b c n+1)) 1=1:=by decide +kernel
abbrev X0:Α:=λ_ _=>none
theorem Mr {S b:Α} {B B':θ} {σ σ':Υ} {env:Ι} {t:Array Value} (c:∀p∈env,∃v,p.2=I.z v) (h:YS S B σ env t):YS b B' σ' env t:=by
 intro i;have d:∀(env:Ι),(∀p∈env,∃v,p.2=I.z v)->(∃v,Z' env i=.z v)\/Z' env i=.Zw:=by
  intro env
  induction env with
  | nil=>exact λ_=>.inr rfl
  | cons p l f=>
   intro h;obtain⟨j,a⟩:=p;simp only[Z'];split
   .exact .inl (h (j,a) J)
   .exact f λq g=>h q (by simp[g])
 have hi:=h i;rcases d env c with⟨v,e⟩|e
 .rw[e] at hi ⊢;generalize t.getD i undef=u at hi;cases hi;exact .z _
 .rw[e];exact .Zw _
theorem NR (H:Ψ):Holds X0 [] [] H:=⟨λb o v h=>(by cases h),rfl,λid r bo h=>(by simp at h),λi j a c b d e _ h=>(by simp at h),λid r b N h=>(by simp at h)⟩
theorem XN.none {m nt:Nat} {S:Α} {B:θ} {H H':Ψ} {env:Ι} {t:Array Value} (h:XN m nt S B H [] env t) (a:∀p∈env,∃v,p.2=I.z v):XN 0 nt X0 [] H' [] env t:=⟨NR H',Mr a h.Zr,h.size,ZO _⟩
section
variable {Q:Value->Prop} {mn:Bool} {x:γ} {c:Frame} {rest:List Frame} {S:Α} {B:θ} {σ:Υ} {H:Ψ} {s m k:Nat} {sp:Spec} {v:Option (Nat×ν)} {t:Tok}
abbrev Ig (Q:Value->Prop) (mn:Bool) (x:γ) (c:Frame) (rest:List Frame) (H:Ψ) (s m:Nat) (w:Int) (t:Tok) (v:Option (Nat×ν)) (K:List Item) (env:Ι):Prop:=
 V prog Q mn (one (ZR x s t v 1)) (Frame.enter prog 215 #[ptr m 0,.int .i32 w] .normal) (c::rest) 43 ⟨X0,[],H,[],0⟩ K env []
def Mq (Q:Value->Prop) (mn:Bool) (x:γ) (c:Frame) (rest:List Frame) (H:Ψ) (s k d:Nat):Prop:=
 ∀(v:Option (Nat×ν)) (b:Α) (a:Ψ),Ext X0 [] H b [] a->Zq prog Q mn (ZR x s (.ch k .done .work) v d) (c.finish (.tuple #[])) rest a
theorem Ie (a:VW x s m sp) (b:Mq Q mn x c rest H s k 1) {w:Int} {K:List Item} {env:Ι} (e:t=.ch k .done .work):Ig Q mn x c rest H s m w t v (.code .ret::K) env:=by
 letI:ZS:=Yo;have d:=a.seq;subst e;refine V.Iu (d _ _ _) rfl rfl rfl rfl func215 rfl λf g h i j=>?_;obtain rfl:g=[]:=YV.1 j.len;rintro y rfl;exact b v f h i.ext
def EX (k:Nat) (a:ν) (t:Tok):Prop:=((a.nw=0\/a.Zj=1\/a.wk=1\/a.sv=1)/\t=.ch k .done .work)\/(0<a.nw/\a.Zj=0/\a.wk=0/\a.sv=0/\t=.ch k .uc .work)
theorem EW (b:VW x s m sp) (D:Mq Q mn x c rest H s k 1) {w:Int}:∀(N φ:Nat) (a:ν) (t:Tok),φ<N->a.Zj<=1->a.wk<=1->a.sv<=1->a.nw<7->EX k a t->
  Ig Q mn x c rest H s m w t (some (φ,a)) (.code Ih::EY) [(0,.z (ptr m 0)),(4,.z (.int .i32 (mwd a)))]:=by
 letI:ZS:=Yo;have d:=b.seq;intro N
 induction N with
 | zero=>intro φ a t h;omega
 | succ N ad=>
  intro φ a t ao ap aq ar au K;have l:=yF a.Zj U a.wk U a.sv U a.nw U;have i:=Im a.Zj U a.wk U a.sv U a.nw U;rw[<-SB] at l i;have L:∀(n:Nat) (e:ν) (t':Tok),n<N->e.Zj<=1->e.wk<=1->e.sv<=1->e.nw<7->EX k e t'->Ig Q mn x c rest H s m w t' (some (n,e)) EY [(0,.z (ptr m 0)),(4,.z (.int .i32 (mwd e)))]:=λn e t' E o p r M ae=>by
   have:=ad n e t' E o p r M ae;refine V.XK (d _ _ _) rfl ?_;exact W.inLoop (.stop this)
  refine V.Zy (d _ _ _) ?_;unfold Ih EZ;refine Y' ?_;rcases K with⟨K,rfl⟩|⟨E,o,p,r,rfl⟩
  .by_cases u:a.nw=0
   .rw[u] at i;refine WQ i ?_;exact .stop (Ie b D rfl)
   .have O:¬X9 .i32 (mwd a) 7=0:=by rw[l];omega
    have af:(X9 .i32 (mwd a) 7 != 0)=true:=by simpa using O
    refine WQ (Ρ i (Ρ u (Ρ O af))) ?_;exact .stop (Ie b D rfl)
  .have u:¬a.nw=0:=U
   have ag:¬(a.nw:Int)=0:=U
   have P:mwd a=W5 0 0 0 a.nw:=by rw[SB,o,p,r]
   have F:=yf a.nw U E;rw[<-P] at F;rw[o,p,r] at l;refine WQ (Ρ i (Ρ u (Ρ ag l))) ?_;refine W.Zt ?_;refine W.part (A:=[]) Τ [0,1,2,3,4] [5] rfl λR j=>?_;(try simp);(repeat (rw[Μ];simp[F]));(try simp[F]);apply j;refine W.stop ?_;refine V.Kb (d _ _ _).here (Vn _) (sp:=sp) b.spec (by rw[Zx];exact id) b.Z0 ⟨⟨rfl,rfl,by simp[Frame.enter],rfl⟩,J5,⟨_,rfl⟩,rfl,rfl,rfl⟩ (λv f y hv=>.inl ?_) (λv f y hv=>?_)
   .have ah:=y.view φ a SC
    have M:v<φ:=by
     rcases OB v φ with h|h
     .exact h
     .exact absurd (by rw[ah.2 U]) hv
    unfold Wx;rw[Vt];refine V.Zy (d _ _ _) ?_;refine W.ZM ?_;refine χ rfl ?_;refine Y' ?_;refine W.Zt ?_;refine XW [0,1,2] [3,4] ?_;refine W.stop ?_;refine V.NT (d _ _ _).here (sp:=sp) b.spec (by rw[Zx];exact id) ⟨rfl,rfl,by simp[Frame.enter],rfl⟩ rfl rfl rfl NS rfl (by kernel_rfl) mwd (λa w ai aj=>aj.R9 (by rw[ai];exact b.Z0)) (λS g I=>?_);have av:=I.view v f SC;have B:=I.VX.TQ;have ak:=Ms b I.spec;have T:=B.Zj;have X:=B.wk;have Y:=B.sv;have aw:=B.nw;by_cases Z:g.nw=0\/g.Zj=1\/g.wk=1\/g.sv=1
    .refine .inr ⟨.ch k .done .work,by rw[Zx];exact .C7 Z,λaa al=>?_⟩;rw[W6];refine V.Zy (d _ _ _) ?_;refine W.part (A:=[]) Τ [4] [] rfl λR j=>?_;(try simp);(repeat (rw[Μ];simp));(try simp);apply j;refine W.ZM ?_;refine Y' ?_;refine W.forget [(0,.z (ptr m 0)),(4,.z (.int .i32 (mwd g)))] J (.stop ?_);exact L aa g _ U T X Y U (.inl ⟨Z,rfl⟩)
    .refine .inl ?_;unfold Wx;rw[Vt];refine V.Zy (d _ _ _) ?_;refine W.part (A:=[]) Τ [4] [] rfl λR j=>?_;(try simp);(repeat (rw[Μ];simp));(try simp);apply j;refine W.ZM ?_;refine Y' ?_;refine W.forget [(0,.z (ptr m 0)),(4,.z (.int .i32 (mwd g)))] J (.stop ?_);exact L S g _ U T X Y U (.inr ⟨U,U,U,U,rfl⟩)
   .have C:=y.VX.TQ
    have ak:=Ms b y.spec
    have f1:=C.Zj;have f2:=C.wk;have f3:=C.sv;have f4:=C.nw
    have f5:f.Zj=0/\f.wk=0/\f.sv=0/\f.nw=a.nw:=by
     rw[P] at hv;simp only[mwd,W5] at hv;omega
    refine⟨{f with nw:=f.nw-1,wk:=1},.ch k .us .work,?_,rfl,⟨rfl,rfl,rfl⟩,by rw[Zx];exact .C8 U U U U,λS al=>?_⟩
    .simp[SB,f5]
    .rw[W6];refine V.Zy (d _ _ _) ?_;refine W.ZM ?_;refine υ rfl ?_;refine Y' ?_;refine W.Zt ?_;refine XW [0,1,2] [3] ?_;refine W.stop ?_;refine V.Fg (d _ _ _).here (sp:=sp) b.spec (by rw[Zx];exact id) b.Z0 (vs:=[ptr m 1,.bool false,.int .i64 2]) rfl ⟨⟨rfl,rfl,by simp[Frame.enter],rfl⟩,E7,⟨_,rfl⟩,rfl,rfl,rfl⟩ (λaa ab am=>?_);have an:=am.VX.TQ;refine⟨by have:=an.YM;omega,{ab with YM:=ab.YM+1},.ch k .done .work,rfl,rfl,⟨rfl,rfl,rfl⟩,by rw[Zx];exact .post,λax ay=>?_⟩;rw[W6];refine V.Zy (d _ _ _) ?_;refine W.ZM (.stop ?_);exact Ie b D rfl
theorem yd (e:VW x s m sp) (i:Mq Q mn x c rest H s k 1) {a:ν} {φ:Nat} (K:a.toSpec=sp) (l:a.Zj=0) (n:a.wk<=1) (o:a.sv<=1) (p:a.nw<7)
  (u:(a.sv=0/\(a.nw=0\/a.wk=1)/\t=.ch k .done .work)\/(a.sv=0/\0<a.nw/\a.wk=0/\t=.ch k .uc .work)\/(a.sv=1/\t=.ch k .us .work)) :
  Zq prog Q mn (ZR x s t (some (φ,a)) 1) (Frame.enter prog 215 #[ptr m 0,.int .i32 (mwd a)] .normal) (c::rest) H:=by
 letI:ZS:=Yo;have f:=e.seq;have g:=ye a.wk U a.sv U a.nw U;have b:=Ip 0 U a.wk U a.sv U a.nw U;have v:mwd a=W5 0 a.wk a.sv a.nw:=by rw[SB,l]
 rw[<-v] at g b;refine V.R7 (z:=one _) (vs:=[ptr m 0,.int .i32 (mwd a)]) (S:=X0) func215 rfl (NR H) (by simp[ntmps215]) ?_ _ rfl;refine V.Zy (f _ _ _) ?_;rcases u with⟨d,j,rfl⟩|⟨d,j,w,rfl⟩|⟨d,rfl⟩
 .rw[d] at b;refine WQ (Ρ g b) ?_;refine W.loop ?_;refine W.forget [(0,.z (ptr m 0)),(4,.z (.int .i32 (mwd a)))] J (.stop ?_);exact EW e i (φ+1) φ a _ (Q4 _) U n o p (.inl ⟨j.imp id λh=>.inr (.inl h),rfl⟩)
 .rw[d] at b;refine WQ (Ρ g b) ?_;refine W.loop ?_;refine W.forget [(0,.z (ptr m 0)),(4,.z (.int .i32 (mwd a)))] J (.stop ?_);exact EW e i (φ+1) φ a _ (Q4 _) U n o p (.inr ⟨j,l,w,d,rfl⟩)
 .rw[d] at b;refine WQ (Ρ g b) ?_;refine W.Zt ?_;refine XW [0,1,2] [3] ?_;refine W.stop ?_;refine V.Fg (f _ _ _).here (sp:=sp) e.spec (by rw[Zx];exact id) e.Z0 (vs:=[ptr m 1,.bool true,.int .i64 2]) rfl ⟨⟨rfl,rfl,by simp[Frame.enter],rfl⟩,E7,⟨_,rfl⟩,rfl,rfl,rfl⟩ (λL r A=>?_);have B:=A.VX.TQ;refine⟨by have:=B.YM;omega,{r with YM:=r.YM+1},.ch k .done .work,rfl,rfl,⟨rfl,rfl,rfl⟩,by rw[Zx];exact .post,λM N=>?_⟩;rw[W6];refine V.Zy (f _ _ _) ?_;refine W.ZM (.stop ?_);refine V.J' (f _ _ _) rfl rfl rfl rfl func215 rfl λC D E F I=>?_;obtain rfl:D=[]:=YV.1 I.len;rintro y rfl;exact i _ C E F.ext
end
noncomputable def Mp:Code:=f176.body.getD .skip
theorem yc:(prog.funcs[176]?).any (·.norace)=true:=by kernel_rfl
section
variable {Q:Value->Prop} {mn:Bool} {x:γ} {c:Frame} {rest:List Frame} {S:Α} {B:θ} {σ:Υ} {H:Ψ} {s m k:Nat} {sp:Spec} {v:Option (Nat×ν)} {t:Tok}
abbrev EV (Q:Value->Prop) (mn:Bool) (x:γ) (c:Frame) (rest:List Frame) (H:Ψ) (s m:Nat) (t:Tok) (v:Option (Nat×ν)) (d:Nat) (K:List Item) (env:Ι):Prop:=
 V prog Q mn (one (ZR x s t v d)) (Frame.enter prog 176 #[ptr m 0] .normal) (c::rest) 21 ⟨X0,[],H,[],0⟩ K env []
theorem EU {c:Α} {H H':Ψ} (h:Ext X0 [] H c [] H'):Ext X0 [] H X0 [] H':=
 ⟨λb o v h=>(by cases h),λb a d=>h.XH b a d,λb a=>h.blocks b a,λb o v h=>(by cases h),h.grow⟩
theorem ET (b:VW x s m sp) (d:Mq Q mn x c rest H s k 0) {env:Ι}:EV Q mn x c rest H s m (.ch k .done .work) v 1 [.code (YC [1,1,1] Mp)] env:=by
 letI:ZS:=Yo;have a:=b.seq;refine V.Zy (a _ _ _) ?_;unfold Mp;refine W.Zt (.stop ?_);refine V.enable (a _ _ _).here (Vn _) ⟨⟨rfl,rfl,by simp[Frame.enter],rfl⟩,PQ,⟨_,rfl⟩,rfl,rfl,rfl⟩ ?_;rw[Mx];refine V.Zy (a _ _ _) ?_;refine W.ZM (.stop ?_);refine V.J' (a _ _ _) rfl rfl rfl rfl func176 rfl λe f g h i=>?_;obtain rfl:f=[]:=YV.1 i.len;rintro y rfl;exact d _ e g h.ext
theorem yb (d:VW x s m sp) (Y:Holds S B σ H) {L:List Nat}
  (Z:∀(F:Α) (H':Ψ),Ext S [] H F [] H'->Holds F [] [] H'->∃g E,Split H' g E/\sp.Yi (L++[k]) E/\Mq Q mn x c rest g s k 0) :
  Zq prog Q mn (ZR x s (.ch k (.YT L) .work) v 0) (Frame.enter prog 176 #[ptr m 0] .normal) (c::rest) H:=by
 letI:ZS:=Yo;have e:=d.seq;refine V.R7 (z:=one _) (vs:=[ptr m 0]) func176 rfl Y (by simp[ntmps176]) ?_ _ rfl;refine V.Zy (e _ _ _) ?_;refine Y' ?_;refine υ rfl ?_;refine Y' ?_;refine W.Zt ?_;refine XW [0,1,2] [3] ?_;refine W.stop ?_;refine V.NT (e _ _ _).here (sp:=sp) d.spec (by rw[Zx];exact id) ⟨rfl,rfl,by simp[Frame.enter],rfl⟩ rfl rfl rfl NS rfl yc mwd (λI w n o=>o.R9 (by rw[n];exact d.Z0)) (λaD aE aF=>.inl ?_);unfold Wx;rw[Vt];refine V.Zy (e _ _ _) ?_;refine W.ZM ?_;refine Y' ?_;refine W.forget [(0,.z (ptr m 0))] J ?_;refine W.Zt ?_;refine XW [0] [1,2] ?_;refine W.stop ?_;refine V.conv (e _ _ _).here (sp:=sp) d.spec (by rw[Zx];exact id) ⟨rfl,rfl,by simp[Frame.enter],rfl⟩ rfl rfl rfl Il PO Ik rfl (λI w n o=>⟨_,o.R9 (by rw[n];exact d.Z0)⟩) (λφ I aG=>?_);unfold Wx;rw[Vt];refine V.Jn d.rel rfl (sp:=sp) (L:=L) d.spec d.Z0 Zx ⟨⟨rfl,rfl,by simp[Frame.enter],rfl⟩,Fe,⟨_,rfl⟩,rfl,rfl,rfl⟩ λaa ab g t1 ad p=>?_;obtain rfl:ab=[]:=YV.1 p.holds.len;obtain⟨r,E,ae,af,K⟩:=Z aa g ad.ext p.holds;refine⟨r,E,ae,af,?_⟩;rw[W6];refine V.here (x:=one _) (S:=X0) (B:=[]) (σ:=[]) (m:=0) (nt:=21) ?_ (p.none J) _ rfl;refine V.Zy (e _ _ _) ?_;refine W.ZM ?_;refine Y' ?_;refine W.Zt (.stop ?_);refine V.disable (e _ _ _).here ⟨⟨rfl,rfl,by simp[Frame.enter],rfl⟩,Mv,⟨_,rfl⟩,rfl,rfl,rfl⟩ ?_;rw[My];refine V.Zy (e _ _ _) ?_;refine W.ZM ?_;refine Y' ?_;refine W.Zt ?_;refine XW [0,1,2] [3,4] ?_;refine W.stop ?_;refine V.Fp (e _ _ _).here (Vn _) (sp:=sp) d.spec (by rw[Zx];exact id) d.Z0 ⟨⟨rfl,rfl,by simp[Frame.enter],rfl⟩,Fb,⟨_,rfl⟩,rfl,rfl,rfl⟩ (λaH b u=>?_);have f:=u.VX.TQ;rw[Zx] at f;have ag:=f.hold rfl;have aI:=Ms d u.spec;have f1:=f.wk;have f2:=f.sv;have f3:=f.nw;have M:mwd {b with Zj:=0}=i32.wrap (mwd b+-1):=by simp only[mwd,IntKind.wrap_i32,ag];omega
 have N:∀(t:Tok) (O:Nat),(b.sv=0/\(b.nw=0\/b.wk=1)/\t=.ch k .done .work)\/(b.sv=0/\0<b.nw/\b.wk=0/\t=.ch k .uc .work)\/(b.sv=1/\t=.ch k .us .work)->
   EV Q mn x c rest r s m t (some (O,{b with Zj:=0})) 1 [.code (YC [1,1,0] Mp),.code (YC [1,1,1] Mp)] [(0,.z (ptr m 0)),(2,.z (.int .i32 (mwd {b with Zj:=0})))]:=λt O P=>by
  refine V.Zy (e _ _ _) ?_;unfold Mp;refine Y' ?_;by_cases i:mwd {b with Zj:=0}=0
  .refine WQ i ?_;have ah:t=.ch k .done .work:=by
    simp only[mwd] at i;rcases P with⟨_,_,h⟩|⟨_,h,_⟩|⟨h,_⟩
    .exact h
    .omega
    .omega
   subst ah;exact .stop (ET d K)
  .have ai:(mwd {b with Zj:=0} != 0)=true:=by simpa using i
   refine WQ (Ρ i ai) ?_;refine W.Zt ?_;refine XW [0,1] [2] ?_;refine W.stop ?_;refine V.call (e _ _ _) ⟨rfl,rfl,by simp[Frame.enter],rfl⟩ rfl rfl rfl ⟨_,func215,rfl,rfl⟩ λaJ aj aK t4 aL ak R al=>?_;obtain rfl:=Ug (l:=[ptr m 0,.int .i32 (mwd {b with Zj:=0})]) al;obtain rfl:aj=[]:=YV.1 R.holds.len;rintro y rfl;refine yd d (λaM aN am an=>?_) (by exact u.spec) rfl f1 f2 (by show b.nw<7;omega) P;rw[Wr rfl];have ao:Ext X0 [] r X0 [] am:=(EU ak.ext).trans (EU an);refine V.here (x:=one _) (S:=X0) (B:=[]) (σ:=[]) (m:=0) (nt:=21) ?_ ((R.put (a:=Tc) rfl (.z _)).none J) _ rfl;refine V.Zy (e _ _ _) ?_;refine W.ZM (.stop ?_);exact ET d λap aq ar au=>K ap aq ar (ao.trans au)
 by_cases T:b.sv=1
 .refine⟨{b with Zj:=0},.ch k .us .work,M,rfl,⟨rfl,rfl,rfl⟩,by rw[Zx];exact .C9 T,λC _=>?_⟩;rw[W6];refine V.Zy (e _ _ _) ?_;refine W.part (A:=[]) Τ [4] [] rfl λav D=>?_;(try simp);(repeat (rw[Μ];simp));(try simp);apply D;refine W.ZM ?_
  first|apply Xh|apply Xg|apply WY|apply wd
  refine W.forget [(0,.z (ptr m 0)),(2,.z (.int .i32 (mwd {b with Zj:=0})))] J (.stop ?_);exact N _ C (.inr (.inr ⟨T,rfl⟩))
 .have j:b.sv=0:=U
  have step:∀(t:Tok),(b.sv=0/\(b.nw=0\/b.wk=1)/\t=.ch k .done .work)\/(b.sv=0/\0<b.nw/\b.wk=0/\t=.ch k .uc .work)->Act b (.ch k .fin .work) {b with Zj:=0} t->∃o' t',mwd o'=i32.wrap (mwd b+-1)/\o'.YM=b.YM/\NU b o'/\Act b (.ch k .fin .work) o' t'/\((b.sv=0/\(b.nw=0\/b.wk=1)/\t'=.ch k .done .work)\/(b.sv=0/\0<b.nw/\b.wk=0/\t'=.ch k .uc .work))/\o'={b with Zj:=0}:=λt aw ax=>⟨_,t,M,rfl,⟨rfl,rfl,rfl⟩,ax,aw,rfl⟩;obtain⟨o',t',ay,az,aA,aB,aC,rfl⟩:∃o' t',mwd o'=i32.wrap (mwd b+-1)/\o'.YM=b.YM/\NU b o'/\Act b (.ch k .fin .work) o' t'/\((b.sv=0/\(b.nw=0\/b.wk=1)/\t'=.ch k .done .work)\/(b.sv=0/\0<b.nw/\b.wk=0/\t'=.ch k .uc .work))/\o'={b with Zj:=0}:=by
   by_cases X:b.nw=0\/b.wk=1
   .exact step _ (.inl ⟨j,X,rfl⟩) (.Da j X)
   .exact step _ (.inr ⟨j,U,U,rfl⟩) (.C' j U U)
  refine⟨_,t',ay,az,aA,by rw[Zx];exact aB,λC _=>?_⟩;rw[W6];refine V.Zy (e _ _ _) ?_;refine W.part (A:=[]) Τ [4] [] rfl λav D=>?_;(try simp);(repeat (rw[Μ];simp));(try simp);apply D;refine W.ZM ?_
  first|apply Xh|apply Xg|apply WY|apply wd
  refine W.forget [(0,.z (ptr m 0)),(2,.z (.int .i32 (mwd {b with Zj:=0})))] J (.stop ?_);exact N _ C (aC.imp id λh=>.inl h)
theorem Zq.leaveD [ZS] {P:Program} {Q:Value->Prop} {mn:Bool} {x:γ} {c b:Frame} {rest:List Frame} {H:Ψ} {t:Array Value} {ops:Array Oper} {fn:Func} (a:Seq (one x)) (d:b.mode=.run) (e:b.roundOf=none) (f:b.defers=[]) (g:b.kind=.deferred) (i:P.funcs[b.fn]?=some fn) (j:fn.results=#[])
  (k:c.mode=.returning) (h:Zq P Q mn x c rest H):Zq P Q mn x (Η b t [.inRegion ops []]) (c::rest) H:=by
 refine ξ.ZM (x:=one x) a d (.QX a d e (.Ji a rfl f g i ?_)) x rfl;rw[results_none j];refine Ω.pure' ?_;simp only[k];intro y l;cases l;exact h
theorem ya (h:VW x s m sp) (p:Holds S B σ H) (r:c.mode=.returning) {L:List Nat}
  (t:∀(j:Α) (H':Ψ),Ext S [] H j [] H'->Holds j [] [] H'->∃d E,Split H' d E/\sp.Yi (L++[k]) E/\∀(v:Option (Nat×ν)) (e:Α) (b:Ψ),Ext X0 [] d e [] b->Zq prog Q mn (ZR x s (.ch k .done .work) v 0) c rest b) :
  Zq prog Q mn (ZR x s (.ch k (.YT L) .work) v 0) (Frame.enter prog 145 #[ptr m 0] .deferred) (c::rest) H:=by
 letI:ZS:=Yo;have f:=h.seq;rw[Sc (body:=f145.body.getD .skip) func145 rfl];refine V.here (x:=one _) (m:=0) (nt:=6) (env:=entry 0 [.z (ptr m 0)]) ?_ (XN.enter p.bare ⟨rfl,λi a v g n=>?_⟩ (ZO _) J) _ rfl
 .refine V.XK (f _ _ _) rfl ?_;simp only[f145,Option.getD_some];refine Y' ?_;refine W.Zt ?_;refine XW [0,1,2] [3] ?_;refine W.stop ?_;refine V.call (f _ _ _) ⟨rfl,rfl,by simp[Frame.enter],rfl⟩ rfl rfl rfl ⟨_,func176,rfl,rfl⟩ λR u d t1 T w o hv=>?_;obtain rfl:=Ug (l:=[ptr m 0]) hv;obtain rfl:u=[]:=YV.1 o.holds.len;rintro y rfl;refine yb h o.holds (L:=L) λe b A C=>?_;obtain⟨D,E,F,I,K⟩:=t e b (w.ext.trans A) C;refine⟨D,E,F,I,λM N O P=>?_⟩;rw[Wr rfl];refine Zq.leaveD (f _ _ _) rfl rfl rfl rfl func145 rfl r ?_;exact K M N O P
 .cases i with
  | zero=>simp at g n;subst g;subst n;exact .z _
  | succ i=>simp at g
end
structure UE (x:γ) (s:Nat) (sp:Spec):Prop where
 rel:x.rel=false
 η:x.η=λ_=>none
 spec:x.spec s=some sp
 top:sp.top<7
 still:∀a,a≠s->TS (x.tok a)
theorem UE.seq {x:γ} {s:Nat} {sp:Spec} (h:UE x s sp):∀t v d,@Seq Yo (one (ZR x s t v d)):=λt v d=>@Seq.PS Yo _ trivial h.rel h.η
abbrev Wz (c w:Nat):Int:=(c:Int)*4294967296+w
theorem J3:∀c<8,∀w<2,X9 .u64 (Wz c w) 2147483648=0:=by decide +kernel
theorem J2:∀c<8,∀w<2,i32.wrap ((Wz c w).fdiv (2 ^ min 32 u64.bits))=c:=by decide +kernel
theorem J1:∀c<8,∀w<2,u32.wrap (X9 .u64 (Wz c w) 2147483647)=w:=by decide +kernel
theorem x':∀c<7,∀w<2,u64.wrap (Wz c w+4294967296)=Wz (c+1) w:=by decide +kernel
theorem x9:∀c<8,∀w<2,0<c->u64.wrap (Wz c w+18446744069414584320)=Wz (c-1) w:=by decide +kernel
theorem x8:∀c<8,u64.wrap (Wz c 0+1)=Wz c 1:=by decide +kernel
theorem ES:u64.wrap 1=1:=Z2
theorem ER:u64.wrap (2 ^ min 32 u64.bits)=4294967296:=Z2
theorem Ic:i32.wrap 1=1:=Z2
theorem PN (a:ν):Zc a=Wz a.cnt a.wt:=rfl
section
variable {Q:Value->Prop} {mn:Bool} {x:γ} {c:Frame} {rest:List Frame} {S:Α} {B:θ} {σ:Υ} {H:Ψ} {s k:Nat} {sp:Spec} {v:Option (Nat×ν)} {t:Tok}
theorem J0 (b:UE x s sp) {a:ν} (h:a.toSpec=sp):a.top<7:=by have:=b.top;rw[show a.top=sp.top by rw[<-h]];exact this
def NQ (Q:Value->Prop) (mn:Bool) (x:γ) (c:Frame) (rest:List Frame) (S:Α) (H:Ψ) (r:Value):Prop:=
 ∀(a:Α) (H':Ψ),Ext S [] H a [] H'->Holds a [] [] H'->Zq prog Q mn x (c.finish r) rest H'
theorem x7 (f:UE x s sp) (h:¬Xy t) {d:Int} (i:Holds S B σ H)
  (j:∀φ a,Seen (ZR x s t v 1) s sp φ a->∃o' t',Zc o'=u64.wrap (Zc a+d)/\o'.Y5=a.Y5/\Rm a o'/\Act a t o' t'/\∀b,b<φ->NQ Q mn (ZR x s t' (some (b,o')) 1) c rest S H (.int .u64 (Zc o'))) :
  Zq prog Q mn (ZR x s t v 1) (Frame.enter prog 166 #[ptr s 0,.int .u64 d] .normal) (c::rest) H:=by
 letI:ZS:=Yo;have e:=f.seq;refine V.R7 (z:=one _) (vs:=[ptr s 0,.int .u64 d]) func166 rfl i (by simp[ntmps166]) ?_ _ rfl;refine V.Zy (e _ _ _) ?_;refine WR ?_;refine W.Zt ?_;refine XW [0,1,2,3] [4,5] ?_;refine W.stop ?_;refine V.Iv (e _ _ _).here (Vn _) (sp:=sp) f.spec (by rw[Zx];exact h) ⟨⟨rfl,rfl,by simp[Frame.enter],rfl⟩,Fa,⟨_,rfl⟩,rfl,rfl,rfl⟩ (λφ a k=>?_);obtain⟨o',t',l,m,n,o,p⟩:=j φ a k;refine⟨o',t',l,m,n,by rw[Zx];exact o,λb r=>?_⟩;rw[W6];refine V.Zy (e _ _ _) ?_;refine W.part (A:=[]) Τ [5] [] rfl λF u=>?_;(try simp);(repeat (rw[Μ];simp));(try simp);apply u;refine W.ZM (.stop ?_);refine V.Qz (e _ _ _) rfl rfl rfl rfl func166 rfl rfl λw C D E g=>?_;obtain rfl:C=[]:=YV.1 g.len;rintro y rfl;exact p b r w D E.ext g
theorem Ib (l:UE x s sp) (m:¬Xy t) (n:Holds S B σ H)
  (o:∀φ a,Seen (ZR x s t v 1) s sp φ a->NQ Q mn (ZR x s t (some (φ,a)) 1) c rest S H (.int .u64 (Zc a))\/∃t',Act a t a t'/\∀e,e<φ->NQ Q mn (ZR x s t' (some (e,a)) 1) c rest S H (.int .u64 (Zc a))) :
  Zq prog Q mn (ZR x s t v 1) (Frame.enter prog 168 #[ptr s 0] .normal) (c::rest) H:=by
 letI:ZS:=Yo;have b:=l.seq;refine V.R7 (z:=one _) (vs:=[ptr s 0]) func168 rfl n (by simp[ntmps168]) ?_ _ rfl;refine V.Zy (b _ _ _) ?_;refine WR ?_;refine W.Zt ?_;refine XW [0,1,2] [3,4] ?_;refine W.stop ?_;refine V.Iw (b _ _ _).here (Vn _) (sp:=sp) l.spec (by rw[Zx];exact m) ⟨⟨rfl,rfl,by simp[Frame.enter],rfl⟩,E9,⟨_,rfl⟩,rfl,rfl,rfl⟩ (λφ a p=>(o φ a p).imp (λh=>?_) (λ⟨t',r,u⟩=>⟨t',by rw[Zx];exact r,λe w=>?_⟩))
 .unfold Wx;rw[Vt];refine V.Zy (b _ _ _) ?_;refine W.part (A:=[]) Τ [4] [] rfl λC f=>?_;(try simp);(repeat (rw[Μ];simp));(try simp);apply f;refine W.ZM (.stop ?_);refine V.Qz (b _ _ _) rfl rfl rfl rfl func168 rfl rfl λg i j k d=>?_;obtain rfl:i=[]:=YV.1 d.len;rintro y rfl;exact h g j k.ext d
 .rw[W6];refine V.Zy (b _ _ _) ?_;refine W.part (A:=[]) Τ [4] [] rfl λC f=>?_;(try simp);(repeat (rw[Μ];simp));(try simp);apply f;refine W.ZM (.stop ?_);refine V.Qz (b _ _ _) rfl rfl rfl rfl func168 rfl rfl λg i j k d=>?_;obtain rfl:i=[]:=YV.1 d.len;rintro y rfl;exact u e w g j k.ext d
theorem x6 (o:UE x s sp) (p:¬Xy t) (r:Holds S B σ H) {e g:Int}
  (u:∀φ a,Seen (ZR x s t v 1) s sp φ a->¬Zc a=e->NQ Q mn (ZR x s t (some (φ,a)) 1) c rest S H (.bool false))
  (w:∀φ a,Seen (ZR x s t v 1) s sp φ a->Zc a=e->∃o' t',Zc o'=g/\o'.Y5=a.Y5/\Rm a o'/\Act a t o' t'/\∀f,f<φ->NQ Q mn (ZR x s t' (some (f,o')) 1) c rest S H (.bool true)) :
  Zq prog Q mn (ZR x s t v 1) (Frame.enter prog 179 #[ptr s 0,.int .u64 e,.int .u64 g] .normal) (c::rest) H:=by
 letI:ZS:=Yo;have b:=o.seq;refine V.R7 (z:=one _) (vs:=[ptr s 0,.int .u64 e,.int .u64 g]) func179 rfl r (by simp[ntmps179]) ?_ _ rfl;refine V.Zy (b _ _ _) ?_;refine WR ?_;refine W.Zt ?_;refine XW [0,1,2,3,4] [5,6] ?_;refine W.stop ?_;refine V.y2 (b _ _ _).here (Vn _) (sp:=sp) o.spec (by rw[Zx];exact p) ⟨⟨rfl,rfl,by simp[Frame.enter],rfl⟩,yx,⟨_,rfl⟩,rfl,rfl,rfl⟩ (λφ a i hv=>?_) (λφ a i hv=>?_)
 .have h:=u φ a i hv;unfold Wx;rw[Vt];refine V.Zy (b _ _ _) ?_;refine W.part (A:=[]) Τ [6] [] rfl λC j=>?_;(try simp);(repeat (rw[Μ];simp));(try simp);apply j;refine W.ZM (.stop ?_);refine V.Qz (b _ _ _) rfl rfl rfl rfl func179 rfl rfl λk l m n d=>?_;obtain rfl:l=[]:=YV.1 d.len;rintro y rfl;exact h k m n.ext d
 .obtain⟨o',t',D,E,F,I,J⟩:=w φ a i hv;refine⟨o',t',D,E,F,by rw[Zx];exact I,λf K=>?_⟩;rw[W6];refine V.Zy (b _ _ _) ?_;refine W.part (A:=[]) Τ [6] [] rfl λC j=>?_;(try simp);(repeat (rw[Μ];simp));(try simp);apply j;refine W.ZM (.stop ?_);refine V.Qz (b _ _ _) rfl rfl rfl rfl func179 rfl rfl λk l m n d=>?_;obtain rfl:l=[]:=YV.1 d.len;rintro y rfl;exact J f K k m n.ext d
end
theorem XN.PM {m nt:Nat} {S a:Α} {B:θ} {H H':Ψ} {env:Ι} {t:Array Value} (h:XN m nt S B H [] env t) (b:∀p∈env,∃v,p.2=I.z v) (c:Holds a [] [] H'):XN 0 nt a [] H' [] env t:=⟨c,Mr b h.Zr,h.size,ZO _⟩
theorem Zq.Ia [ZS] {P:Program} {d:Value->Prop} {mn:Bool} {x:γ} {c b:Frame} {rest:List Frame} {H:Ψ} {t:Array Value} {k:List Item} {fn:Func} {f:FuncId} (e:Seq (one x)) (j:Seq (one {x with deaf:=x.deaf-1})) (hd:0<x.deaf) (g:b.mode=.run) (i:b.roundOf=none) (l:b.defers=[Go.Conc.dcall f #[]]) (m:b.kind=.normal) (n:P.funcs[b.fn]?=some fn) (o:fn.results=#[])
  (p:Entry P f (λ_=>do mark .enable;pure Extern.Race.none_)) (h:Zq P d mn {x with deaf:=x.deaf-1} (c.finish (.tuple #[])) rest H):Zq P d mn x (Η b t (.code .ret::k)) (c::rest) H:=by
 refine ξ.ret (x:=one x) e g i (λy a=>?_) x rfl;cases a;refine Zq.yW e.here hd g i l p ?_;refine ξ.back (f:={Η {b with defers:=[]} t (.code .ret::k) with mode:=.returning}) (x:=one {x with deaf:=x.deaf-1}) j rfl rfl (.inl m) n ?_ _ rfl;rw[results_none o];refine Ω.pure' (λy a=>?_);cases a;exact h
section
variable {Q:Value->Prop} {mn:Bool} {x:γ} {c:Frame} {rest:List Frame} {S:Α} {B:θ} {σ:Υ} {H:Ψ} {s n p:Nat} {sp:Spec} {v:Option (Nat×ν)} {t:Tok}
theorem x5 (g:UE x s sp) (L:n<sp.top) (M:Holds S B σ H)
  (N:∀v,NQ Q mn (ZR x s (.par (n+1) (p+1) .add) v 0) c rest S H (.tuple #[])) :
  Zq prog Q mn (ZR x s (.par n p .add) v 0) (Frame.enter prog 140 #[ptr s 0,.int .i64 1] .normal) (c::rest) H:=by
 letI:ZS:=Yo;have e:=g.seq;refine V.R7 (z:=one _) (vs:=[ptr s 0,.int .i64 1]) func140 rfl M (by simp[ntmps140]) ?_ _ rfl;refine V.Zy (e _ _ _) ?_;refine WR ?_;refine W.Zt (.stop ?_);refine V.disable (e _ _ _).here ⟨⟨rfl,rfl,by simp[Frame.enter],rfl⟩,Mv,⟨_,rfl⟩,rfl,rfl,rfl⟩ ?_;rw[My];refine V.Zy (e _ _ _) ?_;refine W.ZM ?_;refine Y' ?_;refine W.Zt (.stop ?_);refine V.It (e _ _ _) ⟨rfl,rfl,by simp[Frame.enter],rfl⟩ rfl rfl rfl ?_;refine V.Zy (e _ _ _) ?_;refine W.ZM ?_;refine WR ?_;refine W.Zt (.stop ?_);refine V.J9 (e _ _ _) (vs:=[]) ⟨⟨rfl,rfl,by simp[Frame.enter],rfl⟩,Fc,⟨_,rfl⟩,rfl,rfl,rfl⟩ ?_;refine V.Zy (e _ _ _) ?_;refine W.ZM ?_;refine WR ?_;refine W.Zt ?_;refine W.part (A:=[]) Τ [0,1,2,3,4,5] [6,7] rfl λO k=>?_;(try simp);(repeat (rw[Μ];simp[ES,ER]));(try simp[ES,ER]);apply k;refine W.stop ?_;refine V.call (e _ _ _) ⟨rfl,rfl,by simp[Frame.enter],rfl⟩ rfl rfl rfl ⟨_,func166,rfl,rfl⟩ λam P an t1 ao R o hv=>?_;obtain rfl:=Ug (l:=[ptr s 0,.int .u64 4294967296]) hv;obtain rfl:P=[]:=YV.1 o.holds.len;rintro y rfl;refine x7 g id o.holds λφ f j=>?_;have u:=j.VX.Qw;rw[Zx] at u;obtain⟨C,ap,aq,ar,T⟩:=u.add n p rfl;have X:=J0 g j.spec;have D:n<f.top:=by rw[show f.top=sp.top by rw[<-j.spec]];exact L
 have Y:∀a b c d:Nat,a=b+1->b<=c->c<d->d<7->a<8/\b<7/\0<a/\¬a=0:=λa b c d i au av aw=>U;obtain⟨cc,r⟩:=Z8 (f.cnt+1);obtain⟨t,Z,aa,ax⟩:=Y cc f.cnt n f.top r T D X;have E:Zc {f with cnt:=cc}=Wz cc 0:=by rw[PN];simp only[C]
 refine⟨{f with cnt:=cc},.par (n+1) (p+1) .add,?_,rfl,⟨rfl,rfl,rfl⟩,by rw[r];exact .add D,λay az ab ad ae af=>?_⟩
 .rw[E,PN,C,x' f.cnt Z 0 Z2,r]
 have f1:=J3 cc t 0 Z2
 have f2:=J2 cc t 0 Z2
 have f3:=J1 cc t 0 Z2;rw[E];generalize Wz cc 0=w at f1 f2 f3;rw[Wr rfl];refine V.here (x:=one _) (m:=0) (nt:=117) ?_ ((o.put (a:=.z (.int .u64 w)) rfl (.z _)).PM J af) _ rfl;have F:∀(v:Option (Nat×ν)) (env:Ι) (K:List Item),V prog Q mn (one (ZR x s (.par (n+1) (p+1) .add) v 1)) {Frame.enter prog 140 #[ptr s 0,.int .i64 1] .normal with defers:=[Go.Conc.dcall 161 #[]]} (c::rest) 117 ⟨ab,[],ad,[],0⟩ (.code .ret::K) env []:=λv env K ag ah ai t3 aj I=>by
  rintro y rfl;obtain rfl:ah=[]:=YV.1 I.holds.len;exact Zq.Ia (e _ _ _) (e _ _ 0) (Vn _) rfl rfl rfl rfl func140 rfl PQ (N v ag ai ((R.ext.trans ae).trans aj.ext) I.holds)
 refine V.Zy (e _ _ _) ?_;refine W.part (A:=[]) Τ [7] [] rfl λO k=>?_;(try simp);(repeat (rw[Μ];simp));(try simp);apply k;refine W.ZM ?_;by_cases i:cc=1
 .refine WQ (Ρ f1 (Ρ f2 (Ρ f3 (Ρ @Ic i)))) ?_;refine W.Zt ?_;refine XW [0,1,2] [3,4] ?_;refine W.stop ?_;refine V.conv (e _ _ _).here (sp:=sp) g.spec (by rw[Zx];exact id) ⟨rfl,rfl,by simp[Frame.enter],rfl⟩ rfl rfl rfl E6 PO E5 rfl (λf w aA ak=>⟨_,ak.Ke⟩) (λφ f j=>?_);unfold Wx;rw[Vt];refine V.y4 g.rel Zx J ⟨⟨rfl,rfl,by simp[Frame.enter],rfl⟩,yz,⟨_,rfl⟩,rfl,rfl,rfl⟩ ?_;refine V.Zy (e _ _ _) ?_;refine W.ZM ?_;refine WQ (Ρ f1 (Ρ f2 (Ρ f3 (Ρ @Ic i)))) ?_;exact .stop (F _ _ _)
 .have al:¬(cc:Int)=1:=λh=>i (by exact_mod_cast h);refine WQ (Ρ f1 (Ρ f2 (Ρ f3 (Ρ @Ic (Ρ i (Ρ al aa)))))) ?_;exact .stop (F _ _ _)
end
noncomputable def Mo:Code:=f146.body.getD .skip
noncomputable def TF:Code:=YC [1,0,0] Mo
noncomputable def OS:List Item:=[.inLoop TF,.inBlock 0]
theorem EP:X9 .u64 0 2147483648=0:=Z2
theorem EO:X9 .u64 0 2147483647=0:=Z2
theorem JZ:u32.wrap 0=0:=Z2
theorem EN:i32.wrap 0=0:=Z2
section
variable {Q:Value->Prop} {mn:Bool} {x:γ} {c:Frame} {rest:List Frame} {S:Α} {B:θ} {σ:Υ} {H:Ψ} {s n p:Nat} {sp:Spec} {v:Option (Nat×ν)} {t:Tok}
abbrev PL (Q:Value->Prop) (mn:Bool) (x:γ) (c:Frame) (rest:List Frame) (S:Α) (H:Ψ) (s:Nat) (t:Tok) (v:Option (Nat×ν)) (d:Nat) (K:List Item) (env:Ι):Prop:=
 V prog Q mn (one (ZR x s t v d)) (Frame.enter prog 146 #[ptr s 0] .normal) (c::rest) 84 ⟨S,[],H,[],0⟩ K env []
def Rk (Q:Value->Prop) (mn:Bool) (x:γ) (c:Frame) (rest:List Frame) (S:Α) (H:Ψ) (s n:Nat) (sp:Spec):Prop:=
 ∀(d:Α) (H':Ψ) (e f:List Nat) (b a:Ψ),Ext S [] H d [] H'->Holds d [] [] H'->e.Perm (List.range n)->UR sp.D e b->(sp.Z0≠none->f.Perm (List.range n)/\sp.Yi f a)->(sp.Z0=none->a=Ψ.empty)->Apart H' b->Apart H' a->Apart b a->(∃w,Fits H' w/\Fits b w/\Fits a w)->
  ∀(v:Option (Nat×ν)) (h:Α) (g:Ψ),Ext X0 [] (join (join H' b) a) h [] g->Zq prog Q mn (ZR x s (.par n 0 .Z4) v 0) (c.finish (.tuple #[])) rest g
theorem Rk.later {a:Α} {b:Ψ} (h:Rk Q mn x c rest S H s n sp) (d:Ext S [] H a [] b):Rk Q mn x c rest a b s n sp:=
 λe H' f g i j k l m o p r t u w y v A B C=>h e H' f g i j (d.trans k) l m o p r t u w y v A B C
theorem EM (b:UE x s sp) (d:∀(v:Option (Nat×ν)) (e:Α) (a:Ψ),Ext X0 [] H e [] a->Zq prog Q mn (ZR x s (.par n 0 .Z4) v 0) (c.finish (.tuple #[])) rest a) {K:List Item} {env:Ι}:PL Q mn x c rest X0 H s (.par n 0 .Z4) v 0 (.code .ret::K) env:=by
 letI:ZS:=Yo;have f:=b.seq;refine V.Iu (f _ _ _) rfl rfl rfl rfl func146 rfl λg h i j k=>?_;obtain rfl:h=[]:=YV.1 k.len;rintro y rfl;exact d v g i j.ext
theorem EL (a:UE x s sp) (e:Rk Q mn x c rest S H s n sp):PL Q mn x c rest S H s (.par n 0 .Ty) v 1 (.code (YC [0,1] TF)::.inBlock 1::OS) [(0,.z (ptr s 0)),(2,.z (.int .u64 0))]:=by
 letI:ZS:=Yo;have b:=a.seq;refine V.Zy (b _ _ _) ?_;unfold TF Mo;refine WQ (Ρ @EP (Ρ @EO (Ρ @JZ @EN))) ?_;refine W.Zt (.stop ?_);refine V.enable (b _ _ _).here (Vn _) ⟨⟨rfl,rfl,by simp[Frame.enter],rfl⟩,PQ,⟨_,rfl⟩,rfl,rfl,rfl⟩ ?_;rw[Mx];refine V.Zy (b _ _ _) ?_;refine W.ZM ?_;refine W.Zt ?_;refine XW [0] [1,2] ?_;refine W.stop ?_;refine V.conv (b _ _ _).here (sp:=sp) a.spec (by rw[Zx];exact id) ⟨rfl,rfl,by simp[Frame.enter],rfl⟩ rfl rfl rfl Ij PO Ii rfl (λf w K g=>⟨_,g.TR⟩) (λφ f L=>?_);unfold Wx;rw[Vt];refine V.LA a.rel rfl (sp:=sp) a.spec Zx (.inl rfl) ⟨⟨rfl,rfl,by simp[Frame.enter],rfl⟩,J6,⟨_,rfl⟩,rfl,rfl,rfl⟩ λh i j t1 k l o p r d t u y A C D E F=>?_;rw[W6];obtain rfl:i=[]:=YV.1 d.holds.len;have I:=e h j k l o p r.ext d.holds t u y A C D E F;refine V.here (x:=one _) (S:=X0) (B:=[]) (σ:=[]) (m:=0) (nt:=84) ?_ (d.none J) _ rfl;refine V.Zy (b _ _ _) ?_;refine W.ZM ?_;refine WQ (Ρ @EP (Ρ @EO (Ρ @JZ @EN))) ?_;exact .stop (EM a I)
theorem x4 (e:UE x s sp) (p:Rk Q mn x c rest S H s n sp):PL Q mn x c rest S H s (.par n 0 .w4) v 1 (.code (YC [0,1,1,1,1,1,0,1,1,1,1] TF)::.inBlock 1::OS) [(0,.z (ptr s 0))]:=by
 letI:ZS:=Yo;have b:=e.seq;refine V.Zy (b _ _ _) ?_;unfold TF Mo;refine Y' ?_;refine W.Zt ?_;refine XW [0,1,2] [3,4,5] ?_;refine W.stop ?_;refine V.call (b _ _ _) ⟨rfl,rfl,by simp[Frame.enter],rfl⟩ rfl rfl rfl ⟨_,func168,rfl,rfl⟩ λi f j t1 ab g d hv=>?_;obtain rfl:=Ug (l:=[ptr s 0]) hv;obtain rfl:f=[]:=YV.1 d.holds.len;rintro y rfl;refine Ib e id d.holds λφ h k=>.inl λad ae r t=>?_;have o:=k.VX.Qw;rw[Zx] at o;obtain⟨u,af,C⟩:=o.fin n 0 (.inr (.inl rfl));have D:Zc h=0:=by simp only[Zc,u,C];rfl
 rw[D,Wr rfl];have E:=p.later (g.ext.trans r);refine V.here (x:=one _) (m:=0) (nt:=84) ?_ ((d.put (a:=.z (.int .u64 0)) rfl (.z _)).PM J t) _ rfl;refine V.Zy (b _ _ _) ?_;refine W.part (A:=[]) Τ [4,5] [] rfl λag F=>?_;(try simp);(repeat (rw[Μ];simp));(try simp);apply F;refine W.ZM ?_;refine WR ?_;refine W.Zt (.stop ?_);refine V.enable (b _ _ _).here (Vn _) ⟨⟨rfl,rfl,by simp[Frame.enter],rfl⟩,PQ,⟨_,rfl⟩,rfl,rfl,rfl⟩ ?_;rw[Mx];refine V.Zy (b _ _ _) ?_;refine W.ZM ?_;refine W.Zt ?_;refine XW [0] [1,2] ?_;refine W.stop ?_;refine V.conv (b _ _ _).here (sp:=sp) e.spec (by rw[Zx];exact id) ⟨rfl,rfl,by simp[Frame.enter],rfl⟩ rfl rfl rfl Ij PO Ii rfl (λh w ah I=>⟨_,I.TR⟩) (λφ h k=>?_);unfold Wx;rw[Vt];refine V.LA e.rel rfl (sp:=sp) e.spec Zx (.inr rfl) ⟨⟨rfl,rfl,by simp[Frame.enter],rfl⟩,J6,⟨_,rfl⟩,rfl,rfl,rfl⟩ λi f j t1 K L M N g d O P R T U X Y Z=>?_;rw[W6];obtain rfl:f=[]:=YV.1 d.holds.len;have aa:=E i j K L M N g.ext d.holds O P R T U X Y Z;refine V.here (x:=one _) (S:=X0) (B:=[]) (σ:=[]) (m:=0) (nt:=84) ?_ (d.none J) _ rfl;refine V.Zy (b _ _ _) ?_;refine W.ZM ?_;refine WR ?_;exact .stop (EM e aa)
theorem x3 {a b d:Nat} (h:a<=b) (c:b<7):a<8/\a<7:=U
theorem x2 {a b:Nat} (h:a<b):¬b=0:=U
theorem x1 (b:UE x s sp) (f:Rk Q mn x c rest S H s n sp) {φ:Nat} {a:ν}:PL Q mn x c rest S H s (.par n 0 .w3) (some (φ,a)) 1 (.code (YC [0,1,1,1,1,1,0,1,1,1,0] TF)::.code (YC [0,1,1,1,1,1,0,1,1,1,1] TF)::.inBlock 1::OS) [(0,.z (ptr s 0)),(5,.z (.bool false))]:=by
 letI:ZS:=Yo;have d:=b.seq;have woken:∀v,PL Q mn x c rest S H s (.par n 0 .w4) v 1 (.code (YC [0,1,1,1,1,1,0,1,1,1,1] TF)::.inBlock 1::OS) [(0,.z (ptr s 0))]:=λv=>x4 b f;refine V.Zy (d _ _ _) ?_;unfold TF Mo;refine W.Zt ?_;refine XW [0,1,2,3] [4] ?_;refine W.stop ?_;refine V.y0 (d _ _ _).here (sp:=sp) b.spec (by rw[Zx];exact id) (vs:=[ptr s 1,.bool false]) rfl (λg e=>by rw[Mw e];exact b.still g e) ⟨⟨rfl,rfl,by simp[Frame.enter],rfl⟩,ys,⟨_,rfl⟩,rfl,rfl,rfl⟩ (λi a j h=>by rw[Zx];exact h) (λi a j h=>?_);refine⟨{a with Y5:=a.Y5-1},.par n 0 .w4,rfl,rfl,⟨rfl,rfl,rfl⟩,by rw[Zx];exact .wake h,λk l=>?_⟩;rw[W6];refine V.Zy (d _ _ _) ?_;refine W.ZM ?_;refine W.forget [(0,.z (ptr s 0))] J (.stop ?_);exact woken _
theorem x0 (f:UE x s sp):∀(N φ:Nat) (b:ν) (S:Α) (H:Ψ),φ<N->b.toSpec=sp->0<b.cnt->b.cnt<=b.top->b.wt=0->Rk Q mn x c rest S H s n sp->
  PL Q mn x c rest S H s (.par n 0 .add) (some (φ,b)) 1 (.code (YC [0,1] TF)::.inBlock 1::OS) [(0,.z (ptr s 0)),(2,.z (.int .u64 (Zc b)))]:=by
 letI:ZS:=Yo;have e:=f.seq;intro N
 induction N with
 | zero=>intro φ b S H h;exact absurd h (Nat.not_lt_zero _)
 | succ N ah=>
  intro φ b S H ai P R aj ak g;have al:=J0 f P;obtain⟨k,aD⟩:=x3 (d:=0) aj al;have f1:=J3 b.cnt k 0 Z2;have f2:=J2 b.cnt k 0 Z2;have f3:=J1 b.cnt k 0 Z2;have f4:=x8 b.cnt k;have T:Zc b=Wz b.cnt 0:=by rw[PN,ak]
  have U:¬b.cnt=0:=x2 R
  have am:¬(b.cnt:Int)=0:=λh=>U (by exact_mod_cast h);rw[<-T] at f1 f2 f3 f4;have sleep:∀(S H) (φ:Nat) (b:ν),Rk Q mn x c rest S H s n sp->PL Q mn x c rest S H s (.par n 0 .w3) (some (φ,b)) 1 (.code (YC [0,1,1,1,1,1,0,1,1,1,0] TF)::.code (YC [0,1,1,1,1,1,0,1,1,1,1] TF)::.inBlock 1::OS) [(0,.z (ptr s 0)),(5,.z (.bool false))]:=λS H φ b g=>x1 f g;have an:∀(S H v),Rk Q mn x c rest S H s n sp->PL Q mn x c rest S H s (.par n 0 .Ty) v 1 (.code (YC [0,1] TF)::.inBlock 1::OS) [(0,.z (ptr s 0)),(2,.z (.int .u64 0))]:=λS H v g=>EL f g;refine V.Zy (e _ _ _) ?_;unfold TF Mo;refine WQ (Ρ f2 (Ρ f3 (Ρ U am))) ?_;refine W.Zt ?_;refine W.part (A:=[]) Τ [0,1,2,3,4,5] [6] rfl λX i=>?_;(try simp);(repeat (rw[Μ];simp[f4]));(try simp[f4]);apply i;refine W.stop ?_;refine V.call (e _ _ _) ⟨rfl,rfl,by simp[Frame.enter],rfl⟩ rfl rfl rfl ⟨_,func179,rfl,rfl⟩ λaE ao aF t1 aG Y o hv=>?_;obtain rfl:=Ug (l:=[ptr s 0,.int .u64 (Zc b),.int .u64 (Wz b.cnt 1)]) hv;obtain rfl:ao=[]:=YV.1 o.holds.len;rintro y rfl;refine x6 f id o.holds (λp r t hv ap aq D E=>?_) (λp r t hv=>?_)
  .have Z:=t.view φ b SC
   have ar:p<N:=by
    rcases OB p φ with h|h
    .exact L3 h (Nat.le_of_lt_succ ai)
    .exact absurd (by rw[Z.2 (Nat.le_antisymm Z.1 h)]) hv
   have u:=g.later (Y.ext.trans D);rw[Wr rfl];refine V.here (x:=one _) (m:=0) (nt:=84) ?_ ((o.put (a:=.z (.bool false)) rfl (.z _)).PM J E) _ rfl;refine V.Zy (e _ _ _) ?_;refine W.ZM ?_;refine χ rfl ?_;refine Y' ?_;refine W.inLoop ?_;refine W.forget [(0,.z (ptr s 0))] J ?_;refine Y' ?_;refine W.Zt ?_;refine XW [0,1,2] [3,4] ?_;refine W.stop ?_;refine V.call (e _ _ _) ⟨rfl,rfl,by simp[Frame.enter],rfl⟩ rfl rfl rfl ⟨_,func168,rfl,rfl⟩ λaH au aI t3 aJ aa B av=>?_;obtain rfl:=Ug (l:=[ptr s 0]) av;obtain rfl:au=[]:=YV.1 B.holds.len;rintro y rfl;refine Ib f id B.holds λab j F=>?_;have I:=F.VX.Qw;rw[Zx] at I;obtain⟨C,aw,ax,ay,az⟩:=I.add n 0 rfl;have aA:=F.view p r SC;by_cases K:j.cnt=0
   .refine .inr ⟨.par n 0 .Ty,.thru K,λaK aL ad ae L M=>?_⟩;have aB:Zc j=0:=by simp only[Zc,C,K];rfl
    rw[aB,Wr rfl];have O:=u.later (aa.ext.trans L);refine V.here (x:=one _) (m:=0) (nt:=84) ?_ ((B.put (a:=.z (.int .u64 0)) rfl (.z _)).PM J M) _ rfl;refine V.Zy (e _ _ _) ?_;refine W.part (A:=[]) Τ [4] [] rfl λX i=>?_;(try simp);(repeat (rw[Μ];simp));(try simp);apply i;refine W.ZM ?_;refine W.forget [(0,.z (ptr s 0)),(2,.z (.int .u64 0))] J (.stop ?_);exact an _ _ _ O
   .refine .inl λad ae L M=>?_;rw[Wr rfl];have O:=u.later (aa.ext.trans L);refine V.here (x:=one _) (m:=0) (nt:=84) ?_ ((B.put (a:=.z (.int .u64 (Zc j))) rfl (.z _)).PM J M) _ rfl;refine V.Zy (e _ _ _) ?_;refine W.part (A:=[]) Τ [4] [] rfl λX i=>?_;(try simp);(repeat (rw[Μ];simp));(try simp);apply i;refine W.ZM ?_;refine W.forget [(0,.z (ptr s 0)),(2,.z (.int .u64 (Zc j)))] J (.stop ?_);exact ah ab j ad ae (Nr aA.1 ar) F.spec (Nat.pos_of_ne_zero K) I.cnt C O
  .have af:=t.VX.Qw;rw[Zx] at af;obtain⟨C,aw,ax,ay,az⟩:=af.add n 0 rfl;have ag:r.cnt=b.cnt:=by rw[T,PN,C] at hv;simp only[Wz] at hv;omega
   refine⟨{r with wt:=1},.par n 0 .w3,?_,rfl,⟨rfl,rfl,rfl⟩,.Hx (by rw[ag];exact R),λab aM ap aq D E=>?_⟩
   .rw[PN];simp only[ag]
   rw[Wr rfl];have u:=g.later (Y.ext.trans D);refine V.here (x:=one _) (m:=0) (nt:=84) ?_ ((o.put (a:=.z (.bool true)) rfl (.z _)).PM J E) _ rfl;refine V.Zy (e _ _ _) ?_;refine W.ZM ?_;refine υ rfl ?_;refine WR ?_;refine W.Zt ?_;refine XW [0,1,2] [3,4] ?_;refine W.stop ?_;refine V.conv (e _ _ _).here (sp:=sp) f.spec (by rw[Zx];exact id) ⟨rfl,rfl,by simp[Frame.enter],rfl⟩ rfl rfl rfl E6 PO E5 rfl (λb w P aC=>⟨_,aC.Ke⟩) (λφ b t=>?_);unfold Wx;rw[Vt];refine V.y3 f.rel Zx J ⟨⟨rfl,rfl,by simp[Frame.enter],rfl⟩,yy,⟨_,rfl⟩,rfl,rfl,rfl⟩ ?_;refine V.Zy (e _ _ _) ?_;refine W.ZM ?_;refine WQ f1 ?_;refine W.forget [(0,.z (ptr s 0)),(5,.z (.bool false))] J (.stop ?_);exact sleep _ _ _ _ u
theorem xZ (e:UE x s sp) (E:Holds S B σ H) (p:Rk Q mn x c rest S H s n sp) :
  Zq prog Q mn (ZR x s (.par n 0 .add) v 0) (Frame.enter prog 146 #[ptr s 0] .normal) (c::rest) H:=by
 letI:ZS:=Yo;have b:=e.seq;refine V.R7 (z:=one _) (vs:=[ptr s 0]) func146 rfl E (by simp[ntmps146]) ?_ _ rfl;refine V.Zy (b _ _ _) ?_;refine WR ?_;refine W.Zt (.stop ?_);refine V.disable (b _ _ _).here ⟨⟨rfl,rfl,by simp[Frame.enter],rfl⟩,Mv,⟨_,rfl⟩,rfl,rfl,rfl⟩ ?_;rw[My];refine V.Zy (b _ _ _) ?_;refine W.ZM ?_;refine Y' ?_;refine W.loop ?_;refine Y' ?_;refine W.Zt ?_;refine XW [0,1,2] [3,4] ?_;refine W.stop ?_;refine V.call (b _ _ _) ⟨rfl,rfl,by simp[Frame.enter],rfl⟩ rfl rfl rfl ⟨_,func168,rfl,rfl⟩ λM F N t3 O r f I=>?_;obtain rfl:=Ug (l:=[ptr s 0]) I;obtain rfl:F=[]:=YV.1 f.holds.len;rintro y rfl;refine Ib e id f.holds λt d u=>?_;have g:=u.VX.Qw;rw[Zx] at g;obtain⟨w,P,R,T,U⟩:=g.add n 0 rfl;by_cases h:d.cnt=0
 .refine .inr ⟨.par n 0 .Ty,.thru h,λX Y C D i j=>?_⟩;have K:Zc d=0:=by simp only[Zc,w,h];rfl
  rw[K,Wr rfl];have k:=p.later (r.ext.trans i);refine V.here (x:=one _) (m:=0) (nt:=84) ?_ ((f.put (a:=.z (.int .u64 0)) rfl (.z _)).PM J j) _ rfl;refine V.Zy (b _ _ _) ?_;refine W.part (A:=[]) Τ [4] [] rfl λL o=>?_;(try simp);(repeat (rw[Μ];simp));(try simp);apply o;refine W.ZM ?_;refine W.forget [(0,.z (ptr s 0)),(2,.z (.int .u64 0))] J (.stop ?_);exact EL e k
 .refine .inl λC D i j=>?_;rw[Wr rfl];have k:=p.later (r.ext.trans i);refine V.here (x:=one _) (m:=0) (nt:=84) ?_ ((f.put (a:=.z (.int .u64 (Zc d))) rfl (.z _)).PM J j) _ rfl;refine V.Zy (b _ _ _) ?_;refine W.part (A:=[]) Τ [4] [] rfl λL o=>?_;(try simp);(repeat (rw[Μ];simp));(try simp);apply o;refine W.ZM ?_;refine W.forget [(0,.z (ptr s 0)),(2,.z (.int .u64 (Zc d)))] J (.stop ?_);exact x0 e (t+1) t d C D (Q4 _) u.spec (Nat.pos_of_ne_zero h) g.cnt w k
end
end Go.TL
namespace Go.TL
open Go.IntKind (i32 i64 u32 u64)
open Go.Proofs.Tryz
open Go.Conc Go.Proofs
open Go.ConcN (sumTo upd sumTo_upd upd_ne upd_same sumTo_congr le_sumTo)
variable [ZS]
def Zs.NP:Zs->I->Prop
 | .ok a,b=>a=b
 | .Zl p r,b=>p/\r.NP b
 | .bad,_=>False
def V8 (P:Program) {b:Type} (s:Sem b) (a:b):Prop:=∀w,s.run P w=.ok a w/\∀es,s.events P w es=es
section
variable {P:Program} {T:Z5} {α β:Type}
theorem V8.pure (a:α):V8 P (Pure.pure a) a:=λw=>⟨J,λes=>J⟩
theorem V8.bind {s:Sem α} {f:α->Sem β} {a:α} {b:β} (h:V8 P s a) (k:V8 P (f a) b):V8 P (s >>= f) b:=λw=>⟨by simp[(h w).1,(k w).1,Result.andThen],λes=>by simp[(h w).1,(h w).2,(k w).2,Result.evThen]⟩
theorem V8.program:V8 P Go.program P:=λw=>⟨J,λes=>J⟩
theorem V8.underlying {t:TypeId} {d:TypeDesc} (h:P.underlying t=some d):V8 P (Go.underlying t) d:=λw=>⟨run_underlying h w,λes=>J⟩
theorem V8.sizeOf {t:TypeId} {i:TypeInfo} (hi:P.info? t=some i):V8 P (Go.sizeOf t) i.size:=by
 unfold Go.sizeOf Go.typeInfo;refine V8.bind (V8.bind .program ?_) (V8.pure _);show V8 P (match P.info? t with|some i=>Pure.pure i|none=>_) i;rw[hi];exact .pure _
theorem xY {d:BinOp} {f:TypeId} {p q:Operand} {x y v:Value} (h:(QT d x y).NP (.z v)):V8 P (do eqGuard d f p q x y;binOp d f x y) v:=by
 unfold QT at h;split at h
 case h_25=>exact h.elim
 case h_1=>
  obtain⟨a,b⟩:=h;cases b;have c:¬(_:Int)<0:=Px.2 a;simp only[eqGuard,binOp,Op.shift,c,if_false];exact .pure _
 case h_2=>
  obtain⟨a,b⟩:=h;cases b;have c:¬(_:Int)<0:=Px.2 a;simp only[eqGuard,binOp,Op.shift,c,if_false];exact .pure _
 case h_6=>
  split at h
  .rename_i e;subst e;obtain⟨a,b⟩:=h;cases b;simp only[eqGuard,binOp,Op.intDiv,a,if_false,ne_eq,not_true_eq_false];exact .pure _
  .exact h.elim
 case h_7=>
  split at h
  .rename_i e;subst e;obtain⟨a,b⟩:=h;cases b;simp only[eqGuard,binOp,Op.intDiv,a,if_false,ne_eq,not_true_eq_false];exact .pure _
  .exact h.elim
 case h_18=>
  obtain⟨a,b⟩:=h;cases b;have c:¬((_:Int) > i64.max):=Px.2 a;simp only[eqGuard,binOp,Op.stringOp,c,if_false];exact .pure _
 all_goals first
  |(cases h;exact .pure _)
  |(split at h
    .rename_i e;subst e;cases h;simp only[eqGuard,binOp,Op.intArith,Op.intBits,Op.intCmp,ne_eq,not_true_eq_false,if_false];exact .pure _
    .exact h.elim)
def NO (T:Z5) (env:Ι) (o:Oper):Zs:=match o.op with
 | .move x=>.ok (π env x)
 | .assign x=>.ok (π env x)
 | .pick c a b=>Ob (π env c) (π env a) (π env b)
 | .binOp e _ x y _=>match π env x,π env y with
  | .z a,.z b=>QT e a b
  | _,_=>.bad
 | .unOp e _ x=>Om e (π env x)
 | .convert s d x=>Od T s d (π env x)
 | .nilCheck x=>match π env x with
  | .z (.pointer (some a))=>.ok (.z (.pointer (some a)))
  | _=>.bad
 | .fieldAddr g x f=>match π env x with
  | .z (.pointer (some ⟨b,o',none⟩))=>match Xq T g f with|some (o,_)=>.ok (.z (.pointer (some ⟨b,o'+o,none⟩)))|none=>.bad
  | _=>.bad
 | _=>.bad
theorem xX (m:ZJ P T) {env:Ι} {o:Oper} {v:Value} (h:(NO T env o).NP (.z v)) {ρ:Operand->Value} (d:∀y u,π env y=.z u->ρ y=u):V8 P (execOp ρ o) (.value v):=by
 have l:∀{s:Sem Value} {u:Value},V8 P s u->V8 P (do Pure.pure (Next.value (<-s))) (.value u):=λA=>.bind A (.pure _);unfold NO at h;unfold execOp;split at h<;>rename_i B<;>first|(rw[B];simp only)|exact h.elim
 .rw[d _ _ h];exact .pure _
 .rw[d _ _ h];exact .pure _
 .rename_i c a b;unfold Ob at h;split at h
  .rename_i p C;rw[d _ _ C];refine V8.bind (a:=p) (V8.pure _) ?_;split at h
   .rename_i y z r D;cases h;rw[d _ _ r,d _ _ D];cases p<;>exact .pure _
   .cases p with
    | true=>rw[d a v h];exact .pure _
    | false=>rw[d b v h];exact .pure _
  .exact h.elim
 .split at h
  .rename_i x y g r;rw[d _ _ g,d _ _ r];exact l (xY h)
  .exact h.elim
 .unfold Om at h;split at h
  .rename_i p t;rw[d _ _ t];split at h
   .cases h;exact l (.pure _)
   .exact h.elim
  .rename_i k n t;rw[d _ _ t];split at h
   .cases h;exact l (.pure _)
   .exact h.elim
  .exact h.elim
 .unfold Od at h;split at h
  .rename_i i j hi E;split at h
   .rename_i k kk n w g;cases h;rw[d _ _ g];refine l ?_;unfold convert;refine .bind (.underlying (m _ _ hi).1.1) (.bind (.underlying (m _ _ E).1.1) ?_);rw[w];exact .pure _
   .exact h.elim
  .exact h.elim
 .split at h
  .rename_i a g;cases h;rw[d _ _ g];exact .pure _
  .exact h.elim
 .split at h
  .rename_i b o' g;rw[d _ _ g];split at h
   .rename_i K L e;cases h;refine l ?_;unfold Xq at e;split at e<;>try cases e
    rename_i i hi;split at e<;>try cases e
    rename_i M w;split at e<;>try cases e
    rename_i x g;split at e<;>try cases e
    rename_i N F;split at e<;>try cases e
    rename_i H;unfold Instr.fieldAt;refine .bind (.underlying (m _ _ hi).1.1) ?_;rw[w];simp only[g];refine .bind (a:=⟨b,o',none⟩) (.pure _) ?_;obtain⟨f,I,J,_⟩:=(m _ _ F).2;refine .bind (a:=⟨b,o'+x.offset,none⟩) ?_ (.pure _);unfold fieldPlace;refine .bind (.sizeOf I) ?_;rw[J,if_neg H,Qb];exact .pure _
   .exact h.elim
  .exact h.elim
end
theorem xW (vs:List Value) {nt:Nat} (d:vs.length<=nt):YS X0 [] [] (entry 0 (vs.map I.z)) (vs.toArray++Array.replicate (nt-vs.length) undef):=by
 have e:X1 X0 [] [] (vs.map I.z) vs.toArray:=⟨J,λi a v b c=>by
  simp only[Yk,List.getElem?_toArray] at b c;rw[c] at b;cases b;exact .z v⟩
 have:=(XN.enter (NR Ψ.empty) (m:=0) (nt:=nt) e (ZO _) (by simpa using d)).Zr;simpa using this
def H9 (P:Program) (mn:Bool) (a:Goroutine->Prop):Prop:=∀g g',Wg g->(∀w,stepG P mn g w=.go g' w #[])->a g'->a g
def Ξ (a:Goroutine->Prop) (b:Frame) (cs:List Frame) (nt:Nat) (k:List Item) (env:Ι):Prop:=∀t:Array Value,t.size=nt->YS X0 [] [] env t->a (Go.Conc.G (Η b t k) cs)
def Uc (T:Z5) (nt:Nat) (ops:Array Oper):List Nat->Ι->(Ι->Prop)->Prop
 | [],env,K=>K env
 | i::is,env,K=>XD ops[i]? λo=>W9 nt o=true/\XD (X7 env ops o) λw=>
   WI w (Uc T nt ops is (ZE o env .Zw) K) (∃v,(NO T env o).NP (.z v)/\Uc T nt ops is (ZE o env (.z v)) K)
theorem OR {T:Z5} {nt:Nat} {ops:Array Oper} {env:Ι} {K:Ι->Prop}:Uc T nt ops [] env K=K env:=XU rfl rfl
def OQ (T:Z5) (nt:Nat) (ops:Array Oper) (is:List Nat) (o:Oper) (env:Ι) (K:Ι->Prop):Zs->Prop
 | .ok (.z v)=>Uc T nt ops is (ZE o env (.z v)) K
 | .Zl p (.ok (.z v))=>p/\Uc T nt ops is (ZE o env (.z v)) K
 | _=>False
theorem xV {T:Z5} {nt:Nat} {ops:Array Oper} {is:List Nat} {o:Oper} {env:Ι} {K:Ι->Prop} {v:Value}:OQ T nt ops is o env K (.ok (.z v))=Uc T nt ops is (ZE o env (.z v)) K:=XU rfl rfl
theorem xU {T:Z5} {nt:Nat} {ops:Array Oper} {is:List Nat} {o:Oper} {env:Ι} {K:Ι->Prop} {v:Value} {p:Prop}:OQ T nt ops is o env K (.Zl p (.ok (.z v)))=(p/\Uc T nt ops is (ZE o env (.z v)) K):=XU rfl rfl
theorem xT {T:Z5} {nt:Nat} {ops:Array Oper} {is:List Nat} {o:Oper} {env:Ι} {K:Ι->Prop} {r r':Zs} (h:r=r'):OQ T nt ops is o env K r=OQ T nt ops is o env K r':=by rw[h]
theorem xS {T:Z5} {nt:Nat} {ops:Array Oper} {is:List Nat} {o:Oper} {env:Ι} {K:Ι->Prop} {r:Zs} (h:OQ T nt ops is o env K r):∃v,r.NP (.z v)/\Uc T nt ops is (ZE o env (.z v)) K:=by
 unfold OQ at h;split at h
 .exact⟨_,rfl,h⟩
 .exact⟨_,⟨h.1,rfl⟩,h.2⟩
 .exact h.elim
theorem W4 {T:Z5} {nt:Nat} {ops:Array Oper} {i:Nat} {is:List Nat} {env:Ι} {K:Ι->Prop} (h:XD ops[i]? λo=>W9 nt o=true/\XD (X7 env ops o) λw=>WI w (Uc T nt ops is (ZE o env .Zw) K) (OQ T nt ops is o env K (NO T env o))):Uc T nt ops (i::is) env K:=by
 unfold Uc;unfold XD at h ⊢;split at h
 .exact h.elim
 rename_i o a;refine⟨h.1,?_⟩
 replace h:=h.2
 split at h
 .exact h.elim
 rename_i w b;exact⟨h.1,λe=>xS (h.2 e)⟩
section
variable {P:Program} {T:Z5} {mn:Bool} {Yw:Goroutine->Prop} {b:Frame} {cs:List Frame} {nt:Nat} {k:List Item} {env:Ι} {ops:Array Oper} {i:Nat} {rest:List Nat} {op:Oper}
variable (Xm:H9 P mn Yw) (hb:b.mode=.run)
include Xm hb
theorem Ξ.to {a:List Item} (c:∀t w,stepG.exec P mn true (Η b t k) cs none w=.go (Go.Conc.G (Η b t a) cs) w #[]) (h:Ξ Yw b cs nt a env):Ξ Yw b cs nt k env:=
 λt d e=>Xm _ _ ⟨rfl,rfl⟩ (λw=>(V4 hb w).trans (c t w)) (h t d e)
theorem Ξ.skip (h:Ξ Yw b cs nt k env):Ξ Yw b cs nt (.code .skip::k) env:=.to Xm hb (λ_ _=>rfl) h
theorem Ξ.inBlock {l:Nat} (h:Ξ Yw b cs nt k env):Ξ Yw b cs nt (.inBlock l::k) env:=.to Xm hb (λ_ _=>rfl) h
theorem Ξ.seq {a c:Code} (h:Ξ Yw b cs nt (.code a::.code c::k) env):Ξ Yw b cs nt (.code (.seq a c)::k) env:=.to Xm hb (λ_ _=>rfl) h
theorem Ξ.block {l:Nat} {c:Code} (h:Ξ Yw b cs nt (.code c::.inBlock l::k) env):Ξ Yw b cs nt (.code (.block l c)::k) env:=.to Xm hb (λ_ _=>rfl) h
theorem Ξ.loop {c:Code} (h:Ξ Yw b cs nt (.code c::.inLoop c::k) env):Ξ Yw b cs nt (.code (.loop c)::k) env:=.to Xm hb (λ_ _=>rfl) h
theorem Ξ.inLoop {c:Code} (h:Ξ Yw b cs nt (.code c::.inLoop c::k) env):Ξ Yw b cs nt (.inLoop c::k) env:=.to Xm hb (λ_ _=>rfl) h
theorem Ξ.Zt {id:Nat} {ops:Array Oper} (h:Ξ Yw b cs nt (.inRegion ops (idx ops.size [])::k) env):Ξ Yw b cs nt (.code (.region id ops false)::k) env:=.to Xm hb (λ_ _=>by rw[idx_eq];rfl) h
theorem Ξ.ZM {ops:Array Oper} (h:Ξ Yw b cs nt k env):Ξ Yw b cs nt (.inRegion ops []::k) env:=.to Xm hb (λ_ _=>rfl) h
theorem Ξ.exit {l:Nat} {a:List Item} (c:exitTo l k=some a) (h:Ξ Yw b cs nt a env):Ξ Yw b cs nt (.code (.exit l)::k) env:=by
 refine .to Xm hb (λt w=>?_) h;unfold stepG.exec;simp only[Η,c,Option.elim];rfl
theorem Ξ.cond {c:Operand} {a e:Code} {v:Bool} (g:π env c=.z (.bool v)) (h:Ξ Yw b cs nt (.code (if v then a else e)::k) env):Ξ Yw b cs nt (.code (.cond c a e)::k) env:=by
 intro t i d;refine Xm _ _ ⟨rfl,rfl⟩ (λw=>?_) (h t i d);rw[V4 hb w];have f:(Η b t (.code (.cond c a e)::k)).eval c=.bool v:=by rw[M5];exact Kh d g
 unfold stepG.exec;simp only[Η] at f ⊢;rw[f];rfl
theorem Ξ.Ub {c:Operand} {a e:Code} (d:π env c=.z (.bool true)) (h:Ξ Yw b cs nt (.code a::k) env):Ξ Yw b cs nt (.code (.cond c a e)::k) env:=.cond Xm hb d h
theorem Ξ.Ua {c:Operand} {a e:Code} (d:π env c=.z (.bool false)) (h:Ξ Yw b cs nt (.code e::k) env):Ξ Yw b cs nt (.code (.cond c a e)::k) env:=.cond Xm hb d h
theorem H8 {t:Array Value} (h:YS X0 [] [] env t) (hd:W9 nt op=true) (b:t.size=nt) {a:I} {v:Value} (c:Θ X0 [] [] a v):(put op t v).size=nt/\YS X0 [] [] (ZE op env a) (put op t v):=⟨(Ry h hd b c).2,(Ry h hd b c).1⟩
theorem Ξ.unwanted (c:ops[i]?=some op) (e:X7 env ops op=some false) (hd:W9 nt op=true) (h:Ξ Yw b cs nt (.inRegion ops rest::k) (ZE op env .Zw)):Ξ Yw b cs nt (.inRegion ops (i::rest)::k) env:=by
 intro t f d;obtain⟨g,j⟩:=H8 (b:=b) Xm hb d hd f (a:=.Zw) (v:=undef) (.Zw _);refine Xm _ _ ⟨rfl,rfl⟩ (λw=>?_) (h _ g j);rw[V4 hb,<-Wr c];have l:((ops[i]?).map (Region.wanted · (yielded ops t))).getD false=false:=by simp[c,Vz d e]
 unfold stepG.exec;simp only[Η,l];rfl
theorem Ξ.opn (f:ZJ P T) (d:b.roundOf=none) (g:b.kind≠.early) (j:ops[i]?=some op) (l:X7 env ops op=some true) (hd:W9 nt op=true) {v:Value} (hv:(NO T env op).NP (.z v)) (h:Ξ Yw b cs nt (.inRegion ops rest::k) (ZE op env (.z v))):Ξ Yw b cs nt (.inRegion ops (i::rest)::k) env:=by
 intro t m c;obtain⟨n,o⟩:=H8 (b:=b) Xm hb c hd m (a:=.z v) (v:=v) (.z v);refine Xm _ _ ⟨rfl,rfl⟩ (λw=>?_) (h _ n o);have e:=xX f hv (ρ:=ZX t) λy u p=>Kh c p;rw[Xd hb d,Xd hb d,<-PT,stepG_value (a:=⟨t,b.defers⟩) j (Vz c l) g (by rw[UF];exact(e w).1)];unfold listed;rw[UF,(e w).2,seen_none]
theorem Ξ.part (g:ZJ P T) (j:b.roundOf=none) (m:b.kind≠.early) (is a:List Nat) {l:List Nat} (n:l=is++a) (h:∀c:Ι->Prop,(∀env,Ξ Yw b cs nt (.inRegion ops a::k) env->c env)->Uc T nt ops is env c):Ξ Yw b cs nt (.inRegion ops l::k) env:=by
 subst n;have p:∀(is:List Nat) (env:Ι),Uc T nt ops is env (λenv=>Ξ Yw b cs nt (.inRegion ops a::k) env)->Ξ Yw b cs nt (.inRegion ops (is++a)::k) env:=by
  intro is
  induction is with
  | nil=>intro env h;exact h
  | cons i is d=>
   intro env h;unfold Uc XD at h;split at h
   .exact h.elim
   rename_i o e;obtain⟨hd,h⟩:=h;split at h
   .exact h.elim
   rename_i w f;cases w with
   | false=>exact .unwanted Xm hb e f hd (d _ (h.1 rfl))
   | true=>
    obtain⟨v,r,s⟩:=h.2 rfl;exact .opn Xm hb g j m e f hd r (d _ s)
 exact p is env (h _ λ_ h=>h)
theorem Ξ.region (c:ZJ P T) (d:b.roundOf=none) (e:b.kind≠.early) {id:Nat} (h:∀a:Ι->Prop,(∀env,Ξ Yw b cs nt k env->a env)->Uc T nt ops (idx ops.size []) env a):Ξ Yw b cs nt (.code (.region id ops false)::k) env:=by
 refine .Zt Xm hb (.part Xm hb c d e (idx ops.size []) [] J λa f=>h a λenv g=>f env (.ZM Xm hb g))
theorem Ξ.J9 (d:Uh b ops i op) (e:X7 env ops op=some true) (hd:W9 nt op=true) {f:FuncId} {args:Array Operand} {g:Array TypeId} (j:op.op=.call ⟨.value (.func f),args,g⟩) {v:Value} (l:Entry P f (λ_=>pure v)) (h:Ξ Yw b cs nt (.inRegion ops rest::k) (ZE op env (.z v))):Ξ Yw b cs nt (.inRegion ops (i::rest)::k) env:=by
 intro t m c;obtain⟨n,o⟩:=H8 (b:=b) Xm hb c hd m (a:=.z v) (v:=v) (.z v);exact Xm _ _ ⟨rfl,rfl⟩ (λw=>Ki l d (Vz c e) j (vs:=args.map (ZX t)) rfl J J J) (h _ n o)
theorem Ξ.It (c:Uh b ops i op) (e:X7 env ops op=some true) (g:op.dst=none) {f:FuncId} {j:Array TypeId} (l:op.op=.defer ⟨.value (.func f),#[],j⟩)
  (h:Ξ Yw {b with defers:=Go.Conc.dcall f #[]::b.defers} cs nt (.inRegion ops rest::k) env):Ξ Yw b cs nt (.inRegion ops (i::rest)::k) env:=by
 intro t m d;refine Xm _ (Go.Conc.G (Η {b with defers:=Go.Conc.dcall f #[]::b.defers} t (.inRegion ops rest::k)) cs) ⟨rfl,rfl⟩ (λw=>?_) (h t m d);rw[Xd c.run c.ro,stepG_defer (a:=⟨t,b.defers⟩) c.op (Vz d e) c.kd l];have:(⟨t,Go.Conc.dcall f #[]::b.defers⟩:_root_.Go.Act).put op.dst undef=⟨t,Go.Conc.dcall f #[]::b.defers⟩:=by rw[g];rfl
 simp only[Array.map_empty,List.map_toArray,TX];rw[this,Xd (b:={b with defers:=Go.Conc.dcall f #[]::b.defers}) c.run c.ro];rfl
theorem Ξ.call (c:Uh b ops i op) (o:X7 env ops op=some true) {args:Array Operand} {p:Array TypeId} {g:FuncId} (r:op.op=.call ⟨.value (.func g),args,p⟩) {vs:List Value} (s:MA env args vs) {fn:Func} {body:Code} (l:P.funcs[g]?=some fn) (u:(fn.name == "runtime.NumGoroutine")=false) (d:fn.body=some body) (v:vs.length<=fn.ntmps)
  (h:∀t:Array Value,t.size=nt->YS X0 [] [] env t->Ξ Yw (Frame.enter P g vs.toArray .normal) (Η b t (.inRegion ops (i::rest)::k)::cs) fn.ntmps [.code body] (entry 0 (vs.map I.z))):Ξ Yw b cs nt (.inRegion ops (i::rest)::k) env:=by
 intro t f j;have m:=h t f j (vs.toArray++Array.replicate (fn.ntmps-vs.length) undef) (by simp;omega) (xW vs v);rw[show vs.toArray++Array.replicate (fn.ntmps-vs.length) undef=vs.toArray++Array.replicate (fn.ntmps-vs.toArray.size) undef by simp,<-Sc l d] at m;refine Xm _ _ ⟨rfl,rfl⟩ (λw=>?_) m;have x:(fn.name == "runtime.NumGoroutine")=false:=u;have y:fn.body.isNone=false:=by rw[d];rfl
 have n:(execOp (ZX t) op).run P w=.ok (.enter g vs.toArray) w/\(execOp (ZX t) op).events P w #[]=#[]:=by
  have e:execOp (ZX t) op=callFunc g vs.toArray:=by
   unfold execOp;rw[r];have:args.map (ZX t)=vs.toArray:=s.ZX j;simp only[resolve];rw[this];simp[Deferred.ofValue,Go.TL.ZX,invoke]
  rw[e];unfold callFunc;have f:¬fn.name = "runtime.NumGoroutine" := by simpa using x
  simp[l,f,d]
 rw[Xd c.run c.ro,stepG_enter (a:=⟨t,b.defers⟩) c.op (Vz j o) c.kd (by rw[UF];exact n.1)];unfold listed;rw[UF,n.2,seen_none]
theorem Ξ.Qz (e:b.roundOf=none) (g:b.defers=[]) (i:b.kind=.normal) {fn:Func} (j:P.funcs[b.fn]?=some fn) {d:Nat} (f:fn.results=#[.tmp d]) {v:Value} (hv:Z' env d=.z v) {c:Frame}
  (h:Yw (Go.Conc.G (c.finish v) cs)):Ξ Yw b (c::cs) nt (.code .ret::k) env:=by
 intro t n l;have m:t.getD d undef=v:=by
  have:=l d;rw[hv] at this;generalize t.getD d undef=u at this;cases this;rfl
 refine Xm _ (Go.Conc.G {Η b t (.code .ret::k) with mode:=.returning} (c::cs)) ⟨rfl,rfl⟩ (λw=>?_) (Xm _ _ ⟨rfl,rfl⟩ (λw=>?_) h)
 .rw[V4 hb];unfold stepG.exec;simp only[Η,e];rfl
 .rw[Xd hb e,stepG_leave (a:=⟨t,b.defers⟩) i g j (results_tmp f _ P w) (events_results_tmp f _ _),m]
theorem Ξ.J' (d:b.roundOf=none) (f:b.defers=[]) (g:b.kind=.normal) {fn:Func} (i:P.funcs[b.fn]?=some fn) (e:fn.results=#[]) {c:Frame}
  (h:Yw (Go.Conc.G (c.finish (.tuple #[])) cs)):Ξ Yw b (c::cs) nt [] env:=by
 intro t j k;refine Xm _ (Go.Conc.G {Η b t [] with mode:=.returning} (c::cs)) ⟨rfl,rfl⟩ (λw=>?_) (Xm _ _ ⟨rfl,rfl⟩ (λw=>?_) h)
 .rw[V4 hb];unfold stepG.exec;simp only[Η,d];rfl
 .rw[Xd hb d,stepG_leave (a:=⟨t,b.defers⟩) g f i (Go.results_none e _ P w) (Go.Conc.events_results_none e _ _)]
end
attribute [congr] xT
attribute [simp] OR xV xU NO
def Vs (P:Program) (a:Value->Prop) (mn:Bool) (y:γ) (g:Goroutine):Prop:=Wg g/\Goes P a mn g {y with G:=Ψ.empty}
def U4 (P:Program) (d:Nat) (g:Goroutine):Prop:=∃n,QuitsD P n d g
theorem ZT {P:Program} {c:Value->Prop} {mn:Bool} {y:γ} (d:Yc y):H9 P mn (Vs P c mn y):=λg g' a e b=>⟨a,Quiet.goes (.cons a e (.nil _)) d b.1 b.2⟩
theorem Yy {P:Program} {d:Nat}:H9 P false (U4 P d):=λg g' a b ⟨n,c⟩=>⟨n+1,.ctl a.1 b c⟩
section
variable {P:Program} {Q:Value->Prop} {mn:Bool} {y:γ} {b:Frame} {cs:List Frame} {nt:Nat} {k:List Item} {env:Ι}
variable {ops:Array Oper} {i:Nat} {rest:List Nat} {op:Oper} {f:FuncId} {e:Array Value->Sem Value} {args:Array Operand} {vs:List Value}
theorem Ξ.leaves {d:Nat} (a:y.rel=true) (c:∀s,Gone (y.tok s)) (hd:y.deaf=d) (h:Ξ (U4 P d) b cs nt k env):Ξ (Vs P Q false y) b cs nt k env:=λt e f=>by
 obtain⟨n,g⟩:=h t e f;subst hd;exact⟨⟨rfl,rfl⟩,Goes.quits n a c g⟩
theorem Ξ.disable (d:Yc y) (h:W7 P b ops i op f (λ_=>do mark .disable;pure Extern.Race.none_) args env [] nt) (e:Ξ (Vs P Q mn {y with deaf:=y.deaf+1}) b cs nt (.inRegion ops rest::k) (ZE op env Tc)):Ξ (Vs P Q mn y) b cs nt (.inRegion ops (i::rest)::k) env:=λt g c=>by
 obtain⟨j,l⟩:=Ry c h.dst g (a:=Tc) (v:=.tuple #[]) (.z _);exact⟨⟨rfl,rfl⟩,Goes.step d.ok (.inr ⟨⟨rfl,rfl⟩,.inr (.inl ⟨Go.Conc.G (Η b (put op t (.tuple #[])) (.inRegion ops rest::k)) cs,⟨rfl,rfl⟩,.inl λw _=>
  ⟨h.step c (Kg .disable) (Kf .disable _) (Rr J),(e _ l j).2⟩⟩)⟩)⟩
def H7 (P:Program) (Q:Value->Prop) (mn:Bool) (y:γ) (b:Frame) (cs:List Frame) (nt:Nat) (ops:Array Oper) (rest:List Nat) (k:List Item) (op:Oper) (env:Ι) (s φ:Nat) (a:ν) (v:Value):Prop:=
 Ξ (Vs P Q mn {y with view:=upd y.view s (some (φ,a))}) b cs nt (.inRegion ops rest::k) (ZE op env (.z v))
def JY (P:Program) (Q:Value->Prop) (mn:Bool) (y:γ) (b:Frame) (cs:List Frame) (nt:Nat) (ops:Array Oper) (rest:List Nat) (k:List Item) (op:Oper) (env:Ι) (s φ:Nat) (c:ν) (v:Value) (o':ν) (t':Tok):Prop:=
 Act c (y.tok s) o' t'/\∀a,a<φ->Ξ (Vs P Q mn {y with tok:=upd y.tok s t',view:=upd y.view s (some (a,o'))}) b cs nt (.inRegion ops rest::k) (ZE op env (.z v))
theorem Ξ.ext (r:Yc y) {s:Nat} {sp:Spec} (u:y.spec s=some sp) (x:¬Xy (y.tok s)) (h:W7 P b ops i op f e args env vs nt)
  (A:∀(w:World) (φ:Nat) (c:ν),Seen y s sp φ c->At s c w->
   (∃v w' d,(e vs.toArray).run P w=.ok v w'/\(e vs.toArray).events P w #[⟨.mark (Mark.extern f),false,true⟩]=#[⟨.mark (Mark.extern f),false,true⟩]++d/\(∀y∈d,y.sync=true/\∀g,y.loc≠.mark (Mark.extern g))/\
    XP (λB _=>Ys s sp B) (λ_=>False) w w'/\SW s sp y.deaf d/\
    ((At s c w'/\H7 P Q mn y b cs nt ops rest k op env s φ c v)\/∃o' t',At s o' w'/\JY P Q mn y b cs nt ops rest k op env s φ c v o' t'))) :
  Ξ (Vs P Q mn y) b cs nt (.inRegion ops (i::rest)::k) env:=by
 obtain⟨U,n⟩:=h.call;intro t C j;refine⟨⟨rfl,rfl⟩,Goes.step r.ok (.inr ⟨⟨rfl,rfl⟩,.inr (.inr (.inr (.inl ⟨s,sp,u,x,λw φ c V hv D E F H=>?_⟩)))⟩)⟩;obtain⟨v,w',d,I,J,K,L,M,N⟩:=A w φ c ⟨D,F,H⟩ E;have O:=Ki (mn:=mn) (cs:=cs) (rest:=rest) (k:=k) h.Uo h.at_ (Vz j h.want) n (h.Mz.ZX j) I J K;refine .inl ?_;rw[O];obtain⟨o,p⟩:=Ry j h.dst C (a:=.z v) (v:=v) (.z _);refine⟨⟨rfl,rfl⟩,L,M,?_⟩;rcases N with⟨l,m⟩|⟨o',t',l,m,R⟩
 .exact .inl ⟨l,(m _ p o).2⟩
 .exact .inr ⟨o',t',m,l,.inl (Fv h.Uo h.at_ n),λS T=>(R S T _ p o).2⟩
section
variable {s:Nat} {sp:Spec} (Yg:Yc y) (hd:0<y.deaf) (Wk:y.spec s=some sp) (Wj:¬Xy (y.tok s))
include Yg hd Wk Wj
theorem Ξ.Iw (h:W7 P b ops i op f (Extern.Atomic.loadT (.int .u64)) args env [.pointer (some ⟨s,0,none⟩)] nt)
  (e:∀φ a,Seen y s sp φ a->H7 P Q mn y b cs nt ops rest k op env s φ a (.int .u64 (Zc a))):Ξ (Vs P Q mn y) b cs nt (.inRegion ops (i::rest)::k) env:=by
 refine .ext Yg Wk Wj h λw φ a g c=>?_;have d:=c.TR;refine⟨.int .u64 (Zc a),w,#[⟨.cell ⟨s,0,none⟩,false,true⟩],?_,?_,Rn (Ro _ false),XP.refl _ _ _,Rq (.inl rfl) hd (Ro _ false),.inl ⟨c,e φ a g⟩⟩
 .change Sem.run P (do Extern.Atomic.read (.int .u64) (<-asAddr (.pointer (some _)))) w=_;simp[Extern.Atomic.read,asAddr,d]
 .change Sem.events P (do Extern.Atomic.read (.int .u64) (<-asAddr (.pointer (some _)))) w _=_;simp[Extern.Atomic.read,asAddr,d,events_load]
theorem Ξ.Iv {d:Int} (h:W7 P b ops i op f (Extern.Atomic.update (Op.intArith .add) .u64 true) args env [.pointer (some ⟨s,0,none⟩),.int .u64 d] nt)
  (o:∀φ a,Seen y s sp φ a->∃o' t',Zc o'=u64.wrap (Zc a+d)/\o'.Y5=a.Y5/\Rm a o'/\JY P Q mn y b cs nt ops rest k op env s φ a (.int .u64 (Zc o')) o' t') :
  Ξ (Vs P Q mn y) b cs nt (.inRegion ops (i::rest)::k) env:=by
 refine .ext Yg Wk Wj h λw φ a p c=>?_;have j:=c.TR;have l:=c.PR 0;obtain⟨o',t',m,r,e,n⟩:=o φ a p;rw[m] at n;refine⟨_,_,_,run_add_entry j l,(events_add_entry j l _).trans rfl,Rn (Rp ⟨s,0,none⟩),c.NV _,Rq (.inl rfl) hd (Rp ⟨s,0,none⟩),.inr ⟨o',t',c.NW e.Z0 e.g e.w ?_,n⟩⟩;rw[m,r];rfl
theorem Ξ.xR {d:Int} (h:W7 P b ops i op f Extern.Atomic.storeT args env [.pointer (some ⟨s,0,none⟩),.int .u64 d] nt)
  (m:∀φ a,Seen y s sp φ a->∃o' t',Zc o'=d/\o'.Y5=a.Y5/\Rm a o'/\JY P Q mn y b cs nt ops rest k op env s φ a (.tuple #[]) o' t') :
  Ξ (Vs P Q mn y) b cs nt (.inRegion ops (i::rest)::k) env:=by
 refine .ext Yg Wk Wj h λw φ a n c=>?_;have j:=c.TR;have l:=c.PR 0;obtain⟨o',t',o,p,e,r⟩:=m φ a n;refine⟨.tuple #[],w.setCell ⟨s,0,none⟩ (.int .u64 d),#[⟨.cell ⟨s,0,none⟩,true,true⟩],?_,?_,Rn (Ro _ true),c.NV _,Rq (.inl rfl) hd (Ro _ true),.inr ⟨o',t',c.NW e.Z0 e.g e.w (by rw[o,p];rfl),r⟩⟩
 .change Sem.run P (do
   store (<-asAddr (.pointer (some _))) (.int .u64 d) .atomic
   pure Extern.Atomic.none_) w=_
  simp[asAddr,j,l,run_store P w _ (.int .u64 d) .atomic rfl,Result.andThen,Extern.Atomic.none_]
 .change Sem.events P (do
   store (<-asAddr (.pointer (some _))) (.int .u64 d) .atomic
   pure Extern.Atomic.none_) w _=_
  simp[asAddr,j,l,events_store P w _ _ (.int .u64 d) .atomic rfl]
end
section
variable {s:Nat} {sp:Spec} (Yg:Yc y) (Wk:y.spec s=some sp) (Wj:¬Xy (y.tok s))
include Yg Wk Wj
theorem Ξ.xQ (e:vs[0]?=some (.pointer (some ⟨s,1,none⟩))) (h:W7 P b ops i op f Extern.Sync.semrelease args env vs nt)
  (l:∀φ a,Seen y s sp φ a->a.Y5<1000/\∃o' t',Zc o'=Zc a/\o'.Y5=a.Y5+1/\Rm a o'/\JY P Q mn y b cs nt ops rest k op env s φ a (.tuple #[]) o' t') :
  Ξ (Vs P Q mn y) b cs nt (.inRegion ops (i::rest)::k) env:=by
 refine .ext Yg Wk Wj h λw φ a m c=>?_;have j:=c.Ke;obtain⟨r,o',t',n,o,d,p⟩:=l φ a m;refine⟨_,_,_,Fi e j (c.PR 1),Fh e j (c.PR 1) _,semEvents_sync _,c.NV _,Ka (.inl rfl),.inr ⟨o',t',c.NW d.Z0 d.g d.w ?_,p⟩⟩;rw[n,o,show u32.wrap (((a.Y5:Nat):Int)+1)=((a.Y5+1:Nat):Int) by simp only[IntKind.wrap_u32];omega];rfl
end
theorem EK {t:Array Value} (e:b.mode=.run) (g:b.roundOf=none) (i:b.defers=[Go.Conc.dcall f #[]]) (j:b.kind=.normal) {fn:Func} (l:P.funcs[b.fn]?=some fn) (d:fn.results=#[]) (m:Entry P f (λ_=>do mark .enable;pure Extern.Race.none_)) {c:Frame}
  (h:U4 P 0 (Go.Conc.G (c.finish (.tuple #[])) cs)):U4 P 1 (Go.Conc.G {Η b t k with mode:=.returning} (c::cs)):=by
 obtain⟨v,o,Χ,p,r,s⟩:=m;obtain⟨n,u⟩:=h;rw[Xd e g];refine⟨n+1+1,QuitsD.unwind_mark (a:=⟨t,b.defers⟩) (ds:=[]) .enable rfl J i o Χ p r s ?_⟩;exact .ctl rfl (λw=>stepG_leave (a:=⟨t,[]⟩) j rfl l (Go.results_none d _ P w) (Go.Conc.events_results_none d _ _)) u
theorem Ξ.Ia (a:b.mode=.run) (d:b.roundOf=none) (e:b.defers=[Go.Conc.dcall f #[]]) (g:b.kind=.normal) {fn:Func} (i:P.funcs[b.fn]?=some fn) (j:fn.results=#[]) (l:Entry P f (λ_=>do mark .enable;pure Extern.Race.none_)) {c:Frame}
  (h:U4 P 0 (Go.Conc.G (c.finish (.tuple #[])) cs)):Ξ (U4 P 1) b (c::cs) nt (.code .ret::k) env:=λt _ _=>by
 refine Yy _ (Go.Conc.G {Η b t (.code .ret::k) with mode:=.returning} (c::cs)) ⟨rfl,rfl⟩ (λw=>?_) (EK a d e g i j l h);rw[V4 a];unfold stepG.exec;simp only[Η,d];rfl
theorem Ξ.xP (a:b.mode=.run) (d:b.roundOf=none) (e:b.defers=[Go.Conc.dcall f #[]]) (g:b.kind=.normal) {fn:Func} (i:P.funcs[b.fn]?=some fn) (j:fn.results=#[]) (k:Entry P f (λ_=>do mark .enable;pure Extern.Race.none_)) {c:Frame}
  (h:U4 P 0 (Go.Conc.G (c.finish (.tuple #[])) cs)):Ξ (U4 P 1) b (c::cs) nt [] env:=λt _ _=>by
 refine Yy _ (Go.Conc.G {Η b t [] with mode:=.returning} (c::cs)) ⟨rfl,rfl⟩ (λw=>?_) (EK a d e g i j k h);rw[V4 a];unfold stepG.exec;simp only[Η,d];rfl
end
def NN (x:γ):γ:={x with η:=λ_=>none,rel:=true}
theorem V.Jm {P:Program} {m:Value->Prop} {x:γ} {b:Frame} {cs:List Frame} {nt:Nat} {o:Base} {k:List Item} {env:Ι} {ops:Array Oper} {i:Nat} {rest:List Nat} {l:Oper} {f:FuncId} {args:Array Operand} (r:x.rel=false) {s n:Nat} {sp:Spec} {c:UX} {v:Option (Nat×ν)} (E:x.spec s=some sp) (F:c=.done\/(c=.idle/\sp.Z0=none)) (K:∀g,g≠s->Xy (x.tok g)) (L:sp.D n Ψ.empty)
  (h:W7 P b ops i l f (Extern.Race.marked .releaseMerge) args env [.pointer (some ⟨s,0,none⟩)] nt) (M:∀p∈ZE l env Tc,∃v,p.2=I.z v)
  (N:Ξ (Vs P m false (ZR (NN x) s (.ch n c .rel) none 0)) b cs nt (.inRegion ops rest::k) (ZE l env Tc)):V P m false (one (ZR x s (.ch n c .work) v 0)) b cs nt o (.inRegion ops (i::rest)::k) env []:=by
 intro S B H t R u y O;cases O;have A:=u.put h.dst (a:=Tc) (v:=.tuple #[]) (.z _);have Q:=(N _ A.size (Mr M A.Zr)).2;refine Goes.step (Yc.ok (.inl r)) (.inr ⟨⟨rfl,rfl⟩,.inr (.inr (.inr (.inr (.inr (.inr (.inl ⟨s,sp,n,c,Go.Conc.G (Η b (put l t (.tuple #[])) (.inRegion ops rest::k)) cs,Ψ.empty,E,Zx (v:=v) (d:=0),F,λg C=>by
  rw[show({ZR x s (.ch n c .work) v 0 with G:=H}:γ).tok g=(ZR x s (.ch n c .work) v 0).tok g from rfl,Mw C];exact K g C,rfl,⟨rfl,rfl⟩,r,λw _=>
  h.step u.Zr (NZ .releaseMerge _) (NY .releaseMerge _ _) (Rr J),⟨λb o v p j=>(by cases j),λb y j=>(by cases j),λb y j=>(by cases j)⟩,L,?_⟩))))))⟩)
 have e:({({ZR x s (.ch n c .work) v 0 with G:=H}:γ) with G:=Ψ.empty,η:=λ_=>none,tok:=upd ({ZR x s (.ch n c .work) v 0 with G:=H}:γ).tok s (.ch n c .rel),view:=upd ({ZR x s (.ch n c .work) v 0 with G:=H}:γ).view s none,rel:=true}:γ)={ZR (NN x) s (.ch n c .rel) none 0 with G:=Ψ.empty}:=by
  unfold ZR NN;simp only[Is]
 exact e▸Q
end Go.TL
namespace Go.TL
open Go.IntKind (i32 i64 u32 u64)
open Go.Proofs.Tryz
open Go.Conc Go.Proofs
open Go.ConcN (sumTo upd sumTo_upd upd_ne upd_same sumTo_congr le_sumTo)
noncomputable def JX:Code:=f140.body.getD .skip
noncomputable abbrev H6 (s:Nat):Frame:={Frame.enter prog 140 #[ptr s 0,.int .i64 (-1)] .normal with defers:=[Go.Conc.dcall 161 #[]]}
theorem xO:u64.wrap (u64.wrap (-1)*2 ^ min 32 u64.bits)=18446744069414584320:=Z2
theorem xN:u64.wrap (18446744073709551615*2 ^ min 32 u64.bits)=18446744069414584320:=Z2
theorem xM:u64.wrap (-1)=18446744073709551615:=Z2
theorem JW:i32.wrap (-1)=-1:=Z2
section
variable {Q:Value->Prop} {c:Frame} {rest:List Frame} {s k:Nat} {sp:Spec} {v:Option (Nat×ν)}
theorem xL [ZS] (n:U4 prog 0 (Go.Conc.G (c.finish (.tuple #[])) rest)) {cc w0:Nat} (e:cc<8) (f:w0<2) (o:0<cc\/w0=0) {env:Ι} (g:Z' env 0=.z (ptr s 0)) (h:Z' env 1=.z (.int .i64 (-1))) (i:Z' env 4=.z (.bool false)) (d:Z' env 6=.z (.int .u64 (Wz cc w0))) :
  Ξ (U4 prog 1) (H6 s) (c::rest) 117 [.code (YC [1,1,1,1] JX)] env:=by
 have j:∀(K:List Item) (env:Ι),Ξ (U4 prog 1) (H6 s) (c::rest) 117 (.code .ret::K) env:=λK env=>Ξ.Ia rfl rfl rfl rfl func140 rfl PQ n
 have k:¬(cc:Int)<0:=Px.2 (Int.natCast_nonneg _)
 have p:w0=0\/w0=1:=U
 have f1:=J3 cc e w0 f
 have f2:=J2 cc e w0 f
 have f3:=J1 cc e w0 f;generalize Wz cc w0=w at f1 f2 f3 d;unfold JX;by_cases a:0<cc
 .have l:(0:Int)<cc:=by exact_mod_cast a
  rcases p with rfl|rfl
  ·(repeat (first|refine Ξ.seq Yy rfl ?_|refine Ξ.block Yy rfl ?_|refine Ξ.inBlock Yy rfl ?_|refine Ξ.skip Yy rfl ?_|refine Ξ.Ub Yy rfl rfl ?_|refine Ξ.Ua Yy rfl rfl ?_|(refine Ξ.region Yy rfl Τ rfl (by simp[Frame.enter]) λm b=>?_;(try simp);(repeat (refine W4 ?_;simp[g,h,i,d,f1,f2,f3,JW,k,a,l]));refine b _ ?_)));exact j _ _
  ·(repeat (first|refine Ξ.seq Yy rfl ?_|refine Ξ.block Yy rfl ?_|refine Ξ.inBlock Yy rfl ?_|refine Ξ.skip Yy rfl ?_|refine Ξ.Ub Yy rfl rfl ?_|refine Ξ.Ua Yy rfl rfl ?_|(refine Ξ.region Yy rfl Τ rfl (by simp[Frame.enter]) λm b=>?_;(try simp);(repeat (refine W4 ?_;simp[g,h,i,d,f1,f2,f3,JW,k,a,l]));refine b _ ?_)));exact j _ _
 .have r:w0=0:=o.resolve_left a
  have t:cc=0:=Nat.eq_zero_of_not_pos a;subst r;subst t;(repeat (first|refine Ξ.seq Yy rfl ?_|refine Ξ.block Yy rfl ?_|refine Ξ.inBlock Yy rfl ?_|refine Ξ.skip Yy rfl ?_|refine Ξ.Ub Yy rfl rfl ?_|refine Ξ.Ua Yy rfl rfl ?_|(refine Ξ.region Yy rfl Τ rfl (by simp[Frame.enter]) λm b=>?_;(try simp);(repeat (refine W4 ?_;simp[g,h,i,d,f1,f2,f3,JW]));refine b _ ?_)));exact j _ _
structure R0 (x:γ) (s:Nat) (sp:Spec):Prop where
 rel:x.rel=true
 spec:x.spec s=some sp
 top:sp.top<7
 shut:∀a,a≠s->Xy (x.tok a)
theorem R0.here {x:γ} (h:R0 x s sp) {g:Qi} {d:Nat} (a:g≠.gone):Yc (ZR x s (.ch k .done g) v d):=.inr ⟨s,by rw[Zx];cases g<;>simp_all [Gone]⟩
theorem R0.gone {x:γ} (h:R0 x s sp) {d:Nat}:∀a,Gone ((ZR x s (.ch k .done .gone) v d).tok a):=λa=>by
 by_cases e:a=s
 .subst e;rw[Zx];trivial
 .rw[Mw e];have:=h.shut a e;revert this;cases x.tok a with
  | nil=>exact λ_=>trivial
  | par n p b=>cases b<;>exact λh=>h
  | ch k m g=>exact λh=>h.elim
theorem R0.J0 {x:γ} (b:R0 x s sp) {a:ν} (h:a.toSpec=sp):a.top<7:=by have:=b.top;rw[show a.top=sp.top by rw[<-h]];exact this
theorem Ξ.back [ZS] {d:Goroutine->Prop} {b:Frame} {cs:List Frame} {nt:Nat} {k:List Item} {env:Ι} {ops:Array Oper} {i:Nat} {rest:List Nat} {c:Oper} {t:Array Value} {v:Value} (e:ops[i]?=some c) (hd:W9 nt c=true) (f:t.size=nt) (g:YS X0 [] [] env t)
  (h:Ξ d b cs nt (.inRegion ops rest::k) (ZE c env (.z v))):d (Go.Conc.G ((Η b t (.inRegion ops (i::rest)::k)).finish v) cs):=by
 rw[Wr e];obtain⟨j,l⟩:=Ry g hd f (a:=.z v) (v:=v) (.z _);exact h _ l j
theorem Ξ.EJ [ZS] {P:Program} {b:Frame} {cs:List Frame} {nt:Nat} {env:Ι} (d:b.mode=.run) (e:b.roundOf=none) (f:b.defers=[]) (g:b.kind=.deferred) {fn:Func} (i:P.funcs[b.fn]?=some fn) (j:fn.results=#[]) {c:Frame} (k:c.mode=.returning)
  (h:U4 P 0 (Go.Conc.G c cs)):Ξ (U4 P 0) b (c::cs) nt [] env:=λt _ _=>by
 obtain⟨n,l⟩:=h;refine Yy _ (Go.Conc.G {Η b t [] with mode:=.returning} (c::cs)) ⟨rfl,rfl⟩ (λw=>?_) ⟨n+1,?_⟩
 .rw[V4 d];unfold stepG.exec;simp only[Η,e];rfl
 .rw[Xd d e];exact QuitsD.leaveD (a:=⟨t,b.defers⟩) g f i j k l
theorem xK [ZS] {x:γ} (g:R0 x s sp) {t:Tok} (a:∀v,Yc (ZR x s t v 1)) (e:¬Xy t) {cs:List Frame} (h:∀φ b,Seen (ZR x s t v 1) s sp φ b->Vs prog Q false (ZR x s t (some (φ,b)) 1) (Go.Conc.G (c.finish (.int .u64 (Zc b))) cs)) :
  Ξ (Vs prog Q false (ZR x s t v 1)) (Frame.enter prog 168 #[ptr s 0] .normal) (c::cs) 7 [.code (f168.body.getD .skip)] (entry 0 [.z (ptr s 0)]):=by
 simp only[f168,Option.getD_some];(repeat (first|refine Ξ.seq (ZT (a _)) rfl ?_|refine Ξ.block (ZT (a _)) rfl ?_|refine Ξ.inBlock (ZT (a _)) rfl ?_|refine Ξ.skip (ZT (a _)) rfl ?_|refine Ξ.Ub (ZT (a _)) rfl rfl ?_|refine Ξ.Ua (ZT (a _)) rfl rfl ?_|(refine Ξ.region (ZT (a _)) rfl Τ rfl (by simp[Frame.enter]) λf d=>?_;(try simp);(repeat (refine W4 ?_;simp[e]));refine d _ ?_)));refine Ξ.Zt (ZT (a _)) rfl ?_;refine Ξ.part (ZT (a _)) rfl Τ rfl (by simp[Frame.enter]) [0,1,2] [3,4] rfl λf d=>?_;(try simp[-OR]);(repeat (refine W4 ?_;simp));refine d _ ?_;refine Ξ.Iw (a _) (Vn _) (sp:=sp) g.spec (by rw[Zx];exact e) ⟨⟨rfl,rfl,by simp[Frame.enter],rfl⟩,E9,⟨_,rfl⟩,rfl,rfl,rfl⟩ λφ b i=>?_;unfold H7;rw[Vt];refine Ξ.part (ZT (a _)) rfl Τ rfl (by simp[Frame.enter]) [4] [] rfl λf d=>?_;(try simp[-OR]);(repeat (refine W4 ?_;simp));refine d _ ?_;refine Ξ.ZM (ZT (a _)) rfl ?_;exact Ξ.Qz (ZT (a _)) rfl rfl rfl rfl func168 rfl rfl (h φ b i)
theorem xJ [ZS] {x:γ} (i:R0 x s sp) {t t':Tok} {d:Int} (a:∀v,Yc (ZR x s t v 1)) (g:∀v,Yc (ZR x s t' v 1)) (h:¬Xy t) {cs:List Frame} (j:∀φ b,Seen (ZR x s t v 1) s sp φ b->∃o',Zc o'=d/\o'.Y5=b.Y5/\Rm b o'/\Act b t o' t'/\∀e,e<φ->Vs prog Q false (ZR x s t' (some (e,o')) 1) (Go.Conc.G (c.finish (.tuple #[])) cs)) :
  Ξ (Vs prog Q false (ZR x s t v 1)) (Frame.enter prog 169 #[ptr s 0,.int .u64 d] .normal) (c::cs) 9 [.code (f169.body.getD .skip)] (entry 0 [.z (ptr s 0),.z (.int .u64 d)]):=by
 simp only[f169,Option.getD_some];(repeat (first|refine Ξ.seq (ZT (a _)) rfl ?_|refine Ξ.block (ZT (a _)) rfl ?_|refine Ξ.inBlock (ZT (a _)) rfl ?_|refine Ξ.skip (ZT (a _)) rfl ?_|refine Ξ.Ub (ZT (a _)) rfl rfl ?_|refine Ξ.Ua (ZT (a _)) rfl rfl ?_|(refine Ξ.region (ZT (a _)) rfl Τ rfl (by simp[Frame.enter]) λk f=>?_;(try simp);(repeat (refine W4 ?_;simp[h]));refine f _ ?_)));refine Ξ.Zt (ZT (a _)) rfl ?_;refine Ξ.part (ZT (a _)) rfl Τ rfl (by simp[Frame.enter]) [0,1,2,3] [4] rfl λk f=>?_;(try simp[-OR]);(repeat (refine W4 ?_;simp));refine f _ ?_;refine Ξ.xR (a _) (Vn _) (sp:=sp) i.spec (by rw[Zx];exact h) ⟨⟨rfl,rfl,by simp[Frame.enter],rfl⟩,yw,⟨_,rfl⟩,rfl,rfl,rfl⟩ λφ b l=>?_;obtain⟨o',m,n,o,p,r⟩:=j φ b l;refine⟨o',t',m,n,o,by rw[Zx];exact p,λe u=>?_⟩;rw[W6];refine Ξ.ZM (ZT (g _)) rfl ?_;exact Ξ.J' (ZT (g _)) rfl rfl rfl rfl func169 rfl (r e u)
theorem xI [ZS] {x:γ} (j:R0 x s sp) {t:Tok} {d:Int} (a:∀v,Yc (ZR x s t v 1)) (k:¬Xy t) {cs:List Frame}
  (l:∀φ b,Seen (ZR x s t v 1) s sp φ b->∃o' t',Zc o'=u64.wrap (Zc b+d)/\o'.Y5=b.Y5/\Rm b o'/\Act b t o' t'/\∀f,f<φ->(((∀v,Yc (ZR x s t' v 1))/\Vs prog Q false (ZR x s t' (some (f,o')) 1) (Go.Conc.G (c.finish (.int .u64 (Zc o'))) cs))\/((∀m,Gone ((ZR x s t' (some (f,o')) 1).tok m))/\U4 prog 1 (Go.Conc.G (c.finish (.int .u64 (Zc o'))) cs)))) :
  Ξ (Vs prog Q false (ZR x s t v 1)) (Frame.enter prog 166 #[ptr s 0,.int .u64 d] .normal) (c::cs) 10 [.code (f166.body.getD .skip)] (entry 0 [.z (ptr s 0),.z (.int .u64 d)]):=by
 simp only[f166,Option.getD_some];(repeat (first|refine Ξ.seq (ZT (a _)) rfl ?_|refine Ξ.block (ZT (a _)) rfl ?_|refine Ξ.inBlock (ZT (a _)) rfl ?_|refine Ξ.skip (ZT (a _)) rfl ?_|refine Ξ.Ub (ZT (a _)) rfl rfl ?_|refine Ξ.Ua (ZT (a _)) rfl rfl ?_|(refine Ξ.region (ZT (a _)) rfl Τ rfl (by simp[Frame.enter]) λh e=>?_;(try simp);(repeat (refine W4 ?_;simp[k]));refine e _ ?_)));refine Ξ.Zt (ZT (a _)) rfl ?_;refine Ξ.part (ZT (a _)) rfl Τ rfl (by simp[Frame.enter]) [0,1,2,3] [4,5] rfl λh e=>?_;(try simp[-OR]);(repeat (refine W4 ?_;simp));refine e _ ?_;refine Ξ.Iv (a _) (Vn _) (sp:=sp) j.spec (by rw[Zx];exact k) ⟨⟨rfl,rfl,by simp[Frame.enter],rfl⟩,Fa,⟨_,rfl⟩,rfl,rfl,rfl⟩ λφ b n=>?_;obtain⟨o',t',o,p,r,u,w⟩:=l φ b n;refine⟨o',t',o,p,r,by rw[Zx];exact u,λf y=>?_⟩;rw[W6];rcases w f y with⟨g,i⟩|⟨g,i⟩
 .refine Ξ.part (ZT (g _)) rfl Τ rfl (by simp[Frame.enter]) [5] [] rfl λh e=>?_;(try simp[-OR]);(repeat (refine W4 ?_;simp));refine e _ ?_;refine Ξ.ZM (ZT (g _)) rfl ?_;exact Ξ.Qz (ZT (g _)) rfl rfl rfl rfl func166 rfl rfl i
 .refine Ξ.leaves (d:=1) j.rel g rfl ?_;refine Ξ.part Yy rfl Τ rfl (by simp[Frame.enter]) [5] [] rfl λh e=>?_;(try simp[-OR]);(repeat (refine W4 ?_;simp));refine e _ ?_;refine Ξ.ZM Yy rfl ?_;exact Ξ.Qz Yy rfl rfl rfl rfl func166 rfl rfl i
theorem xH [ZS] {x:γ} (j:R0 x s sp) (u:U4 prog 0 (Go.Conc.G (c.finish (.tuple #[])) rest)) {env:Ι} (h:Z' env 0=.z (ptr s 0)) (y:Z' env 1=.z (.int .i64 (-1))) (l:Z' env 4=.z (.bool false)) (m:Z' env 6=.z (.int .u64 (Wz 0 1))) :
  Ξ (Vs prog Q false (ZR x s (.ch k .done .l2) v 1)) (H6 s) (c::rest) 117 [.code (YC [1,1,1,1] JX)] env:=by
 have f1:=J3 0 Z2 1 Z2
 have f2:=J2 0 Z2 1 Z2
 have f3:=J1 0 Z2 1 Z2
 have R:Wz 0 1=1:=Z2;generalize A:Wz 0 1=w at f1 f2 f3 m;have f:=j.here (k:=k) (v:=v) (d:=1) (g:=.l2) J;unfold JX;(repeat (first|refine Ξ.seq (ZT f) rfl ?_|refine Ξ.block (ZT f) rfl ?_|refine Ξ.inBlock (ZT f) rfl ?_|refine Ξ.skip (ZT f) rfl ?_|refine Ξ.Ub (ZT f) rfl rfl ?_|refine Ξ.Ua (ZT f) rfl rfl ?_|(refine Ξ.region (ZT f) rfl Τ rfl (by simp[Frame.enter]) λi b=>?_;(try simp);(repeat (refine W4 ?_;simp[h,y,l,m,f1,f2,f3,JW]));refine b _ ?_)));refine Ξ.Zt (ZT f) rfl ?_;refine Ξ.part (ZT f) rfl Τ rfl (by simp[Frame.enter]) [0,1,2] [3,4,5] rfl λi b=>?_;(repeat (refine W4 ?_;simp[h]));refine b _ ?_;refine Ξ.call (ZT f) rfl ⟨rfl,rfl,by simp[Frame.enter],rfl⟩ rfl rfl (vs:=[ptr s 0]) rfl func168 rfl rfl (by simp[ntmps168]) λt B C=>?_;have e:∀v,Yc (ZR x s (.ch k .done .l2) v 1):=λv=>j.here J;have a:∀v,Yc (ZR x s (.ch k .done .Ss) v 1):=λv=>j.here J;refine xK j e id λφ D E=>?_;have n:=E.VX.Qw;rw[Zx] at n;obtain⟨F,H⟩:=n.l2 k _ rfl;have I:Zc D=w:=by rw[<-A];simp only[Zc,F,H]
 rw[I];refine Ξ.back rfl rfl B C ?_;refine Ξ.part (ZT (e _)) rfl Τ rfl (by simp[Frame.enter]) [4,5] [] rfl λi b=>?_;(repeat (refine W4 ?_;simp[m]));refine b _ ?_;refine Ξ.ZM (ZT (e _)) rfl ?_;(repeat (first|refine Ξ.seq (ZT (e _)) rfl ?_|refine Ξ.block (ZT (e _)) rfl ?_|refine Ξ.inBlock (ZT (e _)) rfl ?_|refine Ξ.skip (ZT (e _)) rfl ?_|refine Ξ.Ub (ZT (e _)) rfl rfl ?_|refine Ξ.Ua (ZT (e _)) rfl rfl ?_|(refine Ξ.region (ZT (e _)) rfl Τ rfl (by simp[Frame.enter]) λi b=>?_;(try simp);(repeat (refine W4 ?_;simp[h]));refine b _ ?_)));refine Ξ.Zt (ZT (e _)) rfl ?_;refine Ξ.part (ZT (e _)) rfl Τ rfl (by simp[Frame.enter]) [0,1,2] [3] rfl λi b=>?_;(repeat (refine W4 ?_;simp[h]));refine b _ ?_;refine Ξ.call (ZT (e _)) rfl ⟨rfl,rfl,by simp[Frame.enter],rfl⟩ rfl rfl (vs:=[ptr s 0,.int .u64 0]) rfl func169 rfl rfl (by simp[ntmps169]) λt3 K L=>?_;refine xJ j (t':=.ch k .done .Ss) e a id λS M N=>?_;have o:=N.VX.Qw;rw[Zx] at o;obtain⟨T,O⟩:=o.l2 k _ rfl;refine⟨{M with wt:=0},by simp only[Zc,O];rfl,rfl,⟨rfl,rfl,rfl⟩,.C4,λU V=>?_⟩;refine Ξ.back rfl rfl K L ?_;refine Ξ.ZM (ZT (a _)) rfl ?_;(repeat (first|refine Ξ.seq (ZT (a _)) rfl ?_|refine Ξ.block (ZT (a _)) rfl ?_|refine Ξ.inBlock (ZT (a _)) rfl ?_|refine Ξ.skip (ZT (a _)) rfl ?_|refine Ξ.Ub (ZT (a _)) rfl rfl ?_|refine Ξ.Ua (ZT (a _)) rfl rfl ?_|(refine Ξ.region (ZT (a _)) rfl Τ rfl (by simp[Frame.enter]) λi b=>?_;(try simp);(repeat (refine W4 ?_;simp[h,l]));refine b _ ?_)));refine Ξ.loop (ZT (a _)) rfl ?_;(repeat (first|refine Ξ.seq (ZT (a _)) rfl ?_|refine Ξ.block (ZT (a _)) rfl ?_|refine Ξ.inBlock (ZT (a _)) rfl ?_|refine Ξ.skip (ZT (a _)) rfl ?_|refine Ξ.Ub (ZT (a _)) rfl rfl ?_|refine Ξ.Ua (ZT (a _)) rfl rfl ?_|(refine Ξ.region (ZT (a _)) rfl Τ rfl (by simp[Frame.enter]) λi b=>?_;(try simp);(repeat (refine W4 ?_;simp[h,l]));refine b _ ?_)));refine Ξ.Zt (ZT (a _)) rfl ?_;refine Ξ.part (ZT (a _)) rfl Τ rfl (by simp[Frame.enter]) [0,1,2] [3] rfl λi b=>?_;(repeat (refine W4 ?_;simp[h]));refine b _ ?_;refine Ξ.xQ (a _) (sp:=sp) j.spec (by rw[Zx];exact id) (vs:=[ptr s 1,.bool false,.int .i64 0]) rfl ⟨⟨rfl,rfl,by simp[Frame.enter],rfl⟩,yr,⟨_,rfl⟩,rfl,rfl,rfl⟩ λW p P=>?_;have r:=P.VX.Qw;rw[Zx] at r;refine⟨by have:=r.Y5;omega,{p with Y5:=p.Y5+1},.ch k .done .gone,rfl,rfl,⟨rfl,rfl,rfl⟩,by rw[Zx];exact .C3,λX Y=>?_⟩;rw[W6];refine Ξ.leaves (d:=1) j.rel j.gone rfl ?_;refine Ξ.ZM Yy rfl ?_;(repeat (first|refine Ξ.seq Yy rfl ?_|refine Ξ.block Yy rfl ?_|refine Ξ.inBlock Yy rfl ?_|refine Ξ.skip Yy rfl ?_|refine Ξ.Ub Yy rfl rfl ?_|refine Ξ.Ua Yy rfl rfl ?_|(refine Ξ.region Yy rfl Τ rfl (by simp[Frame.enter]) λi b=>?_;(try simp);(repeat (refine W4 ?_;simp[h,JZ]));refine b _ ?_)));refine Ξ.inLoop Yy rfl ?_;(repeat (first|refine Ξ.seq Yy rfl ?_|refine Ξ.block Yy rfl ?_|refine Ξ.inBlock Yy rfl ?_|refine Ξ.skip Yy rfl ?_|refine Ξ.Ub Yy rfl rfl ?_|refine Ξ.Ua Yy rfl rfl ?_|(refine Ξ.region Yy rfl Τ rfl (by simp[Frame.enter]) λi b=>?_;(try simp);(repeat (refine W4 ?_;simp[h,JZ]));refine b _ ?_)));refine Ξ.exit Yy rfl rfl ?_;exact Ξ.xP rfl rfl rfl rfl func140 rfl PQ u
structure EI (x:γ) (s:Nat) (sp:Spec):Prop where
 rel:x.rel=false
 η:x.η=λ_=>none
 spec:x.spec s=some sp
 top:sp.top<7
 shut:∀a,a≠s->Xy (x.tok a)
theorem xG {x:γ} {H:Ψ} (g:EI x s sp) (R:sp.D k Ψ.empty) (n:c.mode=.returning) (K:U4 prog 0 (Go.Conc.G c rest)) :
  Zq prog Q false (ZR x s (.ch k .done .work) v 0) (Frame.enter prog 142 #[ptr s 0] .deferred) (c::rest) H:=by
 letI:ZS:=Yo;have r:∀t v d,Seq (one (ZR x s t v d)):=λt v d=>Seq.PS trivial g.rel g.η;have h:R0 (NN x) s sp:=⟨rfl,g.spec,g.top,g.shut⟩;have b:∀v d,Yc (ZR (NN x) s (.ch k .done .rel) v d):=λv d=>h.here J;have A:∀v d,Yc (ZR (NN x) s (.ch k .done .l2) v d):=λv d=>h.here J;rw[Sc (body:=f142.body.getD .skip) func142 rfl];refine V.here (x:=one _) (m:=0) (nt:=4) (S:=X0) (B:=[]) (σ:=[]) (env:=entry 0 [.z (ptr s 0)]) ?_ (XN.enter (NR H) ⟨rfl,λi a v C L=>?_⟩ (ZO _) J) _ rfl
 .refine V.XK (r _ _ _) rfl ?_;simp only[f142,Option.getD_some];refine Y' ?_;refine W.Zt ?_;refine XW [0] [1] ?_;refine W.stop ?_;refine V.call (r _ _ _) ⟨rfl,rfl,by simp[Frame.enter],rfl⟩ rfl rfl rfl ⟨_,func140,rfl,rfl⟩ λab T ad t1 ae af j hv=>?_;obtain rfl:=Ug (l:=[ptr s 0,.int .i64 (-1)]) hv;obtain rfl:T=[]:=YV.1 j.holds.len;rintro y rfl;refine V.R7 (z:=one _) (vs:=[ptr s 0,.int .i64 (-1)]) func140 rfl j.holds (by simp[ntmps140]) ?_ _ rfl;refine V.XK (r _ _ _) rfl ?_;refine WR ?_;refine W.Zt ?_;refine XW [0] [1,2] ?_;refine W.stop ?_;refine V.conv (r _ _ _).here (sp:=sp) g.spec (by rw[Zx];exact id) ⟨rfl,rfl,by simp[Frame.enter],rfl⟩ rfl rfl rfl Ij PO Ii rfl (λe w ag X=>⟨_,X.TR⟩) (λφ e ah=>?_);unfold Wx;rw[Vt];refine V.Jm g.rel (sp:=sp) g.spec (.inl rfl) g.shut R ⟨⟨rfl,rfl,by simp[Frame.enter],rfl⟩,Fe,⟨_,rfl⟩,rfl,rfl,rfl⟩ J ?_;refine Ξ.ZM (ZT (b _ _)) rfl ?_;(repeat (first|refine Ξ.seq (ZT (b _ _)) rfl ?_|refine Ξ.block (ZT (b _ _)) rfl ?_|refine Ξ.inBlock (ZT (b _ _)) rfl ?_|refine Ξ.skip (ZT (b _ _)) rfl ?_|refine Ξ.Ub (ZT (b _ _)) rfl rfl ?_|refine Ξ.Ua (ZT (b _ _)) rfl rfl ?_|(refine Ξ.region (ZT (b _ _)) rfl Τ rfl (by simp[Frame.enter]) λo f=>?_;(try simp);(repeat (refine W4 ?_;simp[n]));refine f _ ?_)));refine Ξ.Zt (ZT (b _ _)) rfl ?_;refine Ξ.disable (b _ _) ⟨⟨rfl,rfl,by simp[Frame.enter],rfl⟩,Mv,⟨_,rfl⟩,rfl,rfl,rfl⟩ ?_;rw[My];refine Ξ.ZM (ZT (b _ _)) rfl ?_;refine Ξ.Zt (ZT (b _ _)) rfl ?_;refine Ξ.It (ZT (b _ _)) rfl ⟨rfl,rfl,by simp[Frame.enter],rfl⟩ rfl rfl rfl ?_;refine Ξ.ZM (ZT (b _ _)) rfl ?_;(repeat (first|refine Ξ.seq (ZT (b _ _)) rfl ?_|refine Ξ.block (ZT (b _ _)) rfl ?_|refine Ξ.inBlock (ZT (b _ _)) rfl ?_|refine Ξ.skip (ZT (b _ _)) rfl ?_|refine Ξ.Ub (ZT (b _ _)) rfl rfl ?_|refine Ξ.Ua (ZT (b _ _)) rfl rfl ?_|(refine Ξ.region (ZT (b _ _)) rfl Τ rfl (by simp[Frame.enter]) λo f=>?_;(try simp);(repeat (refine W4 ?_;simp[n]));refine f _ ?_)));refine Ξ.Zt (ZT (b _ _)) rfl ?_;refine Ξ.J9 (ZT (b _ _)) rfl ⟨rfl,rfl,by simp[Frame.enter],rfl⟩ rfl rfl rfl Fc ?_;refine Ξ.ZM (ZT (b _ _)) rfl ?_;(repeat (first|refine Ξ.seq (ZT (b _ _)) rfl ?_|refine Ξ.block (ZT (b _ _)) rfl ?_|refine Ξ.inBlock (ZT (b _ _)) rfl ?_|refine Ξ.skip (ZT (b _ _)) rfl ?_|refine Ξ.Ub (ZT (b _ _)) rfl rfl ?_|refine Ξ.Ua (ZT (b _ _)) rfl rfl ?_|(refine Ξ.region (ZT (b _ _)) rfl Τ rfl (by simp[Frame.enter]) λo f=>?_;(try simp);(repeat (refine W4 ?_;simp[n]));refine f _ ?_)));refine Ξ.Zt (ZT (b _ _)) rfl ?_;refine Ξ.part (ZT (b _ _)) rfl Τ rfl (by simp[Frame.enter]) [0,1,2,3,4,5] [6,7] rfl λo f=>?_;(repeat (refine W4 ?_;simp[xM,xO,xN]));refine f _ ?_;refine Ξ.call (ZT (b _ _)) rfl ⟨rfl,rfl,by simp[Frame.enter],rfl⟩ rfl rfl (vs:=[ptr s 0,.int .u64 18446744069414584320]) rfl func166 rfl rfl (by simp[ntmps166]) λt2 M N=>?_;refine xI h (λv=>b v 1) id λφ e O=>?_;have u:=O.VX.Qw;rw[Zx] at u;have ai:1<=e.cnt:=u.live;have aj:=h.J0 O.spec;have ak:=u.cnt;have al:=u.wt;obtain⟨cc,E⟩:=Z8 (e.cnt-1);have p:e.cnt<8/\0<e.cnt/\cc<8/\e.wt<2:=U;have P:Zc {e with cnt:=cc}=u64.wrap (Zc e+18446744069414584320):=by
   rw[PN,PN,x9 e.cnt p.1 e.wt p.2.2.2 p.2.1,E]
  by_cases F:e.cnt=1/\e.wt=1
  .have Y:cc=0:=U
   refine⟨{e with cnt:=cc},.ch k .done .l2,P,rfl,⟨rfl,rfl,rfl⟩,by rw[E];exact .C6 F.1 F.2,λZ aa=>.inl ⟨λv=>A v 1,?_⟩⟩;have I:Zc {e with cnt:=cc}=Wz 0 1:=by rw[PN,Y];simp only[F.2]
   rw[I];refine Ξ.back rfl rfl M N ?_;refine Ξ.part (ZT (A _ _)) rfl Τ rfl (by simp[Frame.enter]) [7] [] rfl λo f=>?_;(repeat (refine W4 ?_;simp));refine f _ ?_;refine Ξ.ZM (ZT (A _ _)) rfl ?_;refine xH h ?_ rfl rfl rfl rfl;exact Ξ.back (nt:=4) rfl rfl j.size (Mr J j.Zr) (Ξ.ZM Yy rfl (Ξ.EJ rfl rfl rfl rfl func142 rfl n K))
  .refine⟨{e with cnt:=cc},.ch k .done .gone,P,rfl,⟨rfl,rfl,rfl⟩,by rw[E];exact .C5 U,λZ aa=>.inr ⟨h.gone,?_⟩⟩;have I:Zc {e with cnt:=cc}=Wz cc e.wt:=rfl;rw[I];refine Ξ.back rfl rfl M N ?_;refine Ξ.part Yy rfl Τ rfl (by simp[Frame.enter]) [7] [] rfl λo f=>?_;(repeat (refine W4 ?_;simp));refine f _ ?_;refine Ξ.ZM Yy rfl ?_;refine xL ?_ (cc:=cc) (w0:=e.wt) p.2.2.1 p.2.2.2 U rfl rfl rfl rfl;exact Ξ.back (nt:=4) rfl rfl j.size (Mr J j.Zr) (Ξ.ZM Yy rfl (Ξ.EJ rfl rfl rfl rfl func142 rfl n K))
 .cases i with
  | zero=>simp at C L;subst C;subst L;exact .z _
  | succ i=>simp at C
end
end Go.TL
namespace Go.TL
open Go.IntKind (i32 i64 u32 u64)
open Go.Proofs.Tryz
open Go.Conc
open Go.ConcN (upd)
def Rj (S:Α) (H:Ψ):Ψ:={H with ς:=λb o=>match S b o with|some v=>some (v,false)|none=>H.ς b o}
def T' (S:Α):Ψ:=⟨λb o=>(S b o).map (·,false),λ_=>none,λ_=>none⟩
def Α.plus (S T:Α):Α:=λb o=>match S b o with|some v=>some v|none=>T b o
structure TE (a:Nat) (c:Α) (E:Ψ):Prop where
 ς:∀b o x,E.ς b o=some x->c b o≠none\/a<b
 row:∀b x,E.row b=some x->a<b
 obj:∀b x,E.obj b=some x->a<b
def NM (r:Row):Prop:=∃t k l,r=.cells t k l
section
variable {S YI UD PK X5:Α} {B B':θ} {σ σ':Υ} {H H' RZ E G:Ψ} {β:Nat}
theorem Mn {b o:Nat} {v:Value} (h:S b o=some v):(Rj S H).ς b o=some (v,false):=by simp only[Rj,h]
theorem H5 {b o:Nat} (h:S b o=none):(Rj S H).ς b o=H.ς b o:=by simp only[Rj,h]
theorem H4 {b o:Nat} {v:Value} (h:S b o=some v):(T' S).ς b o=some (v,false):=by simp only[T',h];rfl
theorem JV {b o:Nat} {x:Value×Bool} (h:(T' S).ς b o=some x):∃v,S b o=some v/\x=(v,false):=by
 cases a:S b o with
 | none=>simp[T',a] at h
 | some v=>exact⟨v,rfl,by simp[T',a] at h;exact h.symm⟩
theorem Mm {b o:Nat} {v:Value} (h:S b o=some v):S.plus UD b o=some v:=by simp only[Α.plus,h]
theorem JU {b o:Nat} (h:S b o=none):S.plus UD b o=UD b o:=by simp only[Α.plus,h]
theorem join_some {b o:Nat} {x:Value×Bool} (h:H.ς b o=some x):(join H E).ς b o=some x:=by simp only[join,h]
theorem join_none {b o:Nat} (h:H.ς b o=none):(join H E).ς b o=E.ς b o:=by simp only[join,h]
theorem xF {b:Nat} {x:TypeId×Nat} (h:(join H E).row b=some x):H.row b=some x\/E.row b=some x:=by
 cases a:H.row b with
 | none=>simp only[join,a] at h;exact .inr h
 | some y=>simp only[join,a] at h;exact .inl h
theorem xE {b:Nat} {x:Obj} (h:(join H E).obj b=some x):H.obj b=some x\/E.obj b=some x:=by
 cases a:H.obj b with
 | none=>simp only[join,a] at h;exact .inr h
 | some y=>simp only[join,a] at h;exact .inl h
theorem xD (f:Holds S [] [] H):Split H (Rj S H) (T' S):=by
 refine⟨⟨λb o v p h=>?_,λb x h=>h,λb x h=>h⟩,⟨λb o v p h=>?_,λb x h=>(by cases h),λb x h=>(by cases h)⟩,⟨λb o ⟨v,h⟩ ⟨x,k⟩=>?_,λb o ⟨v,h⟩ _=>?_,λb _ ⟨x,h⟩=>(by cases h)⟩⟩
 .cases a:S b o with
  | some u=>
   rw[Mn a] at h;cases h;obtain⟨c,d⟩:=f.YX b o _ a;exact⟨c,d,λe=>by cases e⟩
  | none=>rw[H5 a] at h;exact⟨p,h,id⟩
 .obtain⟨u,a,e⟩:=JV h;cases e;obtain⟨c,d⟩:=f.YX b o _ a;exact⟨c,d,λe=>by cases e⟩
 .obtain⟨u,a,e⟩:=JV k;rw[Mn a] at h;cases h
 .obtain⟨u,a,e⟩:=JV h;cases e
theorem xC (a:Holds S [] [] H):Holds S [] [] (Rj S H):=
 ⟨λb o v h=>⟨false,Mn h⟩,rfl,λid r bo h=>by simp at h,λi j c d b e f _ h=>by simp at h,λid r b N h=>by simp at h⟩
theorem xB:Holds S [] [] (T' S):=
 ⟨λb o v h=>⟨false,H4 h⟩,rfl,λid r bo h=>by simp at h,λi j a c b d e _ h=>by simp at h,λid r b N h=>by simp at h⟩
theorem xA (f:Holds S [] [] H):Ext S [] H S [] (Rj S H):=by
 refine⟨λ_ _ _ h=>h,λb _ _=>⟨λo=>?_,rfl,rfl⟩,λb h=>.inl h,λb o v h=>.inl h,λb h=>?_⟩
 .cases a:S b o with
  | none=>exact .inl (H5 a)
  | some v=>
   obtain⟨p,g⟩:=f.YX b o v a;exact .inr ⟨v,p,rfl,g,Mn a⟩
 .have d:∀b o,(Rj S H).ς b o=none->H.ς b o=none:=λb o h=>by
   cases a:S b o with
   | none=>rw[H5 a] at h;exact h
   | some v=>rw[Mn a] at h;cases h
  exact⟨λo=>d b o (h.1 o),h.2.1,h.2.2.1,λc e=>⟨λo=>d c o ((h.2.2.2 c e).1 o),(h.2.2.2 c e).2⟩⟩
theorem Holds.QU (a:Holds S B σ H) (c:∀b,¬H.fresh b->Vj H H' b) (k:∀b,H'.fresh b->H.fresh b):Holds S B σ H'/\Ext S B H S B H':=by
 have l:∀b o x,H.ς b o=some x->¬H.fresh b:=λb o x h d=>by rw[d.1 o] at h;cases h
 refine⟨⟨λb o v h=>?_,a.len,λid r bo f g=>?_,a.inj,a.sep⟩,⟨λ_ _ _ h=>h,λb _ d=>TN.of (c b d),λb h=>.inl h,λb o v h=>.inl h,k⟩⟩
 .obtain⟨p,i⟩:=a.YX b o v h;exact⟨p,by rw[(c b (l b o _ i)).1];exact i⟩
 .by_cases j:r.live
  .refine(a.row id r bo f g).later (ZC.refl S B σ) (λb N e=>c b (a.Tt f j (by rw[g,e]))) λm left t e=>?_;subst e;obtain⟨_,_,u,w,xs,y,seen,_,A,⟨es,n⟩,_⟩:=a.row id _ bo f g;exact⟨rfl,rfl,λb N s=>c b (a.Tt n trivial s)⟩
  .cases r<;>first|exact absurd trivial j|trivial
theorem Ext.QU (h:Ext X0 [] H YI [] H') {b:Nat} (a:¬H.fresh b):Vj H H' b:=(h.XH b (λ⟨N,x⟩=>by simp at x) a).QU λ_=>rfl
theorem EH {w:World} (c:Fits H w) (d:Fits E w) {b o:Nat} {u v:Value} {p q:Bool} (h:H.ς b o=some (u,p)) (k:E.ς b o=some (v,q)):u=v:=by
 have a:=c.ς b o u p h;rw[d.ς b o v q k] at a;exact(WM a).symm
theorem xz {w:World} (e:Fits H w) (l:Fits E w) (m:Apart H E) {b N:Nat} {t:TypeId} (g:E.row b=some (t,N)) (n:∀o,o<N->∃v,E.ς b o=some (v,true)):(∀o,H.ς b o=none)/\Vj E (join H E) b:=by
 obtain⟨c,f,p⟩:=l.row b t N g;have h:∀o,H.ς b o=none:=λo=>by
  cases a:H.ς b o with
  | none=>rfl
  | some x=>
   have i:=e.ς b o x.1 x.2 a;by_cases j:o<N
   .exact absurd ⟨x,a⟩ (m.RR b o (n o j))
   .simp only[World.cell?,f] at i;simp[p,j] at i
 refine⟨h,λo=>join_none (h o),?_,?_⟩
 .cases a:H.row b with
  | none=>simp only[join,a]
  | some x=>
   obtain⟨c',d,k⟩:=e.row b x.1 x.2 a;rw[f] at d;cases d;simp only[join,a,g];obtain⟨r,s⟩:=x
   simp_all
 .cases a:H.obj b with
  | none=>simp only[join,a]
  | some x=>
   obtain⟨d,k⟩:=e.obj b x a;rw[f] at d;cases d;simp[Obj.Q3] at k
theorem EG (i:Holds S [] [] H) (f:Holds UD B σ E) (C:Apart H E) (D:∃w,Fits H w/\Fits E w) (y:∀r∈σ,NM r) :
  Holds (S.plus UD) B σ (join H E)/\ZC S (S.plus UD) [] B [] σ/\ZC UD (S.plus UD) B B σ σ:=by
 obtain⟨w,j,n⟩:=D;have st:∀b o v,UD b o=some v->S.plus UD b o=some v:=λb o v h=>by
  cases a:S b o with
  | none=>rw[JU a];exact h
  | some u=>
   obtain⟨p,c⟩:=i.YX b o u a;obtain⟨q,F⟩:=f.YX b o v h;rw[Mm a,EH j n c F]
 have l1:ZC S (S.plus UD) [] B [] σ:=⟨λb o v h=>Mm h,λid r h=>by simp at h⟩
 have l2:ZC UD (S.plus UD) B B σ σ:=⟨st,λid r h=>⟨r,h,r.QW _⟩⟩
 have A:∀(id:Nat) (r:Row) (b N:Nat),σ[id]?=some r->B[id]?=some (some (b,N))->(∀o,H.ς b o=none)/\Vj E (join H E) b:=λid r b N d I=>by
  obtain⟨t,k,l,rfl⟩:=y r (Zk d);obtain⟨J,_,Χ,_⟩:=f.row id _ _ d I;exact xz j n C J Χ
 refine⟨⟨λb o v h=>?_,f.len,λid r bo d g=>?_,f.inj,λid r b N d K g o=>?_⟩,l1,l2⟩
 .cases a:S b o with
  | some u=>
   rw[Mm a] at h;cases h;obtain⟨p,c⟩:=i.YX b o _ a;exact⟨p,join_some c⟩
  | none=>
   rw[JU a] at h;obtain⟨p,c⟩:=f.YX b o v h;cases s:H.ς b o with
   | none=>exact⟨p,by rw[join_none s];exact c⟩
   | some x=>
    obtain⟨u,q⟩:=x;have:=EH j n s c;subst this;exact⟨q,join_some s⟩
 .refine(f.row id r bo d g).later l2 (λb N e=>(A id r b N d (by rw[g,e])).2) λm left M e=>?_;subst e;obtain⟨t,k,l,e⟩:=y _ (Zk d);cases e
 .have L:=(A id r b N d g).1 o;cases a:S b o with
  | some u=>
   obtain⟨p,c⟩:=i.YX b o u a;rw[L] at c;cases c
  | none=>rw[JU a];exact f.sep id r b N d K g o
theorem H3 {o:Nat} {x:Value×Bool} (a:G.ς β o=some x) {b:Nat} (c:G.fresh b):β<b:=by
 by_cases e:β<b
 .exact e
 .rcases OB b β with h|h
  .have:=(c.2.2.2 β h).1 o;rw[a] at this;cases this
  .obtain rfl:β=b:=U
   rw[c.1 o] at a;cases a
theorem H2 {b:Nat} (a:G.fresh β) (h:β<b):G.fresh b:=
 ⟨(a.2.2.2 b h).1,(a.2.2.2 b h).2.1,(a.2.2.2 b h).2.2,λc d=>a.2.2.2 c (Nat.lt_trans h d)⟩
theorem xy (a:∀b o v,S b o=some v->X5 b o≠none\/β<b):TE β X5 (T' S):=
 ⟨λb o x h=>let ⟨v,c,_⟩:=JV h;a b o v c,λb x h=>(by cases h),λb x h=>(by cases h)⟩
theorem TE.join (h:TE β X5 G) (k:TE β X5 E):TE β X5 (join G E):=by
 refine⟨λb o x a=>?_,λb x a=>(xF a).elim (h.row b x) (k.row b x),λb x a=>(xE a).elim (h.obj b x) (k.obj b x)⟩;cases c:G.ς b o with
 | none=>rw[join_none c] at a;exact k.ς b o x a
 | some y=>exact h.ς b o y c
theorem TE.ext (h:TE β X5 G) {G':Ψ} (f:Ext S B G YI B' G') (g:∀b,B.has b->β<b) {o:Nat} {x:Value×Bool} (i:G.ς β o=some x):TE β X5 G':=by
 have d:∀b,¬β<b->TN S G G' b:=λb a=>f.XH b (λk=>a (g b k)) λk=>a (H3 i k);refine⟨λb o x c=>?_,λb x c=>?_,λb x c=>?_⟩
 .by_cases a:β<b
  .exact .inr a
  .rcases(d b a).1 o with e|⟨v,p,_,e,_⟩
   .rw[e] at c;exact h.ς b o x c
   .exact h.ς b o _ e
 .by_cases a:β<b
  .exact a
  .rw[(d b a).2.1] at c;exact h.row b x c
 .by_cases a:β<b
  .exact a
  .rw[(d b a).2.2] at c;exact h.obj b x c
theorem EF {G':Ψ} (b:Ext S B G YI B' G') (c:¬B.has β) (d:∃o x,G.ς β o=some x):∃o x,G'.ς β o=some x:=by
 obtain⟨o,x,a⟩:=d;rcases(b.XH β c (λf=>by rw[f.1 o] at a;cases a)).1 o with e|⟨v,p,_,_,e⟩
 .exact⟨o,x,by rw[e];exact a⟩
 .exact⟨o,_,e⟩
theorem TE.blocks (h:TE β X5 E) (c:Holds UD B σ E) (f:∀r∈σ,NM r) {b:Nat} (g:B.has b):β<b:=by
 obtain⟨N,i⟩:=g;obtain⟨id,d⟩:=S3 i;have j:id<σ.length:=by rw[<-c.len];exact(ZD.1 d).1
 have a:=ε j;obtain⟨t,k,l,e⟩:=f _ (Zk a);rw[e] at a;exact h.row b _ (c.row id _ _ a d).1
theorem xx (g:Ext PK [] RZ S [] H) (l:∀b o v,X5 b o=some v->S b o=some v) (j:RZ.fresh β) (hi:TE β X5 E) (t:Holds S [] [] H) (m:Holds UD B σ E) (w:∀r∈σ,NM r) :
  Ext PK [] RZ (S.plus UD) B (join H E):=by
 have A:∀b,¬θ.has ([]:θ) b:=λb ⟨N,h⟩=>by simp at h
 have C:∀b,¬RZ.fresh b->¬β<b:=λb h k=>h (H2 j k)
 have D:∀b,¬β<b->∀o,(join H E).ς b o=H.ς b o:=λb d o=>by
  cases a:H.ς b o with
  | some x=>rw[join_some a]
  | none=>
   rw[join_none a];cases F:E.ς b o with
   | none=>rfl
   | some y=>
    rcases hi.ς b o y F with k|k
    .cases e:X5 b o with
     | none=>exact absurd e k
     | some v=>
      obtain⟨p,i⟩:=t.YX b o v (l b o v e);rw[a] at i;cases i
    .exact absurd k d
 refine⟨λb o v h=>Mm (g.YX b o v h),λb _ n=>?_,λb d=>.inr (H2 j (hi.blocks m w d)),λb o v h=>?_,λb h=>g.grow b ?_⟩
 .have d:=C b n;obtain⟨I,J,K⟩:=g.XH b (A b) n;refine⟨λo=>by rw[D b d o];exact I o,?_,?_⟩
  .cases a:E.row b with
   | none=>rw[<-J];simp only[join,a];cases H.row b<;>rfl
   | some x=>exact absurd (hi.row b x a) d
  .cases a:E.obj b with
   | none=>rw[<-K];simp only[join,a];cases H.obj b<;>rfl
   | some x=>exact absurd (hi.obj b x a) d
 .cases e:S b o with
  | some u=>rw[Mm e] at h;cases h;exact g.RF b o _ e
  | none=>
   rw[JU e] at h;obtain⟨p,i⟩:=m.YX b o v h;rcases hi.ς b o _ i with k|k
   .cases s:X5 b o with
    | none=>exact absurd s k
    | some u=>rw[l b o u s] at e;cases e
   .exact .inr (.inr (H2 j k))
 .have c:∀b o,(join H E).ς b o=none->H.ς b o=none:=λb o h=>by
   cases a:H.ς b o with
   | none=>rfl
   | some x=>rw[join_some a] at h;cases h
  have r:∀b,(join H E).row b=none->H.row b=none:=λb h=>by
   cases a:H.row b with
   | none=>rfl
   | some x=>simp only[join,a] at h;cases h
  have o:∀b,(join H E).obj b=none->H.obj b=none:=λb h=>by
   cases a:H.obj b with
   | none=>rfl
   | some x=>simp only[join,a] at h;cases h
  exact⟨λo'=>c b o' (h.1 o'),r b h.2.1,o b h.2.2.1,λf d=>⟨λo'=>c f o' ((h.2.2.2 f d).1 o'),r f (h.2.2.2 f d).2.1,o f (h.2.2.2 f d).2.2⟩⟩
end
end Go.TL
namespace Go.TL
open Go.IntKind (i32 i64 u32 u64)
open Go.Proofs.Tryz
open Go.Conc Go.Proofs
open Go.ConcN (sumTo upd sumTo_upd upd_ne upd_same sumTo_congr le_sumTo)
noncomputable def under (P:Program):Frame:={(default:Frame) with fn:=P.funcs.size,defers:=[],mode:=.panicking [goexitEntry]}
theorem xw {P:Program} {g:FuncId} {cap:Array Value} (b:Plain P g) (w:World):stepG P false (born P ⟨.fn (.func g) cap,#[]⟩) w=.go (Go.Conc.G (Frame.enter P g cap .deferred) [under P]) w #[]:=by
 obtain⟨fn,c,d,a⟩:=b;have f:¬fn.name = "runtime.NumGoroutine" := by simpa using d
 have h:¬fn.body=none:=by intro e;rw[e] at a;cases a
 simp[born,stepG,unwind,callDeferred,invoke,callFunc,c,f,h,seen,GStep.after,Go.Conc.G,under]
theorem xv {P:Program} {b:Frame} {fn:Func} (a:P.funcs[b.fn]?=some fn) (c:fn.results=#[]) (d:b.defers=[]) (e:b.mode=.returning) (f:b.kind=.deferred):U4 P 0 (Go.Conc.G b [under P]):=by
 refine⟨2,QuitsD.ctl (g':=Go.Conc.G (under P) []) rfl (λw=>?_) ?_⟩
 .simp[Go.Conc.G,stepG,unwind,e,d,a,doReturn,results,c,f,under,seen,GStep.after,goexitEntry]
 .refine QuitsD.ctl (g':={Go.Conc.G (under P) [] with status:=.finished}) rfl (λw=>?_) ⟨rfl,rfl⟩;simp[Go.Conc.G,stepG,unwind,under,goexitEntry,Frame.catches];rfl
def Qu (l:ψ):I:=if l.isEmpty then .sl true 0 [] else .ms 1 l.length 0 l.length
def Xc (l:ψ):Υ:=.cells 99 1 [Qu l]::ZY 110 3 l
theorem H0:Qu []=.sl true 0 []:=rfl
theorem JS {l:ψ} (h:l≠[]):Qu l=.ms 1 l.length 0 l.length:=by unfold Qu;rw[if_neg (by simpa using h)]
theorem EE {l:ψ} {x:I}:Qu (l++[x])=.ms 1 (l.length+1) 0 (l.length+1):=by rw[JS J];simp
theorem JR (l:ψ):∀r∈Xc l,NM r:=by
 intro r h;unfold Xc ZY at h;rcases YZ.1 h with rfl|h
 .exact⟨_,_,_,rfl⟩
 .split at h
  .cases h
  .simp at h;subst h;exact⟨_,_,_,rfl⟩
def OP (a:Nat) (b:Α) (o:Nat) (fd:Nat->Option Found) (L:List Nat) (E:Ψ):Prop:=
 TE a b E/\∃S B,Holds S B (Xc ((L.filterMap fd).map Y0)) E/\B[0]?=some (some (o,1))
theorem xu {S c:Α} {B B':θ} {l b:ψ} {m:Nat} (h:ZC S c (B.take m) B' ((Xc l).take m) (Xc b)) (f:0<m):B'[0]?=B[0]?:=by
 obtain⟨m,rfl⟩:∃k,m=k+1:=⟨m-1,U⟩;obtain⟨r',d,e⟩:=h.rows 0 (.cells 99 1 [Qu l]) (by simp[Xc]);have:r'=.cells 99 1 [Qu b]:=by simpa[Xc] using d.symm
 subst this;rcases e with⟨l2,_,_,a⟩|a
 .simpa[PB] using a
 .have:=a 1 J;simp[Row.W0] at this
section
variable {β s m o k:Nat} {S X5:Α} {fd:Nat->Option Found} {sp:Spec} {XA:ο} {a b:Int} {v1 v2 NL:Value} {f:Found} {n:Nat}
abbrev UC (s:Nat) (sp:Spec):γ:=⟨Ψ.empty,λ_=>none,λ_=>.nil,upd (λ_=>none) s (some sp),λ_=>none,0,false⟩
abbrev JQ (s m o:Nat) (v1 v2 NL:Value):Array Value:=#[ptr s 0,v1,v2,NL,ptr m 0,ptr o 0]
abbrev HZ (s m o:Nat) (XA:ο) (a b:Int):ψ:=[.z (ptr s 0),ZW XA,.Ε [R a],.Ε [R b],.z (ptr m 0),.z (ptr o 0)]
theorem ED:(UC s sp).spec s=some sp:=upd_same (λ_=>(none:Option Spec)) s (some sp)
theorem EC (a:sp.Z0=some m) (b:sp.top<7):VW (UC s sp) s m sp:=⟨rfl,rfl,ED,a,b,λ_ _=>trivial⟩
theorem xr (a:sp.top<7):EI (UC s sp) s sp:=⟨rfl,rfl,ED,a,λ_ _=>trivial⟩
theorem xq (n:sp.Z0=some m) (d:sp.top<7) (e:sp.D k Ψ.empty) {f:Value->Prop} {c:Frame} {H:Ψ} {v:Option (Nat×ν)} {d1:Deferred} (a:OZ prog d1 142 #[ptr s 0])
  (b:c.mode=.returning) (g:c.defers=[d1]) (h:c.kind=.deferred) (i:c.fn=141):Zq prog f false (ZR (UC s sp) s (.ch k .done .work) v 0) c [under prog] H:=by
 letI:ZS:=Yo;have j:Seq (one (ZR (UC s sp) s (.ch k .done .work) v 0)):=Seq.PS trivial rfl rfl;refine ξ.deferred (x:=one _) j (by rw[b];simp) g a.t1 a.t2 a.run (λy l=>?_) _ rfl;cases l;refine xG (xr d) e b ?_;exact xv (fn:=f141) (by rw[i];exact func141) rfl rfl b h
theorem xp (g:sp.Z0=some m) (i:sp.top<7) (n:sp.Yi=OP β X5 o fd) (p:sp.D k Ψ.empty) {r:Value->Prop} {c:Frame} {t:Α} {d:θ} {a:Ψ} {L:List Nat} {v:Option (Nat×ν)} {d1 d2:Deferred}
  (u:OZ prog d1 142 #[ptr s 0]) (e:OZ prog d2 145 #[ptr m 0]) (f:c.mode=.returning) (w:c.defers=[d2,d1]) (A:c.kind=.deferred) (B:c.fn=141)
  (j:Holds t d (Xc (((L++[k]).filterMap fd).map Y0)) a) (C:d[0]?=some (some (o,1))) (hi:TE β X5 a) (E:∃q x,a.ς β q=some x) :
  Zq prog r false (ZR (UC s sp) s (.ch k (.YT L) .work) v 0) c [under prog] a:=by
 letI:ZS:=Yo;have F:Seq (one (ZR (UC s sp) s (.ch k (.YT L) .work) v 0)):=Seq.PS trivial rfl rfl;refine ξ.deferred (x:=one _) F (by rw[f];simp) w e.t1 e.t2 e.run (λy H=>?_) _ rfl;cases H;refine ya (x:=UC s sp) (s:=s) (c:={c with defers:=[d1]}) (EC g i) j f λI J l K=>⟨Ψ.empty,J,⟨Sub.empty _,Sub.refl _,(Apart.Qe _).symm⟩,?_,λv2 P Q _=>?_⟩
 .rw[n];obtain⟨M,R,S⟩:=j.back l K;obtain⟨q,x,O⟩:=E;exact⟨hi.ext l (λb ⟨N,h⟩=>by simp at h) O,I,d,M,C⟩
 .exact xq g i p u f rfl A B
end
section
variable {β s m o k:Nat} {S X5:Α} {fd:Nat->Option Found} {sp:Spec} {XA:ο} {a b:Int} {v1 v2 NL:Value} {f:Found} {n:Nat}
noncomputable abbrev xo (vs:Array Value) (ds:List Deferred):Frame:={Frame.enter prog 141 vs .deferred with defers:=ds}
noncomputable def JP:Code:=f141.body.getD .skip
theorem xn (al:sp.Z0=some m) (am:sp.top<7) (Y:sp.Yi=OP β X5 o fd) (an:sp.D k Ψ.empty) (ao:∀c:ZS,@Ν c prog 78 [Y0 f,R (-1)] (R n)) (Z:fd k=if 0<n then some f else none) {aa:Value->Prop}
  {r:Α} {H' E:Ψ} {L:List Nat} (ap:Holds r [] [] H') (ab:sp.Yi L E) (aq:Apart H' E) (ar:∃w,Fits H' w/\Fits E w) (au:((L.filterMap fd).map Y0).length<=4294967295) (av:TE β X5 H') (aw:∃q x,H'.ς β q=some x)
  {t:Array Value} (ad:YS r [] [] [(4,.z (ptr m 0)),(5,.z (ptr o 0)),(6,.Ε (Y0 f).cells)] t) (ax:t.size=20) {vs:Array Value} {d1:Deferred} (ay:OZ prog d1 142 #[ptr s 0]) {ops:Array Oper} :
  Zq prog aa false (ZR (UC s sp) s (.ch k (.YT L) .work) none 0) (Η (xo vs [d1]) t [.inRegion ops [],.code (YC [1,1,1] JP)]) [under prog] (join H' E):=by
 letI:ZS:=Yo;have v:Seq (one (ZR (UC s sp) s (.ch k (.YT L) .work) none 0)):=Seq.PS trivial rfl rfl;rw[Y] at ab;obtain⟨hi,H,C,M,ae⟩:=ab;obtain⟨l,I⟩:=Z8 ((L.filterMap fd).map Y0);have az:l.length<=4294967295:=I▸au;rw[<-I] at M;obtain⟨aA,l1,l2⟩:=EG ap M aq ar (JR l);have af:∀b,C.has b->β<b:=λb=>hi.blocks M (JR l);have aB:∃q x,(join H' E).ς β q=some x:=let ⟨q,x,h⟩:=aw;⟨q,x,join_some h⟩;have aC:t.getD 5 undef=ptr o 0:=by
  have:=ad 5;generalize t.getD 5 undef=u at this;cases this;rfl
 have aD:YS (r.plus H) C (Xc l) [(4,.z (ptr m 0)),(5,.Ο 0 1 0 0),(6,.Ε (Y0 f).cells)] t:=λi=>by
  have O:=(ad i).later l1;simp only[Z'] at O ⊢;by_cases ag:4=i
  .simpa[ag] using O
  by_cases ah:5=i
  .subst ah;simp only[show ¬4=5 by decide,if_false,if_true];rw[aC];have:=Θ.Ο (S:=r.plus H) (B:=C) (σ:=Xc l) (id:=0) (n:=1) (i:=0) (j:=0) (k:=1) (t:=99) (l:=[Qu l]) (b:=o) (N:=1) (by simp[Xc]) rfl ae;simpa using this
  .simpa[ag,ah] using O
 have ai:∀(J:ψ) (g:Α) (p:θ) (a:Ψ) (c:Frame) (d2:Deferred),J=((L++[k]).filterMap fd).map Y0->Ye 1 (r.plus H) C (join H' E) (Xc l) g p a (Xc J)->Holds g p (Xc J) a->OZ prog d2 145 #[ptr m 0]->
   c.mode=.returning->c.defers=[d2,d1]->c.kind=.deferred->c.fn=141->Zq prog aa false (ZR (UC s sp) s (.ch k (.YT L) .work) none 0) c [under prog] a:=λJ g p a c d2 e P aE K aF aG aH aI=>by
  subst e;obtain⟨q,x,aj⟩:=aB;exact xp al am Y an ay K aF aG aH aI aE (by rw[xu P.later U];exact ae) ((av.join hi).ext P.ext af aj) (EF P.ext (λh=>Nat.lt_irrefl _ (af β h)) ⟨q,x,aj⟩)
 refine V.here (x:=one _) (m:=1) (nt:=20) (S:=r.plus H) (B:=C) (σ:=Xc l) (env:=[(4,.z (ptr m 0)),(5,.Ο 0 1 0 0),(6,.Ε (Y0 f).cells)]) ?_ ⟨aA,aD,ax,by simp[Xc]⟩ _ rfl;refine V.XK v rfl ?_;refine W.ZM ?_;simp only[JP,f141,Option.getD_some,YC];refine Y' ?_;refine W.Zt (.stop ?_);refine V.defer v rfl rfl rfl rfl rfl rfl rfl ⟨_,func145,rfl,rfl⟩ λaM aN aO t3 d2 aP ak aJ aK K=>?_;obtain rfl:=Ug (l:=[ptr m 0]) aK;rintro y rfl;refine V.here (x:=one _) (m:=1) (nt:=20) ?_ aJ _ rfl;refine V.XK v rfl ?_;refine W.ZM ?_;refine ZB λaQ aL=>?_;refine Ν.d (ao _) (Z1 ?_);apply aL;by_cases Q:0<n
 .refine υ (by simp[Q]) ?_;refine W.Xv (A:=[19]) Τ [] (Xc (l++[Y0 f])) (.stop ?_) (by
   by_cases F:l=[]
   .subst F;(try simp);(repeat (rw[Μ];simp[Xc,H0,VY]));(try simp[Xc,H0,VY]);exact⟨rfl,rfl⟩
   ·(try simp);(repeat (rw[Μ];simp[Xc,JS F,Yz F,EE,Sa]));(try simp[Xc,JS F,Yz F,EE,Sa]);exact az)
  intro g p a t5 T X;refine ξ.QX v rfl rfl ?_;rintro y rfl;exact ai _ g p a _ d2 (by rw[List.filterMap_append,Xz,<-I];simp[Z,Q]) (ak.trans T) X.holds K rfl rfl rfl rfl
 .refine χ (by simp;omega) ?_;refine Y' ?_;refine W.stop ?_;intro g p a t5 T X;refine ξ.QX v rfl rfl ?_;rintro y rfl;exact ai _ g p a _ d2 (by rw[List.filterMap_append,Xz,<-I];simp[Z,Q]) (ak.trans T) X.holds K rfl rfl rfl rfl
theorem OO {S:Α} {B:θ} {σ:Υ} {env env':Ι} {t:Array Value} (h:YS S B σ env t) (a:∀p∈env',Z' env p.1=p.2):YS S B σ env' t:=by
 induction env' with
 | nil=>exact λi=>.Zw _
 | cons p l b=>
  intro i;simp only[Z'];split
  .rename_i e;have:=a p J;rw[<-this,e];exact h i
  .exact b (λq c=>a q (by simp[c])) i
theorem xm (i:sp.Z0=some m) (j:sp.top<7) (I:sp.Yi=OP β X5 o fd) (K:sp.D k Ψ.empty) (M:∀c:ZS,@Ν c prog 143 [Zd XA,Zo (a,b)] (Y0 f))
  (O:∀c:ZS,@Ν c prog 78 [Y0 f,R (-1)] (R n)) (P:fd k=if 0<n then some f else none) (Q:∀L:List Nat,L.Nodup->((L.filterMap fd).map Y0).length<=4294967295)
  (T:∃q v,S β q=some v) (U:∀b q v,S b q=some v->X5 b q≠none\/β<b) (X:X1 S [] [] (HZ s m o XA a b) (JQ s m o v1 v2 NL)) {p:Value->Prop} :
  Goes prog p false (born prog ⟨.fn (.func 141) (JQ s m o v1 v2 NL),#[]⟩) {ZR (UC s sp) s (.ch k .idle .work) none 0 with G:=T' S}:=by
 letI:ZS:=Yo;have e:Seq (one (ZR (UC s sp) s (.ch k .idle .work) none 0)):=Seq.PS trivial rfl rfl;refine Quiet.goes (.cons ⟨rfl,rfl⟩ (λw=>xw ⟨_,func141,rfl,rfl⟩ w) (.nil _)) (.inl rfl) ⟨rfl,rfl⟩ ?_;show Zq prog p false (ZR (UC s sp) s (.ch k .idle .work) none 0) (Frame.enter prog 141 (JQ s m o v1 v2 NL) .deferred) [under prog] (T' S);rw[Sc (body:=JP) func141 rfl];refine V.here (x:=one _) (m:=0) (nt:=20) (S:=S) (B:=[]) (σ:=[]) (env:=entry 0 (HZ s m o XA a b)) ?_ (XN.enter xB X (ZO _) J) _ rfl;refine V.XK e rfl ?_;simp only[JP,f141,Option.getD_some];refine Y' ?_;refine W.Zt (.stop ?_);refine V.defer e rfl rfl rfl rfl rfl rfl rfl ⟨_,func142,rfl,rfl⟩ λap Y aq t3 d1 ar Z t aa ab=>?_;obtain rfl:=Ug (l:=[ptr s 0]) aa;obtain rfl:Y=[]:=YV.1 t.holds.len;rintro y rfl;refine V.here (x:=one _) (m:=0) (nt:=20) ?_ t _ rfl;refine V.XK e rfl ?_;refine W.ZM ?_;refine Y' ?_;refine YR (A:=[6]) Τ λau ad=>Z1 ?_;refine Ν.d (M _) (Z1 ?_);apply ad;refine W.fix (id:=0) (σ':=[]) (ω _) rfl J J rfl [(4,.z (ptr m 0)),(5,.z (ptr o 0)),(6,.Ε (Y0 f).cells)] (by simp[entry]) ?_;refine Y' ?_;refine W.Zt (.stop ?_);refine V.call e ⟨rfl,rfl,by simp[Frame.enter],rfl⟩ rfl rfl rfl ⟨_,func144,rfl,rfl⟩ λav ae aw t4 ax af g ag=>?_;obtain rfl:=Ug (l:=[ptr m 0]) ag;obtain rfl:ae=[]:=YV.1 g.holds.len;rintro y rfl;refine yg (EC i j) g.holds λah ai L E u aj ak al ⟨am,ay,an⟩=>?_;rw[Wr rfl];have C:Ext S [] (T' S) ah [] ai:=Z.ext.trans (af.ext.trans u);obtain⟨ao,az,F⟩:=T;have H:∀b,¬θ.has ([]:θ) b:=λb ⟨N,h⟩=>by simp at h
 exact xn i j I K O P aj ak al an (Q L am) ((xy U).ext C (λb h=>absurd h (H b)) (H4 F)) (EF C (H β) ⟨ao,_,H4 F⟩)
  (by
   refine YS.later (OO (g.put (a:=.z (.tuple #[])) rfl (.z _)).Zr (by simp[ZE])) ⟨u.YX,λid r h=>by simp at h⟩) (g.put (a:=.z (.tuple #[])) rfl (.z _)).size ab
end
end Go.TL
