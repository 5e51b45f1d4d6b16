import Derived.Conc.Own2
import Derived.Test.YtkndbcflmgogjaaGreatQAH
set_option maxHeartbeats 16000000
set_option maxRecDepth 20000
set_option linter.unusedSectionVars false
set_option linter.unusedSimpArgs false
set_option linter.unusedVariables false
namespace Go.TL
open Go.IntKind (i32 i64 u32 u64)
open Go.Proofs.Tryz
open Go.Conc Go.Proofs
open Go.ConcN (sumTo upd sumTo_upd upd_ne upd_same sumTo_congr le_sumTo)
noncomputable def AD:Code:=f172.body.getD .skip
noncomputable def Ew:Code:=YP [1,1,0,1,0,0] AD
noncomputable def AB:ZA:=[.inLoop Ew,.inBlock 0]
theorem sd:∀n<8,0<n->Sb .i32 (i32.wrap (WE 0 0 0 n-8)) 2=WE 0 1 0 (n-1):=by decide +kernel
theorem sc:∀b<2,∀c<2,∀n<8,U4 .i32 (i32.wrap (WE 0 b c n+1)) 1=1:=by decide +kernel
abbrev Xu:ς:=λ_ _=>none
theorem JK {S S':ς} {B B':δ} {σ σ':Ρ} {env:Β} {t:ν} (b:∀p∈env,∃v,p.2=Ψ.z v) (h:Zg S B σ env t):Zg S' B' σ' env t:=by
 intro i;have c:∀(env:Β),(∀p∈env,∃v,p.2=Ψ.z v)->(∃v,ι env i=.z v)\/ι env i=.Zx:=by
  intro env
  induction env with
  | nil=>exact λ_=>.inr rfl
  | cons p l d=>
   intro h;obtain⟨j,a⟩:=p;simp only[ι];split
   .exact .inl (h (j,a) Ω)
   .exact d λq f=>h q (by simp[f])
 have hi:=h i;rcases c env b with⟨v,e⟩|e
 .rw[e] at hi ⊢;generalize t.getD i undef=u at hi;cases hi;exact .z _
 .rw[e];exact .Zx _
theorem JJ (H:Υ):Holds Xu [] [] H:=⟨λb o v h=>(by cases h),rfl,λid r bo h=>(by simp at h),λi j a c b d e _ h=>(by simp at h),λid r b N h=>(by simp at h)⟩
theorem XR.none {m nt:Nat} {S:ς} {B:δ} {H H':Υ} {env:Β} {t:ν} (h:XR m nt S B H [] env t) (a:∀p∈env,∃v,p.2=Ψ.z v):XR 0 nt Xu [] H' [] env t:=⟨JJ H',JK a h.Zt,h.size,ZY _⟩
section
variable {Q:Value->Prop} {mn:Bool} {x:Z5} {c:Frame} {rest:Y3} {S:ς} {B:δ} {σ:Ρ} {H:Υ} {s m k:Nat} {sp:Spec} {v:Option (Nat×γ)} {t:Tok}
abbrev Ev (Q:Value->Prop) (mn:Bool) (x:Z5) (c:Frame) (rest:Y3) (H:Υ) (s m:Nat) (w:Int) (t:Tok) (v:Option (Nat×γ)) (K:ZA) (env:Β):Prop:=
 V prog Q mn (one (ZU x s t v 1)) (Frame.enter prog 172 #[ptr m 0,.int .i32 w] .normal) (c::rest) 43 ⟨Xu,[],H,[],0⟩ K env []
def JI (Q:Value->Prop) (mn:Bool) (x:Z5) (c:Frame) (rest:Y3) (H:Υ) (s k d:Nat):Prop:=
 ∀(v:Option (Nat×γ)) (b:ς) (a:Υ),Ext Xu [] H b [] a->ZE prog Q mn (ZU x s (.ch k .done .work) v d) (c.finish (.tuple #[])) rest a
theorem Eu (a:VC x s m sp) (b:JI Q mn x c rest H s k 1) {w:Int} {K:ZA} {env:Β} (e:t=.ch k .done .work):Ev Q mn x c rest H s m w t v (.code .ret::K) env:=by
 letI:Z1:=Yo;have d:=a.seq;subst e;refine V.AT (d _ _ _) U U U U func172 U λf g h i j=>?_;obtain rfl:g=[]:=YZ.1 j.len;rintro y rfl;exact b v f h i.ext
def AA (k:Nat) (a:γ) (t:Tok):Prop:=((a.nw=0\/a.Y4=1\/a.wk=1\/a.sv=1)/\t=.ch k .done .work)\/(0<a.nw/\a.Y4=0/\a.wk=0/\a.sv=0/\t=.ch k .uc .work)
theorem Az (b:VC x s m sp) (D:JI Q mn x c rest H s k 1) {w:Int}:∀(N φ:Nat) (a:γ) (t:Tok),φ<N->a.Y4<=1->a.wk<=1->a.sv<=1->a.nw<7->AA k a t->
  Ev Q mn x c rest H s m w t (some (φ,a)) (.code Ew::AB) [(0,.z (ptr m 0)),(4,.z (.int .i32 (mwd a)))]:=by
 letI:Z1:=Yo;have d:=b.seq;intro N
 induction N with
 | zero=>intro φ a t h;omega
 | succ N ad=>
  intro φ a t ao ap aq ar au K;have l:=sI a.Y4 I a.wk I a.sv I a.nw I;have i:=EA a.Y4 I a.wk I a.sv I a.nw I;rw[<-Rk] at l i;have L:∀(n:Nat) (e:γ) (t':Tok),n<N->e.Y4<=1->e.wk<=1->e.sv<=1->e.nw<7->AA k e t'->Ev Q mn x c rest H s m w t' (some (n,e)) AB [(0,.z (ptr m 0)),(4,.z (.int .i32 (mwd e)))]:=λn e t' E o p r M ae=>by
   have:=ad n e t' E o p r M ae;refine V.YA (d _ _ _) U ?_;exact W.inLoop (.stop this)
  refine V.Zk (d _ _ _) ?_;unfold Ew AD;refine ZO ?_;rcases K with⟨K,rfl⟩|⟨E,o,p,r,rfl⟩
  .by_cases u:a.nw=0
   .rw[u] at i;refine Wc i ?_;exact .stop (Eu b D U)
   .have O:¬U4 .i32 (mwd a) 7=0:=by rw[l];omega
    have af:(U4 .i32 (mwd a) 7 != 0)=true:=by simpa using O
    refine Wc (Ξ i (Ξ u (Ξ O af))) ?_;exact .stop (Eu b D U)
  .have u:¬a.nw=0:=I
   have ag:¬(a.nw:Int)=0:=I
   have P:mwd a=WE 0 0 0 a.nw:=by rw[Rk,o,p,r]
   have F:=sd a.nw I E;rw[<-P] at F;rw[o,p,r] at l;refine Wc (Ξ i (Ξ u (Ξ ag l))) ?_;refine W.Zs ?_;refine W.part (A:=[]) Ο [0,1,2,3,4] [5] U λR j=>?_;(try simp);(repeat (rw[Η];simp[F]));(try simp[F]);apply j;refine W.stop ?_;refine V.GZ (d _ _ _).here (U8 _) (sp:=sp) b.spec (by rw[Zp];exact id) b.ZS ⟨⟨U,U,by simp[Frame.enter],U⟩,GR,⟨_,U⟩,U,U,U⟩ (λv f y hv=>.inl ?_) (λv f y hv=>?_)
   .have ah:=y.view φ a Rl
    have M:v<φ:=by
     rcases Ns v φ with h|h
     .exact h
     .exact absurd (by rw[ah.2 I]) hv
    unfold VQ;rw[UE];refine V.Zk (d _ _ _) ?_;refine W.ZM ?_;refine Κ U ?_;refine ZO ?_;refine W.Zs ?_;refine XN [0,1,2] [3,4] ?_;refine W.stop ?_;refine V.Ll (d _ _ _).here (sp:=sp) b.spec (by rw[Zp];exact id) ⟨U,U,by simp[Frame.enter],U⟩ U U U Lk U Wf mwd (λa w ai aj=>aj.QD (by rw[ai];exact b.ZS)) (λS g J=>?_);have av:=J.view v f Rl;have B:=J.Vg.SD;have ak:=JL b J.spec;have T:=B.Y4;have X:=B.wk;have Y:=B.sv;have aw:=B.nw;by_cases Z:g.nw=0\/g.Y4=1\/g.wk=1\/g.sv=1
    .refine .inr ⟨.ch k .done .work,by rw[Zp];exact .yg Z,λaa al=>?_⟩;rw[WK];refine V.Zk (d _ _ _) ?_;refine W.part (A:=[]) Ο [4] [] U λR j=>?_;(try simp);(repeat (rw[Η];simp));(try simp);apply j;refine W.ZM ?_;refine ZO ?_;refine W.forget [(0,.z (ptr m 0)),(4,.z (.int .i32 (mwd g)))] Ω (.stop ?_);exact L aa g _ I T X Y I (.inl ⟨Z,U⟩)
    .refine .inl ?_;unfold VQ;rw[UE];refine V.Zk (d _ _ _) ?_;refine W.part (A:=[]) Ο [4] [] U λR j=>?_;(try simp);(repeat (rw[Η];simp));(try simp);apply j;refine W.ZM ?_;refine ZO ?_;refine W.forget [(0,.z (ptr m 0)),(4,.z (.int .i32 (mwd g)))] Ω (.stop ?_);exact L S g _ I T X Y I (.inr ⟨I,I,I,I,U⟩)
   .have C:=y.Vg.SD
    have ak:=JL b y.spec
    have f1:=C.Y4;have f2:=C.wk;have f3:=C.sv;have f4:=C.nw
    have f5:f.Y4=0/\f.wk=0/\f.sv=0/\f.nw=a.nw:=by
     rw[P] at hv;simp only[mwd,WE] at hv;omega
    refine⟨{f with nw:=f.nw-1,wk:=1},.ch k .us .work,?_,U,⟨U,U,U⟩,by rw[Zp];exact .yh I I I I,λS al=>?_⟩
    .simp[Rk,f5]
    .rw[WK];refine V.Zk (d _ _ _) ?_;refine W.ZM ?_;refine Ι U ?_;refine ZO ?_;refine W.Zs ?_;refine XN [0,1,2] [3] ?_;refine W.stop ?_;refine V.AU (d _ _ _).here (sp:=sp) b.spec (by rw[Zp];exact id) b.ZS (vs:=[ptr m 1,.bool false,.int .i64 2]) U ⟨⟨U,U,by simp[Frame.enter],U⟩,AM,⟨_,U⟩,U,U,U⟩ (λaa ab am=>?_);have an:=am.Vg.SD;refine⟨by have:=an.Yz;omega,{ab with Yz:=ab.Yz+1},.ch k .done .work,U,U,⟨U,U,U⟩,by rw[Zp];exact .post,λax ay=>?_⟩;rw[WK];refine V.Zk (d _ _ _) ?_;refine W.ZM (.stop ?_);exact Eu b D U
theorem sb (e:VC x s m sp) (i:JI Q mn x c rest H s k 1) {a:γ} {φ:Nat} (K:a.toSpec=sp) (l:a.Y4=0) (n:a.wk<=1) (o:a.sv<=1) (p:a.nw<7)
  (u:(a.sv=0/\(a.nw=0\/a.wk=1)/\t=.ch k .done .work)\/(a.sv=0/\0<a.nw/\a.wk=0/\t=.ch k .uc .work)\/(a.sv=1/\t=.ch k .us .work)) :
  ZE prog Q mn (ZU x s t (some (φ,a)) 1) (Frame.enter prog 172 #[ptr m 0,.int .i32 (mwd a)] .normal) (c::rest) H:=by
 letI:Z1:=Yo;have f:=e.seq;have g:=sc a.wk I a.sv I a.nw I;have b:=EC 0 I a.wk I a.sv I a.nw I;have v:mwd a=WE 0 a.wk a.sv a.nw:=by rw[Rk,l]
 rw[<-v] at g b;refine V.QB (z:=one _) (vs:=[ptr m 0,.int .i32 (mwd a)]) (S:=Xu) func172 U (JJ H) (by simp[ntmps172]) ?_ _ U;refine V.Zk (f _ _ _) ?_;rcases u with⟨d,j,rfl⟩|⟨d,j,w,rfl⟩|⟨d,rfl⟩
 .rw[d] at b;refine Wc (Ξ g b) ?_;refine W.loop ?_;refine W.forget [(0,.z (ptr m 0)),(4,.z (.int .i32 (mwd a)))] Ω (.stop ?_);exact Az e i (φ+1) φ a _ (Pe _) I n o p (.inl ⟨j.imp id λh=>.inr (.inl h),U⟩)
 .rw[d] at b;refine Wc (Ξ g b) ?_;refine W.loop ?_;refine W.forget [(0,.z (ptr m 0)),(4,.z (.int .i32 (mwd a)))] Ω (.stop ?_);exact Az e i (φ+1) φ a _ (Pe _) I n o p (.inr ⟨j,l,w,d,U⟩)
 .rw[d] at b;refine Wc (Ξ g b) ?_;refine W.Zs ?_;refine XN [0,1,2] [3] ?_;refine W.stop ?_;refine V.AU (f _ _ _).here (sp:=sp) e.spec (by rw[Zp];exact id) e.ZS (vs:=[ptr m 1,.bool true,.int .i64 2]) U ⟨⟨U,U,by simp[Frame.enter],U⟩,AM,⟨_,U⟩,U,U,U⟩ (λL r A=>?_);have B:=A.Vg.SD;refine⟨by have:=B.Yz;omega,{r with Yz:=r.Yz+1},.ch k .done .work,U,U,⟨U,U,U⟩,by rw[Zp];exact .post,λM N=>?_⟩;rw[WK];refine V.Zk (f _ _ _) ?_;refine W.ZM (.stop ?_);refine V.GX (f _ _ _) U U U U func172 U λC D E F J=>?_;obtain rfl:D=[]:=YZ.1 J.len;rintro y rfl;exact i _ C E F.ext
end
noncomputable def JH:Code:=f128.body.getD .skip
theorem sa:(prog.funcs[128]?).any (·.norace)=true:=by kernel_rfl
section
variable {Q:Value->Prop} {mn:Bool} {x:Z5} {c:Frame} {rest:Y3} {S:ς} {B:δ} {σ:Ρ} {H:Υ} {s m k:Nat} {sp:Spec} {v:Option (Nat×γ)} {t:Tok}
abbrev Ay (Q:Value->Prop) (mn:Bool) (x:Z5) (c:Frame) (rest:Y3) (H:Υ) (s m:Nat) (t:Tok) (v:Option (Nat×γ)) (d:Nat) (K:ZA) (env:Β):Prop:=
 V prog Q mn (one (ZU x s t v d)) (Frame.enter prog 128 #[ptr m 0] .normal) (c::rest) 21 ⟨Xu,[],H,[],0⟩ K env []
theorem Ax {S':ς} {H H':Υ} (h:Ext Xu [] H S' [] H'):Ext Xu [] H Xu [] H':=
 ⟨λb o v h=>(by cases h),λb a c=>h.X0 b a c,λb a=>h.blocks b a,λb o v h=>(by cases h),h.grow⟩
theorem Aw (b:VC x s m sp) (d:JI Q mn x c rest H s k 0) {env:Β}:Ay Q mn x c rest H s m (.ch k .done .work) v 1 [.code (YP [1,1,1] JH)] env:=by
 letI:Z1:=Yo;have a:=b.seq;refine V.Zk (a _ _ _) ?_;unfold JH;refine W.Zs (.stop ?_);refine V.enable (a _ _ _).here (U8 _) ⟨⟨U,U,by simp[Frame.enter],U⟩,PI,⟨_,U⟩,U,U,U⟩ ?_;rw[JR];refine V.Zk (a _ _ _) ?_;refine W.ZM (.stop ?_);refine V.GX (a _ _ _) U U U U func128 U λe f g h i=>?_;obtain rfl:f=[]:=YZ.1 i.len;rintro y rfl;exact d _ e g h.ext
theorem r9 (d:VC x s m sp) (X:Holds S B σ H) {L:κ}
  (Y:∀(S':ς) (H':Υ),Ext S [] H S' [] H'->Holds S' [] [] H'->∃g E,Split H' g E/\sp.X1 (L++[k]) E/\JI Q mn x c rest g s k 0) :
  ZE prog Q mn (ZU x s (.ch k (.YJ L) .work) v 0) (Frame.enter prog 128 #[ptr m 0] .normal) (c::rest) H:=by
 letI:Z1:=Yo;have e:=d.seq;refine V.QB (z:=one _) (vs:=[ptr m 0]) func128 U X (by simp[ntmps128]) ?_ _ U;refine V.Zk (e _ _ _) ?_;refine ZO ?_;refine Ι U ?_;refine ZO ?_;refine W.Zs ?_;refine XN [0,1,2] [3] ?_;refine W.stop ?_;refine V.Ll (e _ _ _).here (sp:=sp) d.spec (by rw[Zp];exact id) ⟨U,U,by simp[Frame.enter],U⟩ U U U Lk U sa mwd (λF w n o=>o.QD (by rw[n];exact d.ZS)) (λaC aD aE=>.inl ?_);unfold VQ;rw[UE];refine V.Zk (e _ _ _) ?_;refine W.ZM ?_;refine ZO ?_;refine W.forget [(0,.z (ptr m 0))] Ω ?_;refine W.Zs ?_;refine XN [0] [1,2] ?_;refine W.stop ?_;refine V.conv (e _ _ _).here (sp:=sp) d.spec (by rw[Zp];exact id) ⟨U,U,by simp[Frame.enter],U⟩ U U U JP PH JO U (λF w n o=>⟨_,o.QD (by rw[n];exact d.ZS)⟩) (λφ F aF=>?_);unfold VQ;rw[UE];refine V.FI d.rel U (sp:=sp) (L:=L) d.spec d.ZS Zp ⟨⟨U,U,by simp[Frame.enter],U⟩,Ez,⟨_,U⟩,U,U,U⟩ λZ aa g t1 ab p=>?_;obtain rfl:aa=[]:=YZ.1 p.holds.len;obtain⟨r,E,ad,ae,J⟩:=Y Z g ab.ext p.holds;refine⟨r,E,ad,ae,?_⟩;rw[WK];refine V.here (x:=one _) (S:=Xu) (B:=[]) (σ:=[]) (m:=0) (nt:=21) ?_ (p.none Ω) _ U;refine V.Zk (e _ _ _) ?_;refine W.ZM ?_;refine ZO ?_;refine W.Zs (.stop ?_);refine V.disable (e _ _ _).here ⟨⟨U,U,by simp[Frame.enter],U⟩,ME,⟨_,U⟩,U,U,U⟩ ?_;rw[JS];refine V.Zk (e _ _ _) ?_;refine W.ZM ?_;refine ZO ?_;refine W.Zs ?_;refine XN [0,1,2] [3,4] ?_;refine W.stop ?_;refine V.A0 (e _ _ _).here (U8 _) (sp:=sp) d.spec (by rw[Zp];exact id) d.ZS ⟨⟨U,U,by simp[Frame.enter],U⟩,AQ,⟨_,U⟩,U,U,U⟩ (λaG b u=>?_);have f:=u.Vg.SD;rw[Zp] at f;have af:=f.hold U;have aH:=JL d u.spec;have f1:=f.wk;have f2:=f.sv;have f3:=f.nw;have K:mwd {b with Y4:=0}=i32.wrap (mwd b+-1):=by simp only[mwd,IntKind.wrap_i32,af];omega
 have M:∀(t:Tok) (N:Nat),(b.sv=0/\(b.nw=0\/b.wk=1)/\t=.ch k .done .work)\/(b.sv=0/\0<b.nw/\b.wk=0/\t=.ch k .uc .work)\/(b.sv=1/\t=.ch k .us .work)->
   Ay Q mn x c rest r s m t (some (N,{b with Y4:=0})) 1 [.code (YP [1,1,0] JH),.code (YP [1,1,1] JH)] [(0,.z (ptr m 0)),(2,.z (.int .i32 (mwd {b with Y4:=0})))]:=λt N O=>by
  refine V.Zk (e _ _ _) ?_;unfold JH;refine ZO ?_;by_cases i:mwd {b with Y4:=0}=0
  .refine Wc i ?_;have ag:t=.ch k .done .work:=by
    simp only[mwd] at i;rcases O with⟨_,_,h⟩|⟨_,h,_⟩|⟨h,_⟩
    .exact h
    .omega
    .omega
   subst ag;exact .stop (Aw d J)
  .have ah:(mwd {b with Y4:=0} != 0)=true:=by simpa using i
   refine Wc (Ξ i ah) ?_;refine W.Zs ?_;refine XN [0,1] [2] ?_;refine W.stop ?_;refine V.call (e _ _ _) ⟨U,U,by simp[Frame.enter],U⟩ U U U ⟨_,func172,U,U⟩ λaI ai aJ t4 aK aj P ak=>?_;obtain rfl:=Wq (l:=[ptr m 0,.int .i32 (mwd {b with Y4:=0})]) ak;obtain rfl:ai=[]:=YZ.1 P.holds.len;rintro y rfl;refine sb d (λaL aM al am=>?_) (by exact u.spec) U f1 f2 (by show b.nw<7;omega) O;rw[V4 U];have an:Ext Xu [] r Xu [] al:=(Ax aj.ext).trans (Ax am);refine V.here (x:=one _) (S:=Xu) (B:=[]) (σ:=[]) (m:=0) (nt:=21) ?_ ((P.put (a:=Sv) U (.z _)).none Ω) _ U;refine V.Zk (e _ _ _) ?_;refine W.ZM (.stop ?_);exact Aw d λao ap aq ar=>J ao ap aq (an.trans ar)
 by_cases R:b.sv=1
 .refine⟨{b with Y4:=0},.ch k .us .work,K,U,⟨U,U,U⟩,by rw[Zp];exact .yi R,λC _=>?_⟩;rw[WK];refine V.Zk (e _ _ _) ?_;refine W.part (A:=[]) Ο [4] [] U λau D=>?_;(try simp);(repeat (rw[Η];simp));(try simp);apply D;refine W.ZM ?_
  first|apply WQ|apply wb|apply Ws|apply wd
  refine W.forget [(0,.z (ptr m 0)),(2,.z (.int .i32 (mwd {b with Y4:=0})))] Ω (.stop ?_);exact M _ C (.inr (.inr ⟨R,U⟩))
 .have j:b.sv=0:=I
  have step:∀(t:Tok),(b.sv=0/\(b.nw=0\/b.wk=1)/\t=.ch k .done .work)\/(b.sv=0/\0<b.nw/\b.wk=0/\t=.ch k .uc .work)->Act b (.ch k .fin .work) {b with Y4:=0} t->∃o' t',mwd o'=i32.wrap (mwd b+-1)/\o'.Yz=b.Yz/\Lm b o'/\Act b (.ch k .fin .work) o' t'/\((b.sv=0/\(b.nw=0\/b.wk=1)/\t'=.ch k .done .work)\/(b.sv=0/\0<b.nw/\b.wk=0/\t'=.ch k .uc .work))/\o'={b with Y4:=0}:=λt av aw=>⟨_,t,K,U,⟨U,U,U⟩,aw,av,U⟩;obtain⟨o',t',ax,ay,az,aA,aB,rfl⟩:∃o' t',mwd o'=i32.wrap (mwd b+-1)/\o'.Yz=b.Yz/\Lm b o'/\Act b (.ch k .fin .work) o' t'/\((b.sv=0/\(b.nw=0\/b.wk=1)/\t'=.ch k .done .work)\/(b.sv=0/\0<b.nw/\b.wk=0/\t'=.ch k .uc .work))/\o'={b with Y4:=0}:=by
   by_cases T:b.nw=0\/b.wk=1
   .exact step _ (.inl ⟨j,T,U⟩) (.yk j T)
   .exact step _ (.inr ⟨j,I,I,U⟩) (.yj j I I)
  refine⟨_,t',ax,ay,az,by rw[Zp];exact aA,λC _=>?_⟩;rw[WK];refine V.Zk (e _ _ _) ?_;refine W.part (A:=[]) Ο [4] [] U λau D=>?_;(try simp);(repeat (rw[Η];simp));(try simp);apply D;refine W.ZM ?_
  first|apply WQ|apply wb|apply Ws|apply wd
  refine W.forget [(0,.z (ptr m 0)),(2,.z (.int .i32 (mwd {b with Y4:=0})))] Ω (.stop ?_);exact M _ C (aB.imp id λh=>.inl h)
theorem ZE.leaveD [Z1] {P:Program} {Q:Value->Prop} {mn:Bool} {x:Z5} {c b:Frame} {rest:Y3} {H:Υ} {t:ν} {ops:ZI} {fn:Func} (a:Seq (one x)) (d:b.mode=.run) (e:b.roundOf=none) (f:b.defers=[]) (g:b.kind=.deferred) (i:P.funcs[b.fn]?=some fn) (j:fn.results=#[])
  (k:c.mode=.returning) (h:ZE P Q mn x c rest H):ZE P Q mn x (χ b t [.inRegion ops []]) (c::rest) H:=by
 refine μ.ZM (x:=one x) a d (.Rt a d e (.Ir a U f g i ?_)) x U;rw[results_none j];refine Χ.pure' ?_;simp only[k];intro y l;cases l;exact h
theorem Av (h:VC x s m sp) (o:Holds S B σ H) (p:c.mode=.returning) {L:κ}
  (r:∀(S':ς) (H':Υ),Ext S [] H S' [] H'->Holds S' [] [] H'->∃d E,Split H' d E/\sp.X1 (L++[k]) E/\∀(v:Option (Nat×γ)) (e:ς) (b:Υ),Ext Xu [] d e [] b->ZE prog Q mn (ZU x s (.ch k .done .work) v 0) c rest b) :
  ZE prog Q mn (ZU x s (.ch k (.YJ L) .work) v 0) (Frame.enter prog 79 #[ptr m 0] .deferred) (c::rest) H:=by
 letI:Z1:=Yo;have f:=h.seq;rw[T7 (body:=f79.body.getD .skip) func79 U];refine V.here (x:=one _) (m:=0) (nt:=6) (env:=entry 0 [.z (ptr m 0)]) ?_ (XR.enter o.bare ⟨U,λi a v g j=>?_⟩ (ZY _) Ω) _ U
 .refine V.YA (f _ _ _) U ?_;simp only[f79,Option.getD_some];refine ZO ?_;refine W.Zs ?_;refine XN [0,1,2] [3] ?_;refine W.stop ?_;refine V.call (f _ _ _) ⟨U,U,by simp[Frame.enter],U⟩ U U U ⟨_,func128,U,U⟩ λO t d t1 P u n hv=>?_;obtain rfl:=Wq (l:=[ptr m 0]) hv;obtain rfl:t=[]:=YZ.1 n.holds.len;rintro y rfl;refine r9 h n.holds (L:=L) λe b w A=>?_;obtain⟨C,E,D,F,I⟩:=r e b (u.ext.trans w) A;refine⟨C,E,D,F,λJ K M N=>?_⟩;rw[V4 U];refine ZE.leaveD (f _ _ _) U U U U func79 U p ?_;exact I J K M N
 .cases i with
  | zero=>simp at g j;subst g;subst j;exact .z _
  | succ i=>simp at g
end
structure UW (x:Z5) (s:Nat) (sp:Spec):Prop where
 rel:x.rel=false
 Z8:x.Z8=λ_=>none
 spec:x.spec s=some sp
 top:sp.top<7
 still:∀a,a≠s->Tg (x.tok a)
theorem UW.seq {x:Z5} {s:Nat} {sp:Spec} (h:UW x s sp):∀t v d,@Seq Yo (one (ZU x s t v d)):=λt v d=>@Seq.QF Yo _ trivial h.rel h.Z8
abbrev Wg (c w:Nat):Int:=(c:Int)*4294967296+w
theorem GP:∀c<8,∀w<2,U4 .u64 (Wg c w) 2147483648=0:=by decide +kernel
theorem GO:∀c<8,∀w<2,i32.wrap ((Wg c w).fdiv (2 ^ min 32 u64.bits))=c:=by decide +kernel
theorem GN:∀c<8,∀w<2,u32.wrap (U4 .u64 (Wg c w) 2147483647)=w:=by decide +kernel
theorem r8:∀c<7,∀w<2,u64.wrap (Wg c w+4294967296)=Wg (c+1) w:=by decide +kernel
theorem r7:∀c<8,∀w<2,0<c->u64.wrap (Wg c w+18446744069414584320)=Wg (c-1) w:=by decide +kernel
theorem r6:∀c<8,u64.wrap (Wg c 0+1)=Wg c 1:=by decide +kernel
theorem Au:u64.wrap 1=1:=Z7
theorem As:u64.wrap (2 ^ min 32 u64.bits)=4294967296:=Z7
theorem Et:i32.wrap 1=1:=Z7
theorem NP (a:γ):YY a=Wg a.cnt a.wt:=rfl
section
variable {Q:Value->Prop} {mn:Bool} {x:Z5} {c:Frame} {rest:Y3} {S:ς} {B:δ} {σ:Ρ} {H:Υ} {s k:Nat} {sp:Spec} {v:Option (Nat×γ)} {t:Tok}
theorem GM (b:UW x s sp) {a:γ} (h:a.toSpec=sp):a.top<7:=by have:=b.top;rw[show a.top=sp.top by rw[<-h]];exact this
def Lj (Q:Value->Prop) (mn:Bool) (x:Z5) (c:Frame) (rest:Y3) (S:ς) (H:Υ) (r:Value):Prop:=
 ∀(S':ς) (H':Υ),Ext S [] H S' [] H'->Holds S' [] [] H'->ZE prog Q mn x (c.finish r) rest H'
theorem r5 (f:UW x s sp) (h:¬XE t) {d:Int} (i:Holds S B σ H)
  (j:∀φ a,Seen (ZU x s t v 1) s sp φ a->∃o' t',YY o'=u64.wrap (YY a+d)/\o'.YM=a.YM/\PJ a o'/\Act a t o' t'/\∀b,b<φ->Lj Q mn (ZU x s t' (some (b,o')) 1) c rest S H (.int .u64 (YY o'))) :
  ZE prog Q mn (ZU x s t v 1) (Frame.enter prog 117 #[ptr s 0,.int .u64 d] .normal) (c::rest) H:=by
 letI:Z1:=Yo;have e:=f.seq;refine V.QB (z:=one _) (vs:=[ptr s 0,.int .u64 d]) func117 U i (by simp[ntmps117]) ?_ _ U;refine V.Zk (e _ _ _) ?_;refine Wd ?_;refine W.Zs ?_;refine XN [0,1,2,3] [4,5] ?_;refine W.stop ?_;refine V.EI (e _ _ _).here (U8 _) (sp:=sp) f.spec (by rw[Zp];exact h) ⟨⟨U,U,by simp[Frame.enter],U⟩,AP,⟨_,U⟩,U,U,U⟩ (λφ a k=>?_);obtain⟨o',t',l,m,n,o,p⟩:=j φ a k;refine⟨o',t',l,m,n,by rw[Zp];exact o,λb r=>?_⟩;rw[WK];refine V.Zk (e _ _ _) ?_;refine W.part (A:=[]) Ο [5] [] U λF u=>?_;(try simp);(repeat (rw[Η];simp));(try simp);apply u;refine W.ZM (.stop ?_);refine V.OL (e _ _ _) U U U U func117 U U λw C D E g=>?_;obtain rfl:C=[]:=YZ.1 g.len;rintro y rfl;exact p b r w D E.ext g
theorem Es (l:UW x s sp) (m:¬XE t) (n:Holds S B σ H)
  (o:∀φ a,Seen (ZU x s t v 1) s sp φ a->Lj Q mn (ZU x s t (some (φ,a)) 1) c rest S H (.int .u64 (YY a))\/∃t',Act a t a t'/\∀e,e<φ->Lj Q mn (ZU x s t' (some (e,a)) 1) c rest S H (.int .u64 (YY a))) :
  ZE prog Q mn (ZU x s t v 1) (Frame.enter prog 119 #[ptr s 0] .normal) (c::rest) H:=by
 letI:Z1:=Yo;have b:=l.seq;refine V.QB (z:=one _) (vs:=[ptr s 0]) func119 U n (by simp[ntmps119]) ?_ _ U;refine V.Zk (b _ _ _) ?_;refine Wd ?_;refine W.Zs ?_;refine XN [0,1,2] [3,4] ?_;refine W.stop ?_;refine V.EJ (b _ _ _).here (U8 _) (sp:=sp) l.spec (by rw[Zp];exact m) ⟨⟨U,U,by simp[Frame.enter],U⟩,AO,⟨_,U⟩,U,U,U⟩ (λφ a p=>(o φ a p).imp (λh=>?_) (λ⟨t',r,u⟩=>⟨t',by rw[Zp];exact r,λe w=>?_⟩))
 .unfold VQ;rw[UE];refine V.Zk (b _ _ _) ?_;refine W.part (A:=[]) Ο [4] [] U λC f=>?_;(try simp);(repeat (rw[Η];simp));(try simp);apply f;refine W.ZM (.stop ?_);refine V.OL (b _ _ _) U U U U func119 U U λg i j k d=>?_;obtain rfl:i=[]:=YZ.1 d.len;rintro y rfl;exact h g j k.ext d
 .rw[WK];refine V.Zk (b _ _ _) ?_;refine W.part (A:=[]) Ο [4] [] U λC f=>?_;(try simp);(repeat (rw[Η];simp));(try simp);apply f;refine W.ZM (.stop ?_);refine V.OL (b _ _ _) U U U U func119 U U λg i j k d=>?_;obtain rfl:i=[]:=YZ.1 d.len;rintro y rfl;exact u e w g j k.ext d
theorem r4 (o:UW x s sp) (p:¬XE t) (r:Holds S B σ H) {e g:Int}
  (u:∀φ a,Seen (ZU x s t v 1) s sp φ a->¬YY a=e->Lj Q mn (ZU x s t (some (φ,a)) 1) c rest S H (.bool false))
  (w:∀φ a,Seen (ZU x s t v 1) s sp φ a->YY a=e->∃o' t',YY o'=g/\o'.YM=a.YM/\PJ a o'/\Act a t o' t'/\∀f,f<φ->Lj Q mn (ZU x s t' (some (f,o')) 1) c rest S H (.bool true)) :
  ZE prog Q mn (ZU x s t v 1) (Frame.enter prog 131 #[ptr s 0,.int .u64 e,.int .u64 g] .normal) (c::rest) H:=by
 letI:Z1:=Yo;have b:=o.seq;refine V.QB (z:=one _) (vs:=[ptr s 0,.int .u64 e,.int .u64 g]) func131 U r (by simp[ntmps131]) ?_ _ U;refine V.Zk (b _ _ _) ?_;refine Wd ?_;refine W.Zs ?_;refine XN [0,1,2,3,4] [5,6] ?_;refine W.stop ?_;refine V.sW (b _ _ _).here (U8 _) (sp:=sp) o.spec (by rw[Zp];exact p) ⟨⟨U,U,by simp[Frame.enter],U⟩,sA,⟨_,U⟩,U,U,U⟩ (λφ a i hv=>?_) (λφ a i hv=>?_)
 .have h:=u φ a i hv;unfold VQ;rw[UE];refine V.Zk (b _ _ _) ?_;refine W.part (A:=[]) Ο [6] [] U λC j=>?_;(try simp);(repeat (rw[Η];simp));(try simp);apply j;refine W.ZM (.stop ?_);refine V.OL (b _ _ _) U U U U func131 U U λk l m n d=>?_;obtain rfl:l=[]:=YZ.1 d.len;rintro y rfl;exact h k m n.ext d
 .obtain⟨o',t',D,E,F,I,J⟩:=w φ a i hv;refine⟨o',t',D,E,F,by rw[Zp];exact I,λf K=>?_⟩;rw[WK];refine V.Zk (b _ _ _) ?_;refine W.part (A:=[]) Ο [6] [] U λC j=>?_;(try simp);(repeat (rw[Η];simp));(try simp);apply j;refine W.ZM (.stop ?_);refine V.OL (b _ _ _) U U U U func131 U U λk l m n d=>?_;obtain rfl:l=[]:=YZ.1 d.len;rintro y rfl;exact J f K k m n.ext d
end
theorem XR.NO {m nt:Nat} {S S':ς} {B:δ} {H H':Υ} {env:Β} {t:ν} (h:XR m nt S B H [] env t) (a:∀p∈env,∃v,p.2=Ψ.z v) (b:Holds S' [] [] H'):XR 0 nt S' [] H' [] env t:=⟨b,JK a h.Zt,h.size,ZY _⟩
theorem ZE.Er [Z1] {P:Program} {d:Value->Prop} {mn:Bool} {x:Z5} {c b:Frame} {rest:Y3} {H:Υ} {t:ν} {k:ZA} {fn:Func} {f:FuncId} (e:Seq (one x)) (j:Seq (one {x with deaf:=x.deaf-1})) (hd:0<x.deaf) (g:b.mode=.run) (i:b.roundOf=none) (l:b.defers=[Go.Conc.dcall f #[]]) (m:b.kind=.normal) (n:P.funcs[b.fn]?=some fn) (o:fn.results=#[])
  (p:Entry P f (λ_=>do mark .enable;pure Extern.Race.none_)) (h:ZE P d mn {x with deaf:=x.deaf-1} (c.finish (.tuple #[])) rest H):ZE P d mn x (χ b t (.code .ret::k)) (c::rest) H:=by
 refine μ.ret (x:=one x) e g i (λy a=>?_) x U;cases a;refine ZE.sQ e.here hd g i l p ?_;refine μ.back (f:={χ {b with defers:=[]} t (.code .ret::k) with mode:=.returning}) (x:=one {x with deaf:=x.deaf-1}) j U U (.inl m) n ?_ _ U;rw[results_none o];refine Χ.pure' (λy a=>?_);cases a;exact h
section
variable {Q:Value->Prop} {mn:Bool} {x:Z5} {c:Frame} {rest:Y3} {S:ς} {B:δ} {σ:Ρ} {H:Υ} {s n p:Nat} {sp:Spec} {v:Option (Nat×γ)} {t:Tok}
theorem Ar (g:UW x s sp) (L:n<sp.top) (M:Holds S B σ H)
  (N:∀v,Lj Q mn (ZU x s (.par (n+1) (p+1) .add) v 0) c rest S H (.tuple #[])) :
  ZE prog Q mn (ZU x s (.par n p .add) v 0) (Frame.enter prog 72 #[ptr s 0,.int .i64 1] .normal) (c::rest) H:=by
 letI:Z1:=Yo;have e:=g.seq;refine V.QB (z:=one _) (vs:=[ptr s 0,.int .i64 1]) func72 U M (by simp[ntmps72]) ?_ _ U;refine V.Zk (e _ _ _) ?_;refine Wd ?_;refine W.Zs (.stop ?_);refine V.disable (e _ _ _).here ⟨⟨U,U,by simp[Frame.enter],U⟩,ME,⟨_,U⟩,U,U,U⟩ ?_;rw[JS];refine V.Zk (e _ _ _) ?_;refine W.ZM ?_;refine ZO ?_;refine W.Zs (.stop ?_);refine V.EH (e _ _ _) ⟨U,U,by simp[Frame.enter],U⟩ U U U ?_;refine V.Zk (e _ _ _) ?_;refine W.ZM ?_;refine Wd ?_;refine W.Zs (.stop ?_);refine V.GW (e _ _ _) (vs:=[]) ⟨⟨U,U,by simp[Frame.enter],U⟩,AR,⟨_,U⟩,U,U,U⟩ ?_;refine V.Zk (e _ _ _) ?_;refine W.ZM ?_;refine Wd ?_;refine W.Zs ?_;refine W.part (A:=[]) Ο [0,1,2,3,4,5] [6,7] U λO k=>?_;(try simp);(repeat (rw[Η];simp[Au,As]));(try simp[Au,As]);apply k;refine W.stop ?_;refine V.call (e _ _ _) ⟨U,U,by simp[Frame.enter],U⟩ U U U ⟨_,func117,U,U⟩ λam P an t1 ao R o hv=>?_;obtain rfl:=Wq (l:=[ptr s 0,.int .u64 4294967296]) hv;obtain rfl:P=[]:=YZ.1 o.holds.len;rintro y rfl;refine r5 g id o.holds λφ f j=>?_;have u:=j.Vg.OJ;rw[Zp] at u;obtain⟨C,ap,aq,ar,T⟩:=u.add n p U;have X:=GM g j.spec;have D:n<f.top:=by rw[show f.top=sp.top by rw[<-j.spec]];exact L
 have Y:∀a b c d:Nat,a=b+1->b<=c->c<d->d<7->a<8/\b<7/\0<a/\¬a=0:=λa b c d i au av aw=>I;obtain⟨cc,r⟩:=Z' (f.cnt+1);obtain⟨t,Z,aa,ax⟩:=Y cc f.cnt n f.top r T D X;have E:YY {f with cnt:=cc}=Wg cc 0:=by rw[NP];simp only[C]
 refine⟨{f with cnt:=cc},.par (n+1) (p+1) .add,?_,U,⟨U,U,U⟩,by rw[r];exact .add D,λay az ab ad ae af=>?_⟩
 .rw[E,NP,C,r8 f.cnt Z 0 Z7,r]
 have f1:=GP cc t 0 Z7
 have f2:=GO cc t 0 Z7
 have f3:=GN cc t 0 Z7;rw[E];generalize Wg cc 0=w at f1 f2 f3;rw[V4 U];refine V.here (x:=one _) (m:=0) (nt:=117) ?_ ((o.put (a:=.z (.int .u64 w)) U (.z _)).NO Ω af) _ U;have F:∀(v:Option (Nat×γ)) (env:Β) (K:ZA),V prog Q mn (one (ZU x s (.par (n+1) (p+1) .add) v 1)) {Frame.enter prog 72 #[ptr s 0,.int .i64 1] .normal with defers:=[Go.Conc.dcall 112 #[]]} (c::rest) 117 ⟨ab,[],ad,[],0⟩ (.code .ret::K) env []:=λv env K ag ah ai t3 aj J=>by
  rintro y rfl;obtain rfl:ah=[]:=YZ.1 J.holds.len;exact ZE.Er (e _ _ _) (e _ _ 0) (U8 _) U U U U func72 U PI (N v ag ai ((R.ext.trans ae).trans aj.ext) J.holds)
 refine V.Zk (e _ _ _) ?_;refine W.part (A:=[]) Ο [7] [] U λO k=>?_;(try simp);(repeat (rw[Η];simp));(try simp);apply k;refine W.ZM ?_;by_cases i:cc=1
 .refine Wc (Ξ f1 (Ξ f2 (Ξ f3 (Ξ @Et i)))) ?_;refine W.Zs ?_;refine XN [0,1,2] [3,4] ?_;refine W.stop ?_;refine V.conv (e _ _ _).here (sp:=sp) g.spec (by rw[Zp];exact id) ⟨U,U,by simp[Frame.enter],U⟩ U U U AL PH AK U (λf w aA ak=>⟨_,ak.Lq⟩) (λφ f j=>?_);unfold VQ;rw[UE];refine V.sY g.rel Zp Ω ⟨⟨U,U,by simp[Frame.enter],U⟩,sC,⟨_,U⟩,U,U,U⟩ ?_;refine V.Zk (e _ _ _) ?_;refine W.ZM ?_;refine Wc (Ξ f1 (Ξ f2 (Ξ f3 (Ξ @Et i)))) ?_;exact .stop (F _ _ _)
 .have al:¬(cc:Int)=1:=λh=>i (by exact_mod_cast h);refine Wc (Ξ f1 (Ξ f2 (Ξ f3 (Ξ @Et (Ξ i (Ξ al aa)))))) ?_;exact .stop (F _ _ _)
end
noncomputable def JG:Code:=f80.body.getD .skip
noncomputable def Su:Code:=YP [1,0,0] JG
noncomputable def MD:ZA:=[.inLoop Su,.inBlock 0]
theorem Aq:U4 .u64 0 2147483648=0:=Z7
theorem Ap:U4 .u64 0 2147483647=0:=Z7
theorem GL:u32.wrap 0=0:=Z7
theorem Ao:i32.wrap 0=0:=Z7
section
variable {Q:Value->Prop} {mn:Bool} {x:Z5} {c:Frame} {rest:Y3} {S:ς} {B:δ} {σ:Ρ} {H:Υ} {s n p:Nat} {sp:Spec} {v:Option (Nat×γ)} {t:Tok}
abbrev NN (Q:Value->Prop) (mn:Bool) (x:Z5) (c:Frame) (rest:Y3) (S:ς) (H:Υ) (s:Nat) (t:Tok) (v:Option (Nat×γ)) (d:Nat) (K:ZA) (env:Β):Prop:=
 V prog Q mn (one (ZU x s t v d)) (Frame.enter prog 80 #[ptr s 0] .normal) (c::rest) 84 ⟨S,[],H,[],0⟩ K env []
def PF (Q:Value->Prop) (mn:Bool) (x:Z5) (c:Frame) (rest:Y3) (S:ς) (H:Υ) (s n:Nat) (sp:Spec):Prop:=
 ∀(S':ς) (H':Υ) (d e:κ) (b a:Υ),Ext S [] H S' [] H'->Holds S' [] [] H'->d.Perm (List.range n)->TO sp.D d b->(sp.ZS≠none->e.Perm (List.range n)/\sp.X1 e a)->(sp.ZS=none->a=Υ.empty)->Apart H' b->Apart H' a->Apart b a->(∃w,Fits H' w/\Fits b w/\Fits a w)->
  ∀(v:Option (Nat×γ)) (g:ς) (f:Υ),Ext Xu [] (join (join H' b) a) g [] f->ZE prog Q mn (ZU x s (.par n 0 .YG) v 0) (c.finish (.tuple #[])) rest f
theorem PF.later {a:ς} {b:Υ} (h:PF Q mn x c rest S H s n sp) (d:Ext S [] H a [] b):PF Q mn x c rest a b s n sp:=
 λS' H' e f g i j k l m o p r t u w v y A B=>h S' H' e f g i (d.trans j) k l m o p r t u w v y A B
theorem An (b:UW x s sp) (d:∀(v:Option (Nat×γ)) (e:ς) (a:Υ),Ext Xu [] H e [] a->ZE prog Q mn (ZU x s (.par n 0 .YG) v 0) (c.finish (.tuple #[])) rest a) {K:ZA} {env:Β}:NN Q mn x c rest Xu H s (.par n 0 .YG) v 0 (.code .ret::K) env:=by
 letI:Z1:=Yo;have f:=b.seq;refine V.AT (f _ _ _) U U U U func80 U λg h i j k=>?_;obtain rfl:h=[]:=YZ.1 k.len;rintro y rfl;exact d v g i j.ext
theorem Am (a:UW x s sp) (e:PF Q mn x c rest S H s n sp):NN Q mn x c rest S H s (.par n 0 .Sk) v 1 (.code (YP [0,1] Su)::.inBlock 1::MD) [(0,.z (ptr s 0)),(2,.z (.int .u64 0))]:=by
 letI:Z1:=Yo;have b:=a.seq;refine V.Zk (b _ _ _) ?_;unfold Su JG;refine Wc (Ξ @Aq (Ξ @Ap (Ξ @GL @Ao))) ?_;refine W.Zs (.stop ?_);refine V.enable (b _ _ _).here (U8 _) ⟨⟨U,U,by simp[Frame.enter],U⟩,PI,⟨_,U⟩,U,U,U⟩ ?_;rw[JR];refine V.Zk (b _ _ _) ?_;refine W.ZM ?_;refine W.Zs ?_;refine XN [0] [1,2] ?_;refine W.stop ?_;refine V.conv (b _ _ _).here (sp:=sp) a.spec (by rw[Zp];exact id) ⟨U,U,by simp[Frame.enter],U⟩ U U U Ey PH Ex U (λf w J g=>⟨_,g.SE⟩) (λφ f K=>?_);unfold VQ;rw[UE];refine V.Iu a.rel U (sp:=sp) a.spec Zp (.inl U) ⟨⟨U,U,by simp[Frame.enter],U⟩,JQ,⟨_,U⟩,U,U,U⟩ λh i j t1 k l o p r d t u y A C D E F=>?_;rw[WK];obtain rfl:i=[]:=YZ.1 d.holds.len;have I:=e h j k l o p r.ext d.holds t u y A C D E F;refine V.here (x:=one _) (S:=Xu) (B:=[]) (σ:=[]) (m:=0) (nt:=84) ?_ (d.none Ω) _ U;refine V.Zk (b _ _ _) ?_;refine W.ZM ?_;refine Wc (Ξ @Aq (Ξ @Ap (Ξ @GL @Ao))) ?_;exact .stop (An a I)
theorem rZ (e:UW x s sp) (p:PF Q mn x c rest S H s n sp):NN Q mn x c rest S H s (.par n 0 .w4) v 1 (.code (YP [0,1,1,1,1,1,0,1,1,1,1] Su)::.inBlock 1::MD) [(0,.z (ptr s 0))]:=by
 letI:Z1:=Yo;have b:=e.seq;refine V.Zk (b _ _ _) ?_;unfold Su JG;refine ZO ?_;refine W.Zs ?_;refine XN [0,1,2] [3,4,5] ?_;refine W.stop ?_;refine V.call (b _ _ _) ⟨U,U,by simp[Frame.enter],U⟩ U U U ⟨_,func119,U,U⟩ λi f j t1 ab g d hv=>?_;obtain rfl:=Wq (l:=[ptr s 0]) hv;obtain rfl:f=[]:=YZ.1 d.holds.len;rintro y rfl;refine Es e id d.holds λφ h k=>.inl λad ae r t=>?_;have o:=k.Vg.OJ;rw[Zp] at o;obtain⟨u,af,C⟩:=o.fin n 0 (.inr (.inl U));have D:YY h=0:=by simp only[YY,u,C];rfl
 rw[D,V4 U];have E:=p.later (g.ext.trans r);refine V.here (x:=one _) (m:=0) (nt:=84) ?_ ((d.put (a:=.z (.int .u64 0)) U (.z _)).NO Ω t) _ U;refine V.Zk (b _ _ _) ?_;refine W.part (A:=[]) Ο [4,5] [] U λag F=>?_;(try simp);(repeat (rw[Η];simp));(try simp);apply F;refine W.ZM ?_;refine Wd ?_;refine W.Zs (.stop ?_);refine V.enable (b _ _ _).here (U8 _) ⟨⟨U,U,by simp[Frame.enter],U⟩,PI,⟨_,U⟩,U,U,U⟩ ?_;rw[JR];refine V.Zk (b _ _ _) ?_;refine W.ZM ?_;refine W.Zs ?_;refine XN [0] [1,2] ?_;refine W.stop ?_;refine V.conv (b _ _ _).here (sp:=sp) e.spec (by rw[Zp];exact id) ⟨U,U,by simp[Frame.enter],U⟩ U U U Ey PH Ex U (λh w ah I=>⟨_,I.SE⟩) (λφ h k=>?_);unfold VQ;rw[UE];refine V.Iu e.rel U (sp:=sp) e.spec Zp (.inr U) ⟨⟨U,U,by simp[Frame.enter],U⟩,JQ,⟨_,U⟩,U,U,U⟩ λi f j t1 J K L M g d N O P R T X Y Z=>?_;rw[WK];obtain rfl:f=[]:=YZ.1 d.holds.len;have aa:=E i j J K L M g.ext d.holds N O P R T X Y Z;refine V.here (x:=one _) (S:=Xu) (B:=[]) (σ:=[]) (m:=0) (nt:=84) ?_ (d.none Ω) _ U;refine V.Zk (b _ _ _) ?_;refine W.ZM ?_;refine Wd ?_;exact .stop (An e aa)
theorem rY {a b d:Nat} (h:a<=b) (c:b<7):a<8/\a<7:=I
theorem rX {a b:Nat} (h:a<b):¬b=0:=I
theorem rW (b:UW x s sp) (f:PF Q mn x c rest S H s n sp) {φ:Nat} {a:γ}:NN Q mn x c rest S H s (.par n 0 .w3) (some (φ,a)) 1 (.code (YP [0,1,1,1,1,1,0,1,1,1,0] Su)::.code (YP [0,1,1,1,1,1,0,1,1,1,1] Su)::.inBlock 1::MD) [(0,.z (ptr s 0)),(5,.z (.bool false))]:=by
 letI:Z1:=Yo;have d:=b.seq;have woken:∀v,NN Q mn x c rest S H s (.par n 0 .w4) v 1 (.code (YP [0,1,1,1,1,1,0,1,1,1,1] Su)::.inBlock 1::MD) [(0,.z (ptr s 0))]:=λv=>rZ b f;refine V.Zk (d _ _ _) ?_;unfold Su JG;refine W.Zs ?_;refine XN [0,1,2,3] [4] ?_;refine W.stop ?_;refine V.sU (d _ _ _).here (sp:=sp) b.spec (by rw[Zp];exact id) (vs:=[ptr s 1,.bool false]) U (λg e=>by rw[NQ e];exact b.still g e) ⟨⟨U,U,by simp[Frame.enter],U⟩,ss,⟨_,U⟩,U,U,U⟩ (λi a j h=>by rw[Zp];exact h) (λi a j h=>?_);refine⟨{a with YM:=a.YM-1},.par n 0 .w4,U,U,⟨U,U,U⟩,by rw[Zp];exact .wake h,λk l=>?_⟩;rw[WK];refine V.Zk (d _ _ _) ?_;refine W.ZM ?_;refine W.forget [(0,.z (ptr s 0))] Ω (.stop ?_);exact woken _
theorem rV (f:UW x s sp):∀(N φ:Nat) (b:γ) (S:ς) (H:Υ),φ<N->b.toSpec=sp->0<b.cnt->b.cnt<=b.top->b.wt=0->PF Q mn x c rest S H s n sp->
  NN Q mn x c rest S H s (.par n 0 .add) (some (φ,b)) 1 (.code (YP [0,1] Su)::.inBlock 1::MD) [(0,.z (ptr s 0)),(2,.z (.int .u64 (YY b)))]:=by
 letI:Z1:=Yo;have e:=f.seq;intro N
 induction N with
 | zero=>intro φ b S H h;exact absurd h (Nat.not_lt_zero _)
 | succ N ah=>
  intro φ b S H ai O P aj ak g;have al:=GM f O;obtain⟨k,aD⟩:=rY (d:=0) aj al;have f1:=GP b.cnt k 0 Z7;have f2:=GO b.cnt k 0 Z7;have f3:=GN b.cnt k 0 Z7;have f4:=r6 b.cnt k;have R:YY b=Wg b.cnt 0:=by rw[NP,ak]
  have T:¬b.cnt=0:=rX P
  have am:¬(b.cnt:Int)=0:=λh=>T (by exact_mod_cast h);rw[<-R] at f1 f2 f3 f4;have sleep:∀(S H) (φ:Nat) (b:γ),PF Q mn x c rest S H s n sp->NN Q mn x c rest S H s (.par n 0 .w3) (some (φ,b)) 1 (.code (YP [0,1,1,1,1,1,0,1,1,1,0] Su)::.code (YP [0,1,1,1,1,1,0,1,1,1,1] Su)::.inBlock 1::MD) [(0,.z (ptr s 0)),(5,.z (.bool false))]:=λS H φ b g=>rW f g;have an:∀(S H v),PF Q mn x c rest S H s n sp->NN Q mn x c rest S H s (.par n 0 .Sk) v 1 (.code (YP [0,1] Su)::.inBlock 1::MD) [(0,.z (ptr s 0)),(2,.z (.int .u64 0))]:=λS H v g=>Am f g;refine V.Zk (e _ _ _) ?_;unfold Su JG;refine Wc (Ξ f2 (Ξ f3 (Ξ T am))) ?_;refine W.Zs ?_;refine W.part (A:=[]) Ο [0,1,2,3,4,5] [6] U λX i=>?_;(try simp);(repeat (rw[Η];simp[f4]));(try simp[f4]);apply i;refine W.stop ?_;refine V.call (e _ _ _) ⟨U,U,by simp[Frame.enter],U⟩ U U U ⟨_,func131,U,U⟩ λaE ao aF t1 aG Y o hv=>?_;obtain rfl:=Wq (l:=[ptr s 0,.int .u64 (YY b),.int .u64 (Wg b.cnt 1)]) hv;obtain rfl:ao=[]:=YZ.1 o.holds.len;rintro y rfl;refine r4 f id o.holds (λp r t hv ap aq D E=>?_) (λp r t hv=>?_)
  .have Z:=t.view φ b Rl
   have ar:p<N:=by
    rcases Ns p φ with h|h
    .exact KO h (Nat.le_of_lt_succ ai)
    .exact absurd (by rw[Z.2 (Nat.le_antisymm Z.1 h)]) hv
   have u:=g.later (Y.ext.trans D);rw[V4 U];refine V.here (x:=one _) (m:=0) (nt:=84) ?_ ((o.put (a:=.z (.bool false)) U (.z _)).NO Ω E) _ U;refine V.Zk (e _ _ _) ?_;refine W.ZM ?_;refine Κ U ?_;refine ZO ?_;refine W.inLoop ?_;refine W.forget [(0,.z (ptr s 0))] Ω ?_;refine ZO ?_;refine W.Zs ?_;refine XN [0,1,2] [3,4] ?_;refine W.stop ?_;refine V.call (e _ _ _) ⟨U,U,by simp[Frame.enter],U⟩ U U U ⟨_,func119,U,U⟩ λaH au aI t3 aJ aa B av=>?_;obtain rfl:=Wq (l:=[ptr s 0]) av;obtain rfl:au=[]:=YZ.1 B.holds.len;rintro y rfl;refine Es f id B.holds λab j F=>?_;have I:=F.Vg.OJ;rw[Zp] at I;obtain⟨C,aw,ax,ay,az⟩:=I.add n 0 U;have aA:=F.view p r Rl;by_cases J:j.cnt=0
   .refine .inr ⟨.par n 0 .Sk,.thru J,λaK aL ad ae K L=>?_⟩;have aB:YY j=0:=by simp only[YY,C,J];rfl
    rw[aB,V4 U];have M:=u.later (aa.ext.trans K);refine V.here (x:=one _) (m:=0) (nt:=84) ?_ ((B.put (a:=.z (.int .u64 0)) U (.z _)).NO Ω L) _ U;refine V.Zk (e _ _ _) ?_;refine W.part (A:=[]) Ο [4] [] U λX i=>?_;(try simp);(repeat (rw[Η];simp));(try simp);apply i;refine W.ZM ?_;refine W.forget [(0,.z (ptr s 0)),(2,.z (.int .u64 0))] Ω (.stop ?_);exact an _ _ _ M
   .refine .inl λad ae K L=>?_;rw[V4 U];have M:=u.later (aa.ext.trans K);refine V.here (x:=one _) (m:=0) (nt:=84) ?_ ((B.put (a:=.z (.int .u64 (YY j))) U (.z _)).NO Ω L) _ U;refine V.Zk (e _ _ _) ?_;refine W.part (A:=[]) Ο [4] [] U λX i=>?_;(try simp);(repeat (rw[Η];simp));(try simp);apply i;refine W.ZM ?_;refine W.forget [(0,.z (ptr s 0)),(2,.z (.int .u64 (YY j)))] Ω (.stop ?_);exact ah ab j ad ae (L9 aA.1 ar) F.spec (Nat.pos_of_ne_zero J) I.cnt C M
  .have af:=t.Vg.OJ;rw[Zp] at af;obtain⟨C,aw,ax,ay,az⟩:=af.add n 0 U;have ag:r.cnt=b.cnt:=by rw[R,NP,C] at hv;simp only[Wg] at hv;omega
   refine⟨{r with wt:=1},.par n 0 .w3,?_,U,⟨U,U,U⟩,.C3 (by rw[ag];exact P),λab aM ap aq D E=>?_⟩
   .rw[NP];simp only[ag]
   rw[V4 U];have u:=g.later (Y.ext.trans D);refine V.here (x:=one _) (m:=0) (nt:=84) ?_ ((o.put (a:=.z (.bool true)) U (.z _)).NO Ω E) _ U;refine V.Zk (e _ _ _) ?_;refine W.ZM ?_;refine Ι U ?_;refine Wd ?_;refine W.Zs ?_;refine XN [0,1,2] [3,4] ?_;refine W.stop ?_;refine V.conv (e _ _ _).here (sp:=sp) f.spec (by rw[Zp];exact id) ⟨U,U,by simp[Frame.enter],U⟩ U U U AL PH AK U (λb w O aC=>⟨_,aC.Lq⟩) (λφ b t=>?_);unfold VQ;rw[UE];refine V.sX f.rel Zp Ω ⟨⟨U,U,by simp[Frame.enter],U⟩,sB,⟨_,U⟩,U,U,U⟩ ?_;refine V.Zk (e _ _ _) ?_;refine W.ZM ?_;refine Wc f1 ?_;refine W.forget [(0,.z (ptr s 0)),(5,.z (.bool false))] Ω (.stop ?_);exact sleep _ _ _ _ u
theorem Ep (e:UW x s sp) (E:Holds S B σ H) (p:PF Q mn x c rest S H s n sp) :
  ZE prog Q mn (ZU x s (.par n 0 .add) v 0) (Frame.enter prog 80 #[ptr s 0] .normal) (c::rest) H:=by
 letI:Z1:=Yo;have b:=e.seq;refine V.QB (z:=one _) (vs:=[ptr s 0]) func80 U E (by simp[ntmps80]) ?_ _ U;refine V.Zk (b _ _ _) ?_;refine Wd ?_;refine W.Zs (.stop ?_);refine V.disable (b _ _ _).here ⟨⟨U,U,by simp[Frame.enter],U⟩,ME,⟨_,U⟩,U,U,U⟩ ?_;rw[JS];refine V.Zk (b _ _ _) ?_;refine W.ZM ?_;refine ZO ?_;refine W.loop ?_;refine ZO ?_;refine W.Zs ?_;refine XN [0,1,2] [3,4] ?_;refine W.stop ?_;refine V.call (b _ _ _) ⟨U,U,by simp[Frame.enter],U⟩ U U U ⟨_,func119,U,U⟩ λL F M t3 N r f I=>?_;obtain rfl:=Wq (l:=[ptr s 0]) I;obtain rfl:F=[]:=YZ.1 f.holds.len;rintro y rfl;refine Es e id f.holds λt d u=>?_;have g:=u.Vg.OJ;rw[Zp] at g;obtain⟨w,O,P,R,T⟩:=g.add n 0 U;by_cases h:d.cnt=0
 .refine .inr ⟨.par n 0 .Sk,.thru h,λX Y C D i j=>?_⟩;have J:YY d=0:=by simp only[YY,w,h];rfl
  rw[J,V4 U];have k:=p.later (r.ext.trans i);refine V.here (x:=one _) (m:=0) (nt:=84) ?_ ((f.put (a:=.z (.int .u64 0)) U (.z _)).NO Ω j) _ U;refine V.Zk (b _ _ _) ?_;refine W.part (A:=[]) Ο [4] [] U λK o=>?_;(try simp);(repeat (rw[Η];simp));(try simp);apply o;refine W.ZM ?_;refine W.forget [(0,.z (ptr s 0)),(2,.z (.int .u64 0))] Ω (.stop ?_);exact Am e k
 .refine .inl λC D i j=>?_;rw[V4 U];have k:=p.later (r.ext.trans i);refine V.here (x:=one _) (m:=0) (nt:=84) ?_ ((f.put (a:=.z (.int .u64 (YY d))) U (.z _)).NO Ω j) _ U;refine V.Zk (b _ _ _) ?_;refine W.part (A:=[]) Ο [4] [] U λK o=>?_;(try simp);(repeat (rw[Η];simp));(try simp);apply o;refine W.ZM ?_;refine W.forget [(0,.z (ptr s 0)),(2,.z (.int .u64 (YY d)))] Ω (.stop ?_);exact rV e (t+1) t d C D (Pe _) u.spec (Nat.pos_of_ne_zero h) g.cnt w k
end
end Go.TL
namespace Go.TL
open Go.IntKind (i32 i64 u32 u64)
open Go.Proofs.Tryz
open Go.Conc Go.Proofs
open Go.ConcN (sumTo upd sumTo_upd upd_ne upd_same sumTo_congr le_sumTo)
variable [Z1]
def Zl.Li:Zl->Ψ->Prop
 | .ok a,b=>a=b
 | .ZD p r,b=>p/\r.Li b
 | .bad,_=>False
def Vq (P:Program) {b:Type} (s:Sem b) (a:b):Prop:=∀w,s.run P w=.ok a w/\∀es,s.events P w es=es
section
variable {P:Program} {T:Z2} {α β:Type}
theorem Vq.pure (a:α):Vq P (Pure.pure a) a:=λw=>⟨Ω,λes=>Ω⟩
theorem Vq.bind {s:Sem α} {f:α->Sem β} {a:α} {b:β} (h:Vq P s a) (k:Vq P (f a) b):Vq P (s >>= f) b:=λw=>⟨by simp[(h w).1,(k w).1,Result.andThen],λes=>by simp[(h w).1,(h w).2,(k w).2,Result.evThen]⟩
theorem Vq.program:Vq P Go.program P:=λw=>⟨Ω,λes=>Ω⟩
theorem Vq.underlying {t:TypeId} {d:TypeDesc} (h:P.underlying t=some d):Vq P (Go.underlying t) d:=λw=>⟨run_underlying h w,λes=>Ω⟩
theorem Vq.sizeOf {t:TypeId} {i:TypeInfo} (hi:P.info? t=some i):Vq P (Go.sizeOf t) i.size:=by
 unfold Go.sizeOf Go.typeInfo;refine Vq.bind (Vq.bind .program ?_) (Vq.pure _);show Vq P (match P.info? t with|some i=>Pure.pure i|none=>_) i;rw[hi];exact .pure _
theorem rU {d:BinOp} {f:TypeId} {p q:Operand} {x y v:Value} (h:(O5 d x y).Li (.z v)):Vq P (do eqGuard d f p q x y;binOp d f x y) v:=by
 unfold O5 at h;split at h
 case h_25=>exact h.elim
 case h_1=>
  obtain⟨a,b⟩:=h;cases b;have c:¬(_:Int)<0:=Np.2 a;simp only[eqGuard,binOp,Op.shift,c,if_false];exact .pure _
 case h_2=>
  obtain⟨a,b⟩:=h;cases b;have c:¬(_:Int)<0:=Np.2 a;simp only[eqGuard,binOp,Op.shift,c,if_false];exact .pure _
 case h_6=>
  split at h
  .rename_i e;subst e;obtain⟨a,b⟩:=h;cases b;simp only[eqGuard,binOp,Op.intDiv,a,if_false,ne_eq,not_true_eq_false];exact .pure _
  .exact h.elim
 case h_7=>
  split at h
  .rename_i e;subst e;obtain⟨a,b⟩:=h;cases b;simp only[eqGuard,binOp,Op.intDiv,a,if_false,ne_eq,not_true_eq_false];exact .pure _
  .exact h.elim
 case h_18=>
  obtain⟨a,b⟩:=h;cases b;have c:¬((_:Int) > i64.max):=Np.2 a;simp only[eqGuard,binOp,Op.stringOp,c,if_false];exact .pure _
 all_goals first
  |(cases h;exact .pure _)
  |(split at h
    .rename_i e;subst e;cases h;simp only[eqGuard,binOp,Op.intArith,Op.intBits,Op.intCmp,ne_eq,not_true_eq_false,if_false];exact .pure _
    .exact h.elim)
def Lh (T:Z2) (env:Β) (o:Oper):Zl:=match o.op with
 | .move x=>.ok (ο env x)
 | .assign x=>.ok (ο env x)
 | .pick c a b=>LG (ο env c) (ο env a) (ο env b)
 | .binOp e _ x y _=>match ο env x,ο env y with
  | .z a,.z b=>O5 e a b
  | _,_=>.bad
 | .unOp e _ x=>LW e (ο env x)
 | .convert s d x=>LN T s d (ο env x)
 | .nilCheck x=>match ο env x with
  | .z (.pointer (some a))=>.ok (.z (.pointer (some a)))
  | _=>.bad
 | .fieldAddr g x f=>match ο env x with
  | .z (.pointer (some ⟨b,o',none⟩))=>match Yt T g f with|some (o,_)=>.ok (.z (.pointer (some ⟨b,o'+o,none⟩)))|none=>.bad
  | _=>.bad
 | _=>.bad
theorem rT (m:ZL P T) {env:Β} {o:Oper} {v:Value} (h:(Lh T env o).Li (.z v)) {ρ:Operand->Value} (d:∀y u,ο env y=.z u->ρ y=u):Vq P (execOp ρ o) (.value v):=by
 have l:∀{s:Sem Value} {u:Value},Vq P s u->Vq P (do Pure.pure (Next.value (<-s))) (.value u):=λA=>.bind A (.pure _);unfold Lh at h;unfold execOp;split at h<;>rename_i B<;>first|(rw[B];simp only)|exact h.elim
 .rw[d _ _ h];exact .pure _
 .rw[d _ _ h];exact .pure _
 .rename_i c a b;unfold LG at h;split at h
  .rename_i p C;rw[d _ _ C];refine Vq.bind (a:=p) (Vq.pure _) ?_;split at h
   .rename_i y z r D;cases h;rw[d _ _ r,d _ _ D];cases p<;>exact .pure _
   .cases p with
    | true=>rw[d a v h];exact .pure _
    | false=>rw[d b v h];exact .pure _
  .exact h.elim
 .split at h
  .rename_i x y g r;rw[d _ _ g,d _ _ r];exact l (rU h)
  .exact h.elim
 .unfold LW at h;split at h
  .rename_i p t;rw[d _ _ t];split at h
   .cases h;exact l (.pure _)
   .exact h.elim
  .rename_i k n t;rw[d _ _ t];split at h
   .cases h;exact l (.pure _)
   .exact h.elim
  .exact h.elim
 .unfold LN at h;split at h
  .rename_i i j hi E;split at h
   .rename_i k kk n w g;cases h;rw[d _ _ g];refine l ?_;unfold convert;refine .bind (.underlying (m _ _ hi).1.1) (.bind (.underlying (m _ _ E).1.1) ?_);rw[w];exact .pure _
   .exact h.elim
  .exact h.elim
 .split at h
  .rename_i a g;cases h;rw[d _ _ g];exact .pure _
  .exact h.elim
 .split at h
  .rename_i b o' g;rw[d _ _ g];split at h
   .rename_i K L e;cases h;refine l ?_;unfold Yt at e;split at e<;>try cases e
    rename_i i hi;split at e<;>try cases e
    rename_i M w;split at e<;>try cases e
    rename_i x g;split at e<;>try cases e
    rename_i N F;split at e<;>try cases e
    rename_i H;unfold Instr.fieldAt;refine .bind (.underlying (m _ _ hi).1.1) ?_;rw[w];simp only[g];refine .bind (a:=⟨b,o',none⟩) (.pure _) ?_;obtain⟨f,I,J,_⟩:=(m _ _ F).2;refine .bind (a:=⟨b,o'+x.offset,none⟩) ?_ (.pure _);unfold fieldPlace;refine .bind (.sizeOf I) ?_;rw[J,if_neg H,QS];exact .pure _
   .exact h.elim
  .exact h.elim
end
theorem rS (vs:List Value) {nt:Nat} (d:vs.length<=nt):Zg Xu [] [] (entry 0 (vs.map Ψ.z)) (vs.toArray++Array.replicate (nt-vs.length) undef):=by
 have e:XQ Xu [] [] (vs.map Ψ.z) vs.toArray:=⟨Ω,λi a v b c=>by
  simp only[Ys,List.getElem?_toArray] at b c;rw[c] at b;cases b;exact .z v⟩
 have:=(XR.enter (JJ Υ.empty) (m:=0) (nt:=nt) e (ZY _) (by simpa using d)).Zt;simpa using this
def Eo (P:Program) (mn:Bool) (a:Goroutine->Prop):Prop:=∀g g',Vv g->(∀w,stepG P mn g w=.go g' w #[])->a g'->a g
def Ε (a:Goroutine->Prop) (b:Frame) (cs:Y3) (nt:Nat) (k:ZA) (env:Β):Prop:=∀t:ν,t.size=nt->Zg Xu [] [] env t->a (Go.Conc.G (χ b t k) cs)
def SY (T:Z2) (nt:Nat) (ops:ZI):κ->Β->(Β->Prop)->Prop
 | [],env,K=>K env
 | i::is,env,K=>W' ops[i]? λo=>WS nt o=true/\W' (XG env ops o) λw=>
   Wt w (SY T nt ops is (Zu o env .Zx) K) (∃v,(Lh T env o).Li (.z v)/\SY T nt ops is (Zu o env (.z v)) K)
theorem MC {T:Z2} {nt:Nat} {ops:ZI} {env:Β} {K:Β->Prop}:SY T nt ops [] env K=K env:=X' rfl rfl
def MB (T:Z2) (nt:Nat) (ops:ZI) (is:κ) (o:Oper) (env:Β) (K:Β->Prop):Zl->Prop
 | .ok (.z v)=>SY T nt ops is (Zu o env (.z v)) K
 | .ZD p (.ok (.z v))=>p/\SY T nt ops is (Zu o env (.z v)) K
 | _=>False
theorem rR {T:Z2} {nt:Nat} {ops:ZI} {is:κ} {o:Oper} {env:Β} {K:Β->Prop} {v:Value}:MB T nt ops is o env K (.ok (.z v))=SY T nt ops is (Zu o env (.z v)) K:=X' rfl rfl
theorem rQ {T:Z2} {nt:Nat} {ops:ZI} {is:κ} {o:Oper} {env:Β} {K:Β->Prop} {v:Value} {p:Prop}:MB T nt ops is o env K (.ZD p (.ok (.z v)))=(p/\SY T nt ops is (Zu o env (.z v)) K):=X' rfl rfl
theorem rP {T:Z2} {nt:Nat} {ops:ZI} {is:κ} {o:Oper} {env:Β} {K:Β->Prop} {r r':Zl} (h:r=r'):MB T nt ops is o env K r=MB T nt ops is o env K r':=by rw[h]
theorem rO {T:Z2} {nt:Nat} {ops:ZI} {is:κ} {o:Oper} {env:Β} {K:Β->Prop} {r:Zl} (h:MB T nt ops is o env K r):∃v,r.Li (.z v)/\SY T nt ops is (Zu o env (.z v)) K:=by
 unfold MB at h;split at h
 .exact⟨_,U,h⟩
 .exact⟨_,⟨h.1,U⟩,h.2⟩
 .exact h.elim
theorem WC {T:Z2} {nt:Nat} {ops:ZI} {i:Nat} {is:κ} {env:Β} {K:Β->Prop} (h:W' ops[i]? λo=>WS nt o=true/\W' (XG env ops o) λw=>Wt w (SY T nt ops is (Zu o env .Zx) K) (MB T nt ops is o env K (Lh T env o))):SY T nt ops (i::is) env K:=by
 unfold SY;unfold W' at h ⊢;split at h
 .exact h.elim
 rename_i o a;refine⟨h.1,?_⟩
 replace h:=h.2
 split at h
 .exact h.elim
 rename_i w b;exact⟨h.1,λe=>rO (h.2 e)⟩
section
variable {P:Program} {T:Z2} {mn:Bool} {Yi:Goroutine->Prop} {b:Frame} {cs:Y3} {nt:Nat} {k:ZA} {env:Β} {ops:ZI} {i:Nat} {rest:κ} {op:Oper}
variable (W1:Eo P mn Yi) (hb:b.mode=.run)
include W1 hb
theorem Ε.to {a:ZA} (c:∀t w,stepG.exec P mn true (χ b t k) cs none w=.go (Go.Conc.G (χ b t a) cs) w #[]) (h:Ε Yi b cs nt a env):Ε Yi b cs nt k env:=
 λt d e=>W1 _ _ ⟨U,U⟩ (λw=>(Vl hb w).trans (c t w)) (h t d e)
theorem Ε.skip (h:Ε Yi b cs nt k env):Ε Yi b cs nt (.code .skip::k) env:=.to W1 hb (λ_ _=>rfl) h
theorem Ε.inBlock {l:Nat} (h:Ε Yi b cs nt k env):Ε Yi b cs nt (.inBlock l::k) env:=.to W1 hb (λ_ _=>rfl) h
theorem Ε.seq {a c:Code} (h:Ε Yi b cs nt (.code a::.code c::k) env):Ε Yi b cs nt (.code (.seq a c)::k) env:=.to W1 hb (λ_ _=>rfl) h
theorem Ε.block {l:Nat} {c:Code} (h:Ε Yi b cs nt (.code c::.inBlock l::k) env):Ε Yi b cs nt (.code (.block l c)::k) env:=.to W1 hb (λ_ _=>rfl) h
theorem Ε.loop {c:Code} (h:Ε Yi b cs nt (.code c::.inLoop c::k) env):Ε Yi b cs nt (.code (.loop c)::k) env:=.to W1 hb (λ_ _=>rfl) h
theorem Ε.inLoop {c:Code} (h:Ε Yi b cs nt (.code c::.inLoop c::k) env):Ε Yi b cs nt (.inLoop c::k) env:=.to W1 hb (λ_ _=>rfl) h
theorem Ε.Zs {id:Nat} {ops:ZI} (h:Ε Yi b cs nt (.inRegion ops (idx ops.size [])::k) env):Ε Yi b cs nt (.code (.region id ops false)::k) env:=.to W1 hb (λ_ _=>by rw[idx_eq];rfl) h
theorem Ε.ZM {ops:ZI} (h:Ε Yi b cs nt k env):Ε Yi b cs nt (.inRegion ops []::k) env:=.to W1 hb (λ_ _=>rfl) h
theorem Ε.exit {l:Nat} {a:ZA} (c:exitTo l k=some a) (h:Ε Yi b cs nt a env):Ε Yi b cs nt (.code (.exit l)::k) env:=by
 refine .to W1 hb (λt w=>?_) h;unfold stepG.exec;simp only[χ,c,Option.elim];rfl
theorem Ε.cond {c:Operand} {a e:Code} {v:Bool} (g:ο env c=.z (.bool v)) (h:Ε Yi b cs nt (.code (if v then a else e)::k) env):Ε Yi b cs nt (.code (.cond c a e)::k) env:=by
 intro t i d;refine W1 _ _ ⟨U,U⟩ (λw=>?_) (h t i d);rw[Vl hb w];have f:(χ b t (.code (.cond c a e)::k)).eval c=.bool v:=by rw[Kr];exact JV d g
 unfold stepG.exec;simp only[χ] at f ⊢;rw[f];rfl
theorem Ε.SX {c:Operand} {a e:Code} (d:ο env c=.z (.bool true)) (h:Ε Yi b cs nt (.code a::k) env):Ε Yi b cs nt (.code (.cond c a e)::k) env:=.cond W1 hb d h
theorem Ε.SW {c:Operand} {a e:Code} (d:ο env c=.z (.bool false)) (h:Ε Yi b cs nt (.code e::k) env):Ε Yi b cs nt (.code (.cond c a e)::k) env:=.cond W1 hb d h
theorem En {t:ν} (h:Zg Xu [] [] env t) (hd:WS nt op=true) (b:t.size=nt) {a:Ψ} {v:Value} (c:Θ Xu [] [] a v):(put op t v).size=nt/\Zg Xu [] [] (Zu op env a) (put op t v):=⟨(PV h hd b c).2,(PV h hd b c).1⟩
theorem Ε.unwanted (c:ops[i]?=some op) (e:XG env ops op=some false) (hd:WS nt op=true) (h:Ε Yi b cs nt (.inRegion ops rest::k) (Zu op env .Zx)):Ε Yi b cs nt (.inRegion ops (i::rest)::k) env:=by
 intro t f d;obtain⟨g,j⟩:=En (b:=b) W1 hb d hd f (a:=.Zx) (v:=undef) (.Zx _);refine W1 _ _ ⟨U,U⟩ (λw=>?_) (h _ g j);rw[Vl hb,<-V4 c];have l:((ops[i]?).map (Region.wanted · (yielded ops t))).getD false=false:=by simp[c,UF d e]
 unfold stepG.exec;simp only[χ,l];rfl
theorem Ε.opn (f:ZL P T) (d:b.roundOf=none) (g:b.kind≠.early) (j:ops[i]?=some op) (l:XG env ops op=some true) (hd:WS nt op=true) {v:Value} (hv:(Lh T env op).Li (.z v)) (h:Ε Yi b cs nt (.inRegion ops rest::k) (Zu op env (.z v))):Ε Yi b cs nt (.inRegion ops (i::rest)::k) env:=by
 intro t m c;obtain⟨n,o⟩:=En (b:=b) W1 hb c hd m (a:=.z v) (v:=v) (.z v);refine W1 _ _ ⟨U,U⟩ (λw=>?_) (h _ n o);have e:=rT f hv (ρ:=ZW t) λy u p=>JV c p;rw[Xn hb d,Xn hb d,<-OM,stepG_value (a:=⟨t,b.defers⟩) j (UF c l) g (by rw[UY];exact(e w).1)];unfold listed;rw[UY,(e w).2,seen_none]
theorem Ε.part (g:ZL P T) (j:b.roundOf=none) (m:b.kind≠.early) (is a:κ) {l:κ} (n:l=is++a) (h:∀c:Β->Prop,(∀env,Ε Yi b cs nt (.inRegion ops a::k) env->c env)->SY T nt ops is env c):Ε Yi b cs nt (.inRegion ops l::k) env:=by
 subst n;have p:∀(is:κ) (env:Β),SY T nt ops is env (λenv=>Ε Yi b cs nt (.inRegion ops a::k) env)->Ε Yi b cs nt (.inRegion ops (is++a)::k) env:=by
  intro is
  induction is with
  | nil=>intro env h;exact h
  | cons i is d=>
   intro env h;unfold SY W' at h;split at h
   .exact h.elim
   rename_i o e;obtain⟨hd,h⟩:=h;split at h
   .exact h.elim
   rename_i w f;cases w with
   | false=>exact .unwanted W1 hb e f hd (d _ (h.1 rfl))
   | true=>
    obtain⟨v,r,s⟩:=h.2 U;exact .opn W1 hb g j m e f hd r (d _ s)
 exact p is env (h _ λ_ h=>h)
theorem Ε.region (c:ZL P T) (d:b.roundOf=none) (e:b.kind≠.early) {id:Nat} (h:∀a:Β->Prop,(∀env,Ε Yi b cs nt k env->a env)->SY T nt ops (idx ops.size []) env a):Ε Yi b cs nt (.code (.region id ops false)::k) env:=by
 refine .Zs W1 hb (.part W1 hb c d e (idx ops.size []) [] Ω λa f=>h a λenv g=>f env (.ZM W1 hb g))
theorem Ε.GW (d:TA b ops i op) (e:XG env ops op=some true) (hd:WS nt op=true) {f:FuncId} {args:Array Operand} {ts:Array TypeId} (g:op.op=.call ⟨.value (.func f),args,ts⟩) {v:Value} (j:Entry P f (λ_=>pure v)) (h:Ε Yi b cs nt (.inRegion ops rest::k) (Zu op env (.z v))):Ε Yi b cs nt (.inRegion ops (i::rest)::k) env:=by
 intro t l c;obtain⟨m,n⟩:=En (b:=b) W1 hb c hd l (a:=.z v) (v:=v) (.z v);exact W1 _ _ ⟨U,U⟩ (λw=>G5 j d (UF c e) g (vs:=args.map (ZW t)) U Ω Ω Ω) (h _ m n)
theorem Ε.EH (c:TA b ops i op) (e:XG env ops op=some true) (g:op.dst=none) {f:FuncId} {ts:Array TypeId} (j:op.op=.defer ⟨.value (.func f),#[],ts⟩)
  (h:Ε Yi {b with defers:=Go.Conc.dcall f #[]::b.defers} cs nt (.inRegion ops rest::k) env):Ε Yi b cs nt (.inRegion ops (i::rest)::k) env:=by
 intro t l d;refine W1 _ (Go.Conc.G (χ {b with defers:=Go.Conc.dcall f #[]::b.defers} t (.inRegion ops rest::k)) cs) ⟨U,U⟩ (λw=>?_) (h t l d);rw[Xn c.run c.ro,stepG_defer (a:=⟨t,b.defers⟩) c.op (UF d e) c.kd j];have:(⟨t,Go.Conc.dcall f #[]::b.defers⟩:_root_.Go.Act).put op.dst undef=⟨t,Go.Conc.dcall f #[]::b.defers⟩:=by rw[g];rfl
 simp only[Array.map_empty,List.map_toArray,L7];rw[this,Xn (b:={b with defers:=Go.Conc.dcall f #[]::b.defers}) c.run c.ro];rfl
theorem Ε.call (c:TA b ops i op) (o:XG env ops op=some true) {args:Array Operand} {ts:Array TypeId} {g:FuncId} (p:op.op=.call ⟨.value (.func g),args,ts⟩) {vs:List Value} (r:JW env args vs) {fn:Func} {body:Code} (l:P.funcs[g]?=some fn) (s:(fn.name == "runtime.NumGoroutine")=false) (d:fn.body=some body) (u:vs.length<=fn.ntmps)
  (h:∀t:ν,t.size=nt->Zg Xu [] [] env t->Ε Yi (Frame.enter P g vs.toArray .normal) (χ b t (.inRegion ops (i::rest)::k)::cs) fn.ntmps [.code body] (entry 0 (vs.map Ψ.z))):Ε Yi b cs nt (.inRegion ops (i::rest)::k) env:=by
 intro t f j;have m:=h t f j (vs.toArray++Array.replicate (fn.ntmps-vs.length) undef) (by simp;omega) (rS vs u);rw[show vs.toArray++Array.replicate (fn.ntmps-vs.length) undef=vs.toArray++Array.replicate (fn.ntmps-vs.toArray.size) undef by simp,<-T7 l d] at m;refine W1 _ _ ⟨U,U⟩ (λw=>?_) m;have v:(fn.name == "runtime.NumGoroutine")=false:=s;have x:fn.body.isNone=false:=by rw[d];rfl
 have n:(execOp (ZW t) op).run P w=.ok (.enter g vs.toArray) w/\(execOp (ZW t) op).events P w #[]=#[]:=by
  have e:execOp (ZW t) op=callFunc g vs.toArray:=by
   unfold execOp;rw[p];have:args.map (ZW t)=vs.toArray:=r.ZW j;simp only[resolve];rw[this];simp[Deferred.ofValue,Go.TL.ZW,invoke]
  rw[e];unfold callFunc;have f:¬fn.name = "runtime.NumGoroutine" := by simpa using v
  simp[l,f,d]
 rw[Xn c.run c.ro,stepG_enter (a:=⟨t,b.defers⟩) c.op (UF j o) c.kd (by rw[UY];exact n.1)];unfold listed;rw[UY,n.2,seen_none]
theorem Ε.OL (e:b.roundOf=none) (g:b.defers=[]) (i:b.kind=.normal) {fn:Func} (j:P.funcs[b.fn]?=some fn) {d:Nat} (f:fn.results=#[.tmp d]) {v:Value} (hv:ι env d=.z v) {c:Frame}
  (h:Yi (Go.Conc.G (c.finish v) cs)):Ε Yi b (c::cs) nt (.code .ret::k) env:=by
 intro t n l;have m:t.getD d undef=v:=by
  have:=l d;rw[hv] at this;generalize t.getD d undef=u at this;cases this;rfl
 refine W1 _ (Go.Conc.G {χ b t (.code .ret::k) with mode:=.returning} (c::cs)) ⟨U,U⟩ (λw=>?_) (W1 _ _ ⟨U,U⟩ (λw=>?_) h)
 .rw[Vl hb];unfold stepG.exec;simp only[χ,e];rfl
 .rw[Xn hb e,stepG_leave (a:=⟨t,b.defers⟩) i g j (results_tmp f _ P w) (events_results_tmp f _ _),m]
theorem Ε.GX (d:b.roundOf=none) (f:b.defers=[]) (g:b.kind=.normal) {fn:Func} (i:P.funcs[b.fn]?=some fn) (e:fn.results=#[]) {c:Frame}
  (h:Yi (Go.Conc.G (c.finish (.tuple #[])) cs)):Ε Yi b (c::cs) nt [] env:=by
 intro t j k;refine W1 _ (Go.Conc.G {χ b t [] with mode:=.returning} (c::cs)) ⟨U,U⟩ (λw=>?_) (W1 _ _ ⟨U,U⟩ (λw=>?_) h)
 .rw[Vl hb];unfold stepG.exec;simp only[χ,d];rfl
 .rw[Xn hb d,stepG_leave (a:=⟨t,b.defers⟩) g f i (Go.results_none e _ P w) (Go.Conc.events_results_none e _ _)]
end
attribute [congr] rP
attribute [simp] MC rR rQ Lh
def UD (P:Program) (a:Value->Prop) (mn:Bool) (y:Z5) (g:Goroutine):Prop:=Vv g/\Goes P a mn g {y with G:=Υ.empty}
def T3 (P:Program) (d:Nat) (g:Goroutine):Prop:=∃n,QuitsD P n d g
theorem ZK {P:Program} {c:Value->Prop} {mn:Bool} {y:Z5} (d:X4 y):Eo P mn (UD P c mn y):=λg g' a e b=>⟨a,Quiet.goes (.cons a e (.nil _)) d b.1 b.2⟩
theorem Yj {P:Program} {d:Nat}:Eo P false (T3 P d):=λg g' a b ⟨n,c⟩=>⟨n+1,.ctl a.1 b c⟩
section
variable {P:Program} {Q:Value->Prop} {mn:Bool} {y:Z5} {b:Frame} {cs:Y3} {nt:Nat} {k:ZA} {env:Β}
variable {ops:ZI} {i:Nat} {rest:κ} {op:Oper} {f:FuncId} {e:ν->Sem Value} {args:Array Operand} {vs:List Value}
theorem Ε.leaves {d:Nat} (a:y.rel=true) (c:∀s,Gone (y.tok s)) (hd:y.deaf=d) (h:Ε (T3 P d) b cs nt k env):Ε (UD P Q false y) b cs nt k env:=λt e f=>by
 obtain⟨n,g⟩:=h t e f;subst hd;exact⟨⟨U,U⟩,Goes.quits n a c g⟩
theorem Ε.disable (d:X4 y) (h:WL P b ops i op f (λ_=>do mark .disable;pure Extern.Race.none_) args env [] nt) (e:Ε (UD P Q mn {y with deaf:=y.deaf+1}) b cs nt (.inRegion ops rest::k) (Zu op env Sv)):Ε (UD P Q mn y) b cs nt (.inRegion ops (i::rest)::k) env:=λt g c=>by
 obtain⟨j,l⟩:=PV c h.dst g (a:=Sv) (v:=.tuple #[]) (.z _);exact⟨⟨U,U⟩,Goes.step d.ok (.inr ⟨⟨U,U⟩,.inr (.inl ⟨Go.Conc.G (χ b (put op t (.tuple #[])) (.inRegion ops rest::k)) cs,⟨U,U⟩,.inl λw _=>
  ⟨h.step c (G4 .disable) (G3 .disable _) (QE Ω),(e _ l j).2⟩⟩)⟩)⟩
def Em (P:Program) (Q:Value->Prop) (mn:Bool) (y:Z5) (b:Frame) (cs:Y3) (nt:Nat) (ops:ZI) (rest:κ) (k:ZA) (op:Oper) (env:Β) (s φ:Nat) (a:γ) (v:Value):Prop:=
 Ε (UD P Q mn {y with view:=upd y.view s (some (φ,a))}) b cs nt (.inRegion ops rest::k) (Zu op env (.z v))
def GK (P:Program) (Q:Value->Prop) (mn:Bool) (y:Z5) (b:Frame) (cs:Y3) (nt:Nat) (ops:ZI) (rest:κ) (k:ZA) (op:Oper) (env:Β) (s φ:Nat) (c:γ) (v:Value) (o':γ) (t':Tok):Prop:=
 Act c (y.tok s) o' t'/\∀a,a<φ->Ε (UD P Q mn {y with tok:=upd y.tok s t',view:=upd y.view s (some (a,o'))}) b cs nt (.inRegion ops rest::k) (Zu op env (.z v))
theorem Ε.ext (r:X4 y) {s:Nat} {sp:Spec} (u:y.spec s=some sp) (x:¬XE (y.tok s)) (h:WL P b ops i op f e args env vs nt)
  (A:∀(w:World) (φ:Nat) (c:γ),Seen y s sp φ c->At s c w->
   (∃v w' d,(e vs.toArray).run P w=.ok v w'/\(e vs.toArray).events P w #[⟨.mark (Mark.extern f),false,true⟩]=#[⟨.mark (Mark.extern f),false,true⟩]++d/\(∀y∈d,y.sync=true/\∀g,y.loc≠.mark (Mark.extern g))/\
    Xp (λB _=>Yc s sp B) (λ_=>False) w w'/\RD s sp y.deaf d/\
    ((At s c w'/\Em P Q mn y b cs nt ops rest k op env s φ c v)\/∃o' t',At s o' w'/\GK P Q mn y b cs nt ops rest k op env s φ c v o' t'))) :
  Ε (UD P Q mn y) b cs nt (.inRegion ops (i::rest)::k) env:=by
 obtain⟨ts,n⟩:=h.call;intro t C j;refine⟨⟨U,U⟩,Goes.step r.ok (.inr ⟨⟨U,U⟩,.inr (.inr (.inr (.inl ⟨s,sp,u,x,λw φ c V hv D E F H=>?_⟩)))⟩)⟩;obtain⟨v,w',d,I,J,K,L,M,N⟩:=A w φ c ⟨D,F,H⟩ E;have O:=G5 (mn:=mn) (cs:=cs) (rest:=rest) (k:=k) h.Rq h.at_ (UF j h.want) n (h.JU.ZW j) I J K;refine .inl ?_;rw[O];obtain⟨o,p⟩:=PV j h.dst C (a:=.z v) (v:=v) (.z _);refine⟨⟨U,U⟩,L,M,?_⟩;rcases N with⟨l,m⟩|⟨o',t',l,m,R⟩
 .exact .inl ⟨l,(m _ p o).2⟩
 .exact .inr ⟨o',t',m,l,.inl (A5 h.Rq h.at_ n),λS T=>(R S T _ p o).2⟩
section
variable {s:Nat} {sp:Spec} (X7:X4 y) (hd:0<y.deaf) (VE:y.spec s=some sp) (VD:¬XE (y.tok s))
include X7 hd VE VD
theorem Ε.EJ (h:WL P b ops i op f (Extern.Atomic.loadT (.int .u64)) args env [.pointer (some ⟨s,0,none⟩)] nt)
  (e:∀φ a,Seen y s sp φ a->Em P Q mn y b cs nt ops rest k op env s φ a (.int .u64 (YY a))):Ε (UD P Q mn y) b cs nt (.inRegion ops (i::rest)::k) env:=by
 refine .ext X7 VE VD h λw φ a g c=>?_;have d:=c.SE;refine⟨.int .u64 (YY a),w,#[⟨.cell ⟨s,0,none⟩,false,true⟩],?_,?_,PK (PL _ false),Xp.refl _ _ _,PN (.inl U) hd (PL _ false),.inl ⟨c,e φ a g⟩⟩
 .change Sem.run P (do Extern.Atomic.read (.int .u64) (<-asAddr (.pointer (some _)))) w=_;simp[Extern.Atomic.read,asAddr,d]
 .change Sem.events P (do Extern.Atomic.read (.int .u64) (<-asAddr (.pointer (some _)))) w _=_;simp[Extern.Atomic.read,asAddr,d,events_load]
theorem Ε.EI {d:Int} (h:WL P b ops i op f (Extern.Atomic.update (Op.intArith .add) .u64 true) args env [.pointer (some ⟨s,0,none⟩),.int .u64 d] nt)
  (o:∀φ a,Seen y s sp φ a->∃o' t',YY o'=u64.wrap (YY a+d)/\o'.YM=a.YM/\PJ a o'/\GK P Q mn y b cs nt ops rest k op env s φ a (.int .u64 (YY o')) o' t') :
  Ε (UD P Q mn y) b cs nt (.inRegion ops (i::rest)::k) env:=by
 refine .ext X7 VE VD h λw φ a p c=>?_;have j:=c.SE;have l:=c.NR 0;obtain⟨o',t',m,r,e,n⟩:=o φ a p;rw[m] at n;refine⟨_,_,_,run_add_entry j l,(events_add_entry j l _).trans U,PK (PM ⟨s,0,none⟩),c.Ln _,PN (.inl U) hd (PM ⟨s,0,none⟩),.inr ⟨o',t',c.Lo e.ZS e.g e.w ?_,n⟩⟩;rw[m,r];rfl
theorem Ε.rN {d:Int} (h:WL P b ops i op f Extern.Atomic.storeT args env [.pointer (some ⟨s,0,none⟩),.int .u64 d] nt)
  (m:∀φ a,Seen y s sp φ a->∃o' t',YY o'=d/\o'.YM=a.YM/\PJ a o'/\GK P Q mn y b cs nt ops rest k op env s φ a (.tuple #[]) o' t') :
  Ε (UD P Q mn y) b cs nt (.inRegion ops (i::rest)::k) env:=by
 refine .ext X7 VE VD h λw φ a n c=>?_;have j:=c.SE;have l:=c.NR 0;obtain⟨o',t',o,p,e,r⟩:=m φ a n;refine⟨.tuple #[],w.setCell ⟨s,0,none⟩ (.int .u64 d),#[⟨.cell ⟨s,0,none⟩,true,true⟩],?_,?_,PK (PL _ true),c.Ln _,PN (.inl U) hd (PL _ true),.inr ⟨o',t',c.Lo e.ZS e.g e.w (by rw[o,p];rfl),r⟩⟩
 .change Sem.run P (do
   store (<-asAddr (.pointer (some _))) (.int .u64 d) .atomic
   pure Extern.Atomic.none_) w=_
  simp[asAddr,j,l,run_store P w _ (.int .u64 d) .atomic U,Result.andThen,Extern.Atomic.none_]
 .change Sem.events P (do
   store (<-asAddr (.pointer (some _))) (.int .u64 d) .atomic
   pure Extern.Atomic.none_) w _=_
  simp[asAddr,j,l,events_store P w _ _ (.int .u64 d) .atomic U]
end
section
variable {s:Nat} {sp:Spec} (X7:X4 y) (VE:y.spec s=some sp) (VD:¬XE (y.tok s))
include X7 VE VD
theorem Ε.rM (e:vs[0]?=some (.pointer (some ⟨s,1,none⟩))) (h:WL P b ops i op f Extern.Sync.semrelease args env vs nt)
  (l:∀φ a,Seen y s sp φ a->a.YM<1000/\∃o' t',YY o'=YY a/\o'.YM=a.YM+1/\PJ a o'/\GK P Q mn y b cs nt ops rest k op env s φ a (.tuple #[]) o' t') :
  Ε (UD P Q mn y) b cs nt (.inRegion ops (i::rest)::k) env:=by
 refine .ext X7 VE VD h λw φ a m c=>?_;have j:=c.Lq;obtain⟨r,o',t',n,o,d,p⟩:=l φ a m;refine⟨_,_,_,AW e j (c.NR 1),AV e j (c.NR 1) _,semEvents_sync _,c.Ln _,GY (.inl U),.inr ⟨o',t',c.Lo d.ZS d.g d.w ?_,p⟩⟩;rw[n,o,show u32.wrap (((a.YM:Nat):Int)+1)=((a.YM+1:Nat):Int) by simp only[IntKind.wrap_u32];omega];rfl
end
theorem Al {t:ν} (e:b.mode=.run) (g:b.roundOf=none) (i:b.defers=[Go.Conc.dcall f #[]]) (j:b.kind=.normal) {fn:Func} (l:P.funcs[b.fn]?=some fn) (d:fn.results=#[]) (m:Entry P f (λ_=>do mark .enable;pure Extern.Race.none_)) {c:Frame}
  (h:T3 P 0 (Go.Conc.G (c.finish (.tuple #[])) cs)):T3 P 1 (Go.Conc.G {χ b t k with mode:=.returning} (c::cs)):=by
 obtain⟨x,o,p,r,s,u⟩:=m;obtain⟨n,v⟩:=h;rw[Xn e g];refine⟨n+1+1,QuitsD.unwind_mark (a:=⟨t,b.defers⟩) (ds:=[]) .enable U Ω i o p r s u ?_⟩;exact .ctl U (λw=>stepG_leave (a:=⟨t,[]⟩) j U l (Go.results_none d _ P w) (Go.Conc.events_results_none d _ _)) v
theorem Ε.Er (a:b.mode=.run) (d:b.roundOf=none) (e:b.defers=[Go.Conc.dcall f #[]]) (g:b.kind=.normal) {fn:Func} (i:P.funcs[b.fn]?=some fn) (j:fn.results=#[]) (l:Entry P f (λ_=>do mark .enable;pure Extern.Race.none_)) {c:Frame}
  (h:T3 P 0 (Go.Conc.G (c.finish (.tuple #[])) cs)):Ε (T3 P 1) b (c::cs) nt (.code .ret::k) env:=λt _ _=>by
 refine Yj _ (Go.Conc.G {χ b t (.code .ret::k) with mode:=.returning} (c::cs)) ⟨U,U⟩ (λw=>?_) (Al a d e g i j l h);rw[Vl a];unfold stepG.exec;simp only[χ,d];rfl
theorem Ε.rL (a:b.mode=.run) (d:b.roundOf=none) (e:b.defers=[Go.Conc.dcall f #[]]) (g:b.kind=.normal) {fn:Func} (i:P.funcs[b.fn]?=some fn) (j:fn.results=#[]) (k:Entry P f (λ_=>do mark .enable;pure Extern.Race.none_)) {c:Frame}
  (h:T3 P 0 (Go.Conc.G (c.finish (.tuple #[])) cs)):Ε (T3 P 1) b (c::cs) nt [] env:=λt _ _=>by
 refine Yj _ (Go.Conc.G {χ b t [] with mode:=.returning} (c::cs)) ⟨U,U⟩ (λw=>?_) (Al a d e g i j k h);rw[Vl a];unfold stepG.exec;simp only[χ,d];rfl
end
def Lg (x:Z5):Z5:={x with Z8:=λ_=>none,rel:=true}
theorem V.FH {P:Program} {m:Value->Prop} {x:Z5} {b:Frame} {cs:Y3} {nt:Nat} {o:Base} {k:ZA} {env:Β} {ops:ZI} {i:Nat} {rest:κ} {l:Oper} {f:FuncId} {args:Array Operand} (r:x.rel=false) {s n:Nat} {sp:Spec} {c:TT} {v:Option (Nat×γ)} (E:x.spec s=some sp) (F:c=.done\/(c=.idle/\sp.ZS=none)) (I:∀g,g≠s->XE (x.tok g)) (J:sp.D n Υ.empty)
  (h:WL P b ops i l f (Extern.Race.marked .releaseMerge) args env [.pointer (some ⟨s,0,none⟩)] nt) (K:∀p∈Zu l env Sv,∃v,p.2=Ψ.z v)
  (L:Ε (UD P m false (ZU (Lg x) s (.ch n c .rel) none 0)) b cs nt (.inRegion ops rest::k) (Zu l env Sv)):V P m false (one (ZU x s (.ch n c .work) v 0)) b cs nt o (.inRegion ops (i::rest)::k) env []:=by
 intro S B H t O u y M;cases M;have A:=u.put h.dst (a:=Sv) (v:=.tuple #[]) (.z _);have N:=(L _ A.size (JK K A.Zt)).2;refine Goes.step (X4.ok (.inl r)) (.inr ⟨⟨U,U⟩,.inr (.inr (.inr (.inr (.inr (.inr (.inl ⟨s,sp,n,c,Go.Conc.G (χ b (put l t (.tuple #[])) (.inRegion ops rest::k)) cs,Υ.empty,E,Zp (v:=v) (d:=0),F,λg C=>by
  rw[show({ZU x s (.ch n c .work) v 0 with G:=H}:Z5).tok g=(ZU x s (.ch n c .work) v 0).tok g from rfl,NQ C];exact I g C,U,⟨U,U⟩,r,λw _=>
  h.step u.Zt (MG .releaseMerge _) (MF .releaseMerge _ _) (QE Ω),⟨λb o v p j=>(by cases j),λb y j=>(by cases j),λb y j=>(by cases j)⟩,J,?_⟩))))))⟩)
 have e:({({ZU x s (.ch n c .work) v 0 with G:=H}:Z5) with G:=Υ.empty,Z8:=λ_=>none,tok:=upd ({ZU x s (.ch n c .work) v 0 with G:=H}:Z5).tok s (.ch n c .rel),view:=upd ({ZU x s (.ch n c .work) v 0 with G:=H}:Z5).view s none,rel:=true}:Z5)={ZU (Lg x) s (.ch n c .rel) none 0 with G:=Υ.empty}:=by
  unfold ZU Lg;simp only[EF]
 exact e▸N
end Go.TL
namespace Go.TL
open Go.IntKind (i32 i64 u32 u64)
open Go.Proofs.Tryz
open Go.Conc Go.Proofs
open Go.ConcN (sumTo upd sumTo_upd upd_ne upd_same sumTo_congr le_sumTo)
noncomputable def GJ:Code:=f72.body.getD .skip
noncomputable abbrev El (s:Nat):Frame:={Frame.enter prog 72 #[ptr s 0,.int .i64 (-1)] .normal with defers:=[Go.Conc.dcall 112 #[]]}
theorem rK:u64.wrap (u64.wrap (-1)*2 ^ min 32 u64.bits)=18446744069414584320:=Z7
theorem rJ:u64.wrap (18446744073709551615*2 ^ min 32 u64.bits)=18446744069414584320:=Z7
theorem rI:u64.wrap (-1)=18446744073709551615:=Z7
theorem GI:i32.wrap (-1)=-1:=Z7
section
variable {Q:Value->Prop} {c:Frame} {rest:Y3} {s k:Nat} {sp:Spec} {v:Option (Nat×γ)}
theorem rH [Z1] (n:T3 prog 0 (Go.Conc.G (c.finish (.tuple #[])) rest)) {cc w0:Nat} (e:cc<8) (f:w0<2) (o:0<cc\/w0=0) {env:Β} (g:ι env 0=.z (ptr s 0)) (h:ι env 1=.z (.int .i64 (-1))) (i:ι env 4=.z (.bool false)) (d:ι env 6=.z (.int .u64 (Wg cc w0))) :
  Ε (T3 prog 1) (El s) (c::rest) 117 [.code (YP [1,1,1,1] GJ)] env:=by
 have j:∀(K:ZA) (env:Β),Ε (T3 prog 1) (El s) (c::rest) 117 (.code .ret::K) env:=λK env=>Ε.Er U U U U func72 U PI n
 have k:¬(cc:Int)<0:=Np.2 (Int.natCast_nonneg _)
 have p:w0=0\/w0=1:=I
 have f1:=GP cc e w0 f
 have f2:=GO cc e w0 f
 have f3:=GN cc e w0 f;generalize Wg cc w0=w at f1 f2 f3 d;unfold GJ;by_cases a:0<cc
 .have l:(0:Int)<cc:=by exact_mod_cast a
  rcases p with rfl|rfl
  ·(repeat (first|refine Ε.seq Yj rfl ?_|refine Ε.block Yj rfl ?_|refine Ε.inBlock Yj rfl ?_|refine Ε.skip Yj rfl ?_|refine Ε.SX Yj rfl rfl ?_|refine Ε.SW Yj rfl rfl ?_|(refine Ε.region Yj rfl Ο rfl (by simp[Frame.enter]) λm b=>?_;(try simp);(repeat (refine WC ?_;simp[g,h,i,d,f1,f2,f3,GI,k,a,l]));refine b _ ?_)));exact j _ _
  ·(repeat (first|refine Ε.seq Yj rfl ?_|refine Ε.block Yj rfl ?_|refine Ε.inBlock Yj rfl ?_|refine Ε.skip Yj rfl ?_|refine Ε.SX Yj rfl rfl ?_|refine Ε.SW Yj rfl rfl ?_|(refine Ε.region Yj rfl Ο rfl (by simp[Frame.enter]) λm b=>?_;(try simp);(repeat (refine WC ?_;simp[g,h,i,d,f1,f2,f3,GI,k,a,l]));refine b _ ?_)));exact j _ _
 .have r:w0=0:=o.resolve_left a
  have t:cc=0:=Nat.eq_zero_of_not_pos a;subst r;subst t;(repeat (first|refine Ε.seq Yj rfl ?_|refine Ε.block Yj rfl ?_|refine Ε.inBlock Yj rfl ?_|refine Ε.skip Yj rfl ?_|refine Ε.SX Yj rfl rfl ?_|refine Ε.SW Yj rfl rfl ?_|(refine Ε.region Yj rfl Ο rfl (by simp[Frame.enter]) λm b=>?_;(try simp);(repeat (refine WC ?_;simp[g,h,i,d,f1,f2,f3,GI]));refine b _ ?_)));exact j _ _
structure Qy (x:Z5) (s:Nat) (sp:Spec):Prop where
 rel:x.rel=true
 spec:x.spec s=some sp
 top:sp.top<7
 shut:∀a,a≠s->XE (x.tok a)
theorem Qy.here {x:Z5} (h:Qy x s sp) {g:Of} {d:Nat} (a:g≠.gone):X4 (ZU x s (.ch k .done g) v d):=.inr ⟨s,by rw[Zp];cases g<;>simp_all [Gone]⟩
theorem Qy.gone {x:Z5} (h:Qy x s sp) {d:Nat}:∀a,Gone ((ZU x s (.ch k .done .gone) v d).tok a):=λa=>by
 by_cases e:a=s
 .subst e;rw[Zp];trivial
 .rw[NQ e];have:=h.shut a e;revert this;cases x.tok a with
  | nil=>exact λ_=>trivial
  | par n p b=>cases b<;>exact λh=>h
  | ch k m g=>exact λh=>h.elim
theorem Qy.GM {x:Z5} (b:Qy x s sp) {a:γ} (h:a.toSpec=sp):a.top<7:=by have:=b.top;rw[show a.top=sp.top by rw[<-h]];exact this
theorem Ε.back [Z1] {d:Goroutine->Prop} {b:Frame} {cs:Y3} {nt:Nat} {k:ZA} {env:Β} {ops:ZI} {i:Nat} {rest:κ} {c:Oper} {t:ν} {v:Value} (e:ops[i]?=some c) (hd:WS nt c=true) (f:t.size=nt) (g:Zg Xu [] [] env t)
  (h:Ε d b cs nt (.inRegion ops rest::k) (Zu c env (.z v))):d (Go.Conc.G ((χ b t (.inRegion ops (i::rest)::k)).finish v) cs):=by
 rw[V4 e];obtain⟨j,l⟩:=PV g hd f (a:=.z v) (v:=v) (.z _);exact h _ l j
theorem Ε.Ak [Z1] {P:Program} {b:Frame} {cs:Y3} {nt:Nat} {env:Β} (d:b.mode=.run) (e:b.roundOf=none) (f:b.defers=[]) (g:b.kind=.deferred) {fn:Func} (i:P.funcs[b.fn]?=some fn) (j:fn.results=#[]) {c:Frame} (k:c.mode=.returning)
  (h:T3 P 0 (Go.Conc.G c cs)):Ε (T3 P 0) b (c::cs) nt [] env:=λt _ _=>by
 obtain⟨n,l⟩:=h;refine Yj _ (Go.Conc.G {χ b t [] with mode:=.returning} (c::cs)) ⟨U,U⟩ (λw=>?_) ⟨n+1,?_⟩
 .rw[Vl d];unfold stepG.exec;simp only[χ,e];rfl
 .rw[Xn d e];exact QuitsD.leaveD (a:=⟨t,b.defers⟩) g f i j k l
theorem rG [Z1] {x:Z5} (g:Qy x s sp) {t:Tok} (a:∀v,X4 (ZU x s t v 1)) (e:¬XE t) {cs:Y3} (h:∀φ b,Seen (ZU x s t v 1) s sp φ b->UD prog Q false (ZU x s t (some (φ,b)) 1) (Go.Conc.G (c.finish (.int .u64 (YY b))) cs)) :
  Ε (UD prog Q false (ZU x s t v 1)) (Frame.enter prog 119 #[ptr s 0] .normal) (c::cs) 7 [.code (f119.body.getD .skip)] (entry 0 [.z (ptr s 0)]):=by
 simp only[f119,Option.getD_some];(repeat (first|refine Ε.seq (ZK (a _)) rfl ?_|refine Ε.block (ZK (a _)) rfl ?_|refine Ε.inBlock (ZK (a _)) rfl ?_|refine Ε.skip (ZK (a _)) rfl ?_|refine Ε.SX (ZK (a _)) rfl rfl ?_|refine Ε.SW (ZK (a _)) rfl rfl ?_|(refine Ε.region (ZK (a _)) rfl Ο rfl (by simp[Frame.enter]) λf d=>?_;(try simp);(repeat (refine WC ?_;simp[e]));refine d _ ?_)));refine Ε.Zs (ZK (a _)) U ?_;refine Ε.part (ZK (a _)) U Ο U (by simp[Frame.enter]) [0,1,2] [3,4] U λf d=>?_;(try simp[-MC]);(repeat (refine WC ?_;simp));refine d _ ?_;refine Ε.EJ (a _) (U8 _) (sp:=sp) g.spec (by rw[Zp];exact e) ⟨⟨U,U,by simp[Frame.enter],U⟩,AO,⟨_,U⟩,U,U,U⟩ λφ b i=>?_;unfold Em;rw[UE];refine Ε.part (ZK (a _)) U Ο U (by simp[Frame.enter]) [4] [] U λf d=>?_;(try simp[-MC]);(repeat (refine WC ?_;simp));refine d _ ?_;refine Ε.ZM (ZK (a _)) U ?_;exact Ε.OL (ZK (a _)) U U U U func119 U U (h φ b i)
theorem rF [Z1] {x:Z5} (i:Qy x s sp) {t t':Tok} {d:Int} (a:∀v,X4 (ZU x s t v 1)) (g:∀v,X4 (ZU x s t' v 1)) (h:¬XE t) {cs:Y3} (j:∀φ b,Seen (ZU x s t v 1) s sp φ b->∃o',YY o'=d/\o'.YM=b.YM/\PJ b o'/\Act b t o' t'/\∀e,e<φ->UD prog Q false (ZU x s t' (some (e,o')) 1) (Go.Conc.G (c.finish (.tuple #[])) cs)) :
  Ε (UD prog Q false (ZU x s t v 1)) (Frame.enter prog 120 #[ptr s 0,.int .u64 d] .normal) (c::cs) 9 [.code (f120.body.getD .skip)] (entry 0 [.z (ptr s 0),.z (.int .u64 d)]):=by
 simp only[f120,Option.getD_some];(repeat (first|refine Ε.seq (ZK (a _)) rfl ?_|refine Ε.block (ZK (a _)) rfl ?_|refine Ε.inBlock (ZK (a _)) rfl ?_|refine Ε.skip (ZK (a _)) rfl ?_|refine Ε.SX (ZK (a _)) rfl rfl ?_|refine Ε.SW (ZK (a _)) rfl rfl ?_|(refine Ε.region (ZK (a _)) rfl Ο rfl (by simp[Frame.enter]) λk f=>?_;(try simp);(repeat (refine WC ?_;simp[h]));refine f _ ?_)));refine Ε.Zs (ZK (a _)) U ?_;refine Ε.part (ZK (a _)) U Ο U (by simp[Frame.enter]) [0,1,2,3] [4] U λk f=>?_;(try simp[-MC]);(repeat (refine WC ?_;simp));refine f _ ?_;refine Ε.rN (a _) (U8 _) (sp:=sp) i.spec (by rw[Zp];exact h) ⟨⟨U,U,by simp[Frame.enter],U⟩,sy,⟨_,U⟩,U,U,U⟩ λφ b l=>?_;obtain⟨o',m,n,o,p,r⟩:=j φ b l;refine⟨o',t',m,n,o,by rw[Zp];exact p,λe u=>?_⟩;rw[WK];refine Ε.ZM (ZK (g _)) U ?_;exact Ε.GX (ZK (g _)) U U U U func120 U (r e u)
theorem rE [Z1] {x:Z5} (j:Qy x s sp) {t:Tok} {d:Int} (a:∀v,X4 (ZU x s t v 1)) (k:¬XE t) {cs:Y3}
  (l:∀φ b,Seen (ZU x s t v 1) s sp φ b->∃o' t',YY o'=u64.wrap (YY b+d)/\o'.YM=b.YM/\PJ b o'/\Act b t o' t'/\∀f,f<φ->(((∀v,X4 (ZU x s t' v 1))/\UD prog Q false (ZU x s t' (some (f,o')) 1) (Go.Conc.G (c.finish (.int .u64 (YY o'))) cs))\/((∀m,Gone ((ZU x s t' (some (f,o')) 1).tok m))/\T3 prog 1 (Go.Conc.G (c.finish (.int .u64 (YY o'))) cs)))) :
  Ε (UD prog Q false (ZU x s t v 1)) (Frame.enter prog 117 #[ptr s 0,.int .u64 d] .normal) (c::cs) 10 [.code (f117.body.getD .skip)] (entry 0 [.z (ptr s 0),.z (.int .u64 d)]):=by
 simp only[f117,Option.getD_some];(repeat (first|refine Ε.seq (ZK (a _)) rfl ?_|refine Ε.block (ZK (a _)) rfl ?_|refine Ε.inBlock (ZK (a _)) rfl ?_|refine Ε.skip (ZK (a _)) rfl ?_|refine Ε.SX (ZK (a _)) rfl rfl ?_|refine Ε.SW (ZK (a _)) rfl rfl ?_|(refine Ε.region (ZK (a _)) rfl Ο rfl (by simp[Frame.enter]) λh e=>?_;(try simp);(repeat (refine WC ?_;simp[k]));refine e _ ?_)));refine Ε.Zs (ZK (a _)) U ?_;refine Ε.part (ZK (a _)) U Ο U (by simp[Frame.enter]) [0,1,2,3] [4,5] U λh e=>?_;(try simp[-MC]);(repeat (refine WC ?_;simp));refine e _ ?_;refine Ε.EI (a _) (U8 _) (sp:=sp) j.spec (by rw[Zp];exact k) ⟨⟨U,U,by simp[Frame.enter],U⟩,AP,⟨_,U⟩,U,U,U⟩ λφ b n=>?_;obtain⟨o',t',o,p,r,u,w⟩:=l φ b n;refine⟨o',t',o,p,r,by rw[Zp];exact u,λf y=>?_⟩;rw[WK];rcases w f y with⟨g,i⟩|⟨g,i⟩
 .refine Ε.part (ZK (g _)) U Ο U (by simp[Frame.enter]) [5] [] U λh e=>?_;(try simp[-MC]);(repeat (refine WC ?_;simp));refine e _ ?_;refine Ε.ZM (ZK (g _)) U ?_;exact Ε.OL (ZK (g _)) U U U U func117 U U i
 .refine Ε.leaves (d:=1) j.rel g U ?_;refine Ε.part Yj U Ο U (by simp[Frame.enter]) [5] [] U λh e=>?_;(try simp[-MC]);(repeat (refine WC ?_;simp));refine e _ ?_;refine Ε.ZM Yj U ?_;exact Ε.OL Yj U U U U func117 U U i
theorem rD [Z1] {x:Z5} (j:Qy x s sp) (u:T3 prog 0 (Go.Conc.G (c.finish (.tuple #[])) rest)) {env:Β} (h:ι env 0=.z (ptr s 0)) (y:ι env 1=.z (.int .i64 (-1))) (l:ι env 4=.z (.bool false)) (m:ι env 6=.z (.int .u64 (Wg 0 1))) :
  Ε (UD prog Q false (ZU x s (.ch k .done .l2) v 1)) (El s) (c::rest) 117 [.code (YP [1,1,1,1] GJ)] env:=by
 have f1:=GP 0 Z7 1 Z7
 have f2:=GO 0 Z7 1 Z7
 have f3:=GN 0 Z7 1 Z7
 have P:Wg 0 1=1:=Z7;generalize A:Wg 0 1=w at f1 f2 f3 m;have f:=j.here (k:=k) (v:=v) (d:=1) (g:=.l2) Ω;unfold GJ;(repeat (first|refine Ε.seq (ZK f) rfl ?_|refine Ε.block (ZK f) rfl ?_|refine Ε.inBlock (ZK f) rfl ?_|refine Ε.skip (ZK f) rfl ?_|refine Ε.SX (ZK f) rfl rfl ?_|refine Ε.SW (ZK f) rfl rfl ?_|(refine Ε.region (ZK f) rfl Ο rfl (by simp[Frame.enter]) λi b=>?_;(try simp);(repeat (refine WC ?_;simp[h,y,l,m,f1,f2,f3,GI]));refine b _ ?_)));refine Ε.Zs (ZK f) U ?_;refine Ε.part (ZK f) U Ο U (by simp[Frame.enter]) [0,1,2] [3,4,5] U λi b=>?_;(repeat (refine WC ?_;simp[h]));refine b _ ?_;refine Ε.call (ZK f) U ⟨U,U,by simp[Frame.enter],U⟩ U U (vs:=[ptr s 0]) U func119 U U (by simp[ntmps119]) λt B C=>?_;have e:∀v,X4 (ZU x s (.ch k .done .l2) v 1):=λv=>j.here Ω;have a:∀v,X4 (ZU x s (.ch k .done .Q2) v 1):=λv=>j.here Ω;refine rG j e id λφ D E=>?_;have n:=E.Vg.OJ;rw[Zp] at n;obtain⟨F,H⟩:=n.l2 k _ U;have I:YY D=w:=by rw[<-A];simp only[YY,F,H]
 rw[I];refine Ε.back U U B C ?_;refine Ε.part (ZK (e _)) U Ο U (by simp[Frame.enter]) [4,5] [] U λi b=>?_;(repeat (refine WC ?_;simp[m]));refine b _ ?_;refine Ε.ZM (ZK (e _)) U ?_;(repeat (first|refine Ε.seq (ZK (e _)) rfl ?_|refine Ε.block (ZK (e _)) rfl ?_|refine Ε.inBlock (ZK (e _)) rfl ?_|refine Ε.skip (ZK (e _)) rfl ?_|refine Ε.SX (ZK (e _)) rfl rfl ?_|refine Ε.SW (ZK (e _)) rfl rfl ?_|(refine Ε.region (ZK (e _)) rfl Ο rfl (by simp[Frame.enter]) λi b=>?_;(try simp);(repeat (refine WC ?_;simp[h]));refine b _ ?_)));refine Ε.Zs (ZK (e _)) U ?_;refine Ε.part (ZK (e _)) U Ο U (by simp[Frame.enter]) [0,1,2] [3] U λi b=>?_;(repeat (refine WC ?_;simp[h]));refine b _ ?_;refine Ε.call (ZK (e _)) U ⟨U,U,by simp[Frame.enter],U⟩ U U (vs:=[ptr s 0,.int .u64 0]) U func120 U U (by simp[ntmps120]) λt3 J K=>?_;refine rF j (t':=.ch k .done .Q2) e a id λR L M=>?_;have o:=M.Vg.OJ;rw[Zp] at o;obtain⟨S,N⟩:=o.l2 k _ U;refine⟨{L with wt:=0},by simp only[YY,N];rfl,U,⟨U,U,U⟩,.yd,λT V=>?_⟩;refine Ε.back U U J K ?_;refine Ε.ZM (ZK (a _)) U ?_;(repeat (first|refine Ε.seq (ZK (a _)) rfl ?_|refine Ε.block (ZK (a _)) rfl ?_|refine Ε.inBlock (ZK (a _)) rfl ?_|refine Ε.skip (ZK (a _)) rfl ?_|refine Ε.SX (ZK (a _)) rfl rfl ?_|refine Ε.SW (ZK (a _)) rfl rfl ?_|(refine Ε.region (ZK (a _)) rfl Ο rfl (by simp[Frame.enter]) λi b=>?_;(try simp);(repeat (refine WC ?_;simp[h,l]));refine b _ ?_)));refine Ε.loop (ZK (a _)) U ?_;(repeat (first|refine Ε.seq (ZK (a _)) rfl ?_|refine Ε.block (ZK (a _)) rfl ?_|refine Ε.inBlock (ZK (a _)) rfl ?_|refine Ε.skip (ZK (a _)) rfl ?_|refine Ε.SX (ZK (a _)) rfl rfl ?_|refine Ε.SW (ZK (a _)) rfl rfl ?_|(refine Ε.region (ZK (a _)) rfl Ο rfl (by simp[Frame.enter]) λi b=>?_;(try simp);(repeat (refine WC ?_;simp[h,l]));refine b _ ?_)));refine Ε.Zs (ZK (a _)) U ?_;refine Ε.part (ZK (a _)) U Ο U (by simp[Frame.enter]) [0,1,2] [3] U λi b=>?_;(repeat (refine WC ?_;simp[h]));refine b _ ?_;refine Ε.rM (a _) (sp:=sp) j.spec (by rw[Zp];exact id) (vs:=[ptr s 1,.bool false,.int .i64 0]) U ⟨⟨U,U,by simp[Frame.enter],U⟩,sr,⟨_,U⟩,U,U,U⟩ λW p O=>?_;have r:=O.Vg.OJ;rw[Zp] at r;refine⟨by have:=r.YM;omega,{p with YM:=p.YM+1},.ch k .done .gone,U,U,⟨U,U,U⟩,by rw[Zp];exact .yc,λX Y=>?_⟩;rw[WK];refine Ε.leaves (d:=1) j.rel j.gone U ?_;refine Ε.ZM Yj U ?_;(repeat (first|refine Ε.seq Yj rfl ?_|refine Ε.block Yj rfl ?_|refine Ε.inBlock Yj rfl ?_|refine Ε.skip Yj rfl ?_|refine Ε.SX Yj rfl rfl ?_|refine Ε.SW Yj rfl rfl ?_|(refine Ε.region Yj rfl Ο rfl (by simp[Frame.enter]) λi b=>?_;(try simp);(repeat (refine WC ?_;simp[h,GL]));refine b _ ?_)));refine Ε.inLoop Yj U ?_;(repeat (first|refine Ε.seq Yj rfl ?_|refine Ε.block Yj rfl ?_|refine Ε.inBlock Yj rfl ?_|refine Ε.skip Yj rfl ?_|refine Ε.SX Yj rfl rfl ?_|refine Ε.SW Yj rfl rfl ?_|(refine Ε.region Yj rfl Ο rfl (by simp[Frame.enter]) λi b=>?_;(try simp);(repeat (refine WC ?_;simp[h,GL]));refine b _ ?_)));refine Ε.exit Yj U U ?_;exact Ε.rL U U U U func72 U PI u
structure JF (x:Z5) (s:Nat) (sp:Spec):Prop where
 rel:x.rel=false
 Z8:x.Z8=λ_=>none
 spec:x.spec s=some sp
 top:sp.top<7
 shut:∀a,a≠s->XE (x.tok a)
theorem Aj {x:Z5} {H:Υ} (g:JF x s sp) (R:sp.D k Υ.empty) (n:c.mode=.returning) (K:T3 prog 0 (Go.Conc.G c rest)) :
  ZE prog Q false (ZU x s (.ch k .done .work) v 0) (Frame.enter prog 74 #[ptr s 0] .deferred) (c::rest) H:=by
 letI:Z1:=Yo;have r:∀t v d,Seq (one (ZU x s t v d)):=λt v d=>Seq.QF trivial g.rel g.Z8;have h:Qy (Lg x) s sp:=⟨U,g.spec,g.top,g.shut⟩;have b:∀v d,X4 (ZU (Lg x) s (.ch k .done .rel) v d):=λv d=>h.here Ω;have A:∀v d,X4 (ZU (Lg x) s (.ch k .done .l2) v d):=λv d=>h.here Ω;rw[T7 (body:=f74.body.getD .skip) func74 U];refine V.here (x:=one _) (m:=0) (nt:=4) (S:=Xu) (B:=[]) (σ:=[]) (env:=entry 0 [.z (ptr s 0)]) ?_ (XR.enter (JJ H) ⟨U,λi a v C L=>?_⟩ (ZY _) Ω) _ U
 .refine V.YA (r _ _ _) U ?_;simp only[f74,Option.getD_some];refine ZO ?_;refine W.Zs ?_;refine XN [0] [1] ?_;refine W.stop ?_;refine V.call (r _ _ _) ⟨U,U,by simp[Frame.enter],U⟩ U U U ⟨_,func72,U,U⟩ λab T ad t1 ae af j hv=>?_;obtain rfl:=Wq (l:=[ptr s 0,.int .i64 (-1)]) hv;obtain rfl:T=[]:=YZ.1 j.holds.len;rintro y rfl;refine V.QB (z:=one _) (vs:=[ptr s 0,.int .i64 (-1)]) func72 U j.holds (by simp[ntmps72]) ?_ _ U;refine V.YA (r _ _ _) U ?_;refine Wd ?_;refine W.Zs ?_;refine XN [0] [1,2] ?_;refine W.stop ?_;refine V.conv (r _ _ _).here (sp:=sp) g.spec (by rw[Zp];exact id) ⟨U,U,by simp[Frame.enter],U⟩ U U U Ey PH Ex U (λe w ag X=>⟨_,X.SE⟩) (λφ e ah=>?_);unfold VQ;rw[UE];refine V.FH g.rel (sp:=sp) g.spec (.inl U) g.shut R ⟨⟨U,U,by simp[Frame.enter],U⟩,Ez,⟨_,U⟩,U,U,U⟩ Ω ?_;refine Ε.ZM (ZK (b _ _)) U ?_;(repeat (first|refine Ε.seq (ZK (b _ _)) rfl ?_|refine Ε.block (ZK (b _ _)) rfl ?_|refine Ε.inBlock (ZK (b _ _)) rfl ?_|refine Ε.skip (ZK (b _ _)) rfl ?_|refine Ε.SX (ZK (b _ _)) rfl rfl ?_|refine Ε.SW (ZK (b _ _)) rfl rfl ?_|(refine Ε.region (ZK (b _ _)) rfl Ο rfl (by simp[Frame.enter]) λo f=>?_;(try simp);(repeat (refine WC ?_;simp[n]));refine f _ ?_)));refine Ε.Zs (ZK (b _ _)) U ?_;refine Ε.disable (b _ _) ⟨⟨U,U,by simp[Frame.enter],U⟩,ME,⟨_,U⟩,U,U,U⟩ ?_;rw[JS];refine Ε.ZM (ZK (b _ _)) U ?_;refine Ε.Zs (ZK (b _ _)) U ?_;refine Ε.EH (ZK (b _ _)) U ⟨U,U,by simp[Frame.enter],U⟩ U U U ?_;refine Ε.ZM (ZK (b _ _)) U ?_;(repeat (first|refine Ε.seq (ZK (b _ _)) rfl ?_|refine Ε.block (ZK (b _ _)) rfl ?_|refine Ε.inBlock (ZK (b _ _)) rfl ?_|refine Ε.skip (ZK (b _ _)) rfl ?_|refine Ε.SX (ZK (b _ _)) rfl rfl ?_|refine Ε.SW (ZK (b _ _)) rfl rfl ?_|(refine Ε.region (ZK (b _ _)) rfl Ο rfl (by simp[Frame.enter]) λo f=>?_;(try simp);(repeat (refine WC ?_;simp[n]));refine f _ ?_)));refine Ε.Zs (ZK (b _ _)) U ?_;refine Ε.GW (ZK (b _ _)) U ⟨U,U,by simp[Frame.enter],U⟩ U U U AR ?_;refine Ε.ZM (ZK (b _ _)) U ?_;(repeat (first|refine Ε.seq (ZK (b _ _)) rfl ?_|refine Ε.block (ZK (b _ _)) rfl ?_|refine Ε.inBlock (ZK (b _ _)) rfl ?_|refine Ε.skip (ZK (b _ _)) rfl ?_|refine Ε.SX (ZK (b _ _)) rfl rfl ?_|refine Ε.SW (ZK (b _ _)) rfl rfl ?_|(refine Ε.region (ZK (b _ _)) rfl Ο rfl (by simp[Frame.enter]) λo f=>?_;(try simp);(repeat (refine WC ?_;simp[n]));refine f _ ?_)));refine Ε.Zs (ZK (b _ _)) U ?_;refine Ε.part (ZK (b _ _)) U Ο U (by simp[Frame.enter]) [0,1,2,3,4,5] [6,7] U λo f=>?_;(repeat (refine WC ?_;simp[rI,rK,rJ]));refine f _ ?_;refine Ε.call (ZK (b _ _)) U ⟨U,U,by simp[Frame.enter],U⟩ U U (vs:=[ptr s 0,.int .u64 18446744069414584320]) U func117 U U (by simp[ntmps117]) λt2 M N=>?_;refine rE h (λv=>b v 1) id λφ e O=>?_;have u:=O.Vg.OJ;rw[Zp] at u;have ai:1<=e.cnt:=u.live;have aj:=h.GM O.spec;have ak:=u.cnt;have al:=u.wt;obtain⟨cc,E⟩:=Z' (e.cnt-1);have p:e.cnt<8/\0<e.cnt/\cc<8/\e.wt<2:=I;have P:YY {e with cnt:=cc}=u64.wrap (YY e+18446744069414584320):=by
   rw[NP,NP,r7 e.cnt p.1 e.wt p.2.2.2 p.2.1,E]
  by_cases F:e.cnt=1/\e.wt=1
  .have Y:cc=0:=I
   refine⟨{e with cnt:=cc},.ch k .done .l2,P,U,⟨U,U,U⟩,by rw[E];exact .yf F.1 F.2,λZ aa=>.inl ⟨λv=>A v 1,?_⟩⟩;have J:YY {e with cnt:=cc}=Wg 0 1:=by rw[NP,Y];simp only[F.2]
   rw[J];refine Ε.back U U M N ?_;refine Ε.part (ZK (A _ _)) U Ο U (by simp[Frame.enter]) [7] [] U λo f=>?_;(repeat (refine WC ?_;simp));refine f _ ?_;refine Ε.ZM (ZK (A _ _)) U ?_;refine rD h ?_ U U U U;exact Ε.back (nt:=4) U U j.size (JK Ω j.Zt) (Ε.ZM Yj U (Ε.Ak U U U U func74 U n K))
  .refine⟨{e with cnt:=cc},.ch k .done .gone,P,U,⟨U,U,U⟩,by rw[E];exact .ye I,λZ aa=>.inr ⟨h.gone,?_⟩⟩;have J:YY {e with cnt:=cc}=Wg cc e.wt:=rfl;rw[J];refine Ε.back U U M N ?_;refine Ε.part Yj U Ο U (by simp[Frame.enter]) [7] [] U λo f=>?_;(repeat (refine WC ?_;simp));refine f _ ?_;refine Ε.ZM Yj U ?_;refine rH ?_ (cc:=cc) (w0:=e.wt) p.2.2.1 p.2.2.2 I U U U U;exact Ε.back (nt:=4) U U j.size (JK Ω j.Zt) (Ε.ZM Yj U (Ε.Ak U U U U func74 U n K))
 .cases i with
  | zero=>simp at C L;subst C;subst L;exact .z _
  | succ i=>simp at C
end
end Go.TL
namespace Go.TL
open Go.IntKind (i32 i64 u32 u64)
open Go.Proofs.Tryz
open Go.Conc
open Go.ConcN (upd)
def St (S:ς) (H:Υ):Υ:={H with ω:=λb o=>match S b o with|some v=>some (v,false)|none=>H.ω b o}
def Vf (S:ς):Υ:=⟨λb o=>(S b o).map (·,false),λ_=>none,λ_=>none⟩
def ς.plus (S T:ς):ς:=λb o=>match S b o with|some v=>some v|none=>T b o
structure T2 (a:Nat) (c:ς) (E:Υ):Prop where
 ω:∀b o x,E.ω b o=some x->c b o≠none\/a<b
 row:∀b x,E.row b=some x->a<b
 obj:∀b x,E.obj b=some x->a<b
def T1 (r:Row):Prop:=∃t k l,r=.cells t k l
section
variable {S S' VZ UU Y8:ς} {B B':δ} {σ σ':Ρ} {H H' W7 E G:Υ} {β:Nat}
theorem NM {b o:Nat} {v:Value} (h:S b o=some v):(St S H).ω b o=some (v,false):=by simp only[St,h]
theorem NL {b o:Nat} (h:S b o=none):(St S H).ω b o=H.ω b o:=by simp only[St,h]
theorem JE {b o:Nat} {v:Value} (h:S b o=some v):(Vf S).ω b o=some (v,false):=by simp only[Vf,h];rfl
theorem MA {b o:Nat} {x:Value×Bool} (h:(Vf S).ω b o=some x):∃v,S b o=some v/\x=(v,false):=by
 cases a:S b o with
 | none=>simp[Vf,a] at h
 | some v=>exact⟨v,rfl,by simp[Vf,a] at h;exact h.symm⟩
theorem Mz {b o:Nat} {v:Value} (h:S b o=some v):S.plus VZ b o=some v:=by simp only[ς.plus,h]
theorem JD {b o:Nat} (h:S b o=none):S.plus VZ b o=VZ b o:=by simp only[ς.plus,h]
theorem join_some {b o:Nat} {x:Value×Bool} (h:H.ω b o=some x):(join H E).ω b o=some x:=by simp only[join,h]
theorem join_none {b o:Nat} (h:H.ω b o=none):(join H E).ω b o=E.ω b o:=by simp only[join,h]
theorem rC {b:Nat} {x:TypeId×Nat} (h:(join H E).row b=some x):H.row b=some x\/E.row b=some x:=by
 cases a:H.row b with
 | none=>simp only[join,a] at h;exact .inr h
 | some y=>simp only[join,a] at h;exact .inl h
theorem rB {b:Nat} {x:Obj} (h:(join H E).obj b=some x):H.obj b=some x\/E.obj b=some x:=by
 cases a:H.obj b with
 | none=>simp only[join,a] at h;exact .inr h
 | some y=>simp only[join,a] at h;exact .inl h
theorem rA (f:Holds S [] [] H):Split H (St S H) (Vf S):=by
 refine⟨⟨λb o v p h=>?_,λb x h=>h,λb x h=>h⟩,⟨λb o v p h=>?_,λb x h=>(by cases h),λb x h=>(by cases h)⟩,⟨λb o ⟨v,h⟩ ⟨x,k⟩=>?_,λb o ⟨v,h⟩ _=>?_,λb _ ⟨x,h⟩=>(by cases h)⟩⟩
 .cases a:S b o with
  | some u=>
   rw[NM a] at h;cases h;obtain⟨c,d⟩:=f.Zf b o _ a;exact⟨c,d,λe=>by cases e⟩
  | none=>rw[NL a] at h;exact⟨p,h,id⟩
 .obtain⟨u,a,e⟩:=MA h;cases e;obtain⟨c,d⟩:=f.Zf b o _ a;exact⟨c,d,λe=>by cases e⟩
 .obtain⟨u,a,e⟩:=MA k;rw[NM a] at h;cases h
 .obtain⟨u,a,e⟩:=MA h;cases e
theorem rz (a:Holds S [] [] H):Holds S [] [] (St S H):=
 ⟨λb o v h=>⟨false,NM h⟩,U,λid r bo h=>by simp at h,λi j c d b e f _ h=>by simp at h,λid r b N h=>by simp at h⟩
theorem ry:Holds S [] [] (Vf S):=
 ⟨λb o v h=>⟨false,JE h⟩,U,λid r bo h=>by simp at h,λi j a c b d e _ h=>by simp at h,λid r b N h=>by simp at h⟩
theorem Ai (f:Holds S [] [] H):Ext S [] H S [] (St S H):=by
 refine⟨λ_ _ _ h=>h,λb _ _=>⟨λo=>?_,U,U⟩,λb h=>.inl h,λb o v h=>.inl h,λb h=>?_⟩
 .cases a:S b o with
  | none=>exact .inl (NL a)
  | some v=>
   obtain⟨p,g⟩:=f.Zf b o v a;exact .inr ⟨v,p,U,g,NM a⟩
 .have d:∀b o,(St S H).ω b o=none->H.ω b o=none:=λb o h=>by
   cases a:S b o with
   | none=>rw[NL a] at h;exact h
   | some v=>rw[NM a] at h;cases h
  exact⟨λo=>d b o (h.1 o),h.2.1,h.2.2.1,λc e=>⟨λo=>d c o ((h.2.2.2 c e).1 o),(h.2.2.2 c e).2⟩⟩
theorem Holds.QV (a:Holds S B σ H) (c:∀b,¬H.fresh b->Vk H H' b) (k:∀b,H'.fresh b->H.fresh b):Holds S B σ H'/\Ext S B H S B H':=by
 have l:∀b o x,H.ω b o=some x->¬H.fresh b:=λb o x h d=>by rw[d.1 o] at h;cases h
 refine⟨⟨λb o v h=>?_,a.len,λid r bo f g=>?_,a.inj,a.sep⟩,⟨λ_ _ _ h=>h,λb _ d=>TK.of (c b d),λb h=>.inl h,λb o v h=>.inl h,k⟩⟩
 .obtain⟨p,i⟩:=a.Zf b o v h;exact⟨p,by rw[(c b (l b o _ i)).1];exact i⟩
 .by_cases j:r.live
  .refine(a.row id r bo f g).later (ZJ.refl S B σ) (λb N e=>c b (a.Sd f j (by rw[g,e]))) λm left t e=>?_;subst e;obtain⟨_,_,u,w,y,A,seen,_,C,⟨es,n⟩,_⟩:=a.row id _ bo f g;exact⟨U,U,λb N s=>c b (a.Sd n trivial s)⟩
  .cases r<;>first|exact absurd trivial j|trivial
theorem Ext.QV (h:Ext Xu [] H S' [] H') {b:Nat} (a:¬H.fresh b):Vk H H' b:=(h.X0 b (λ⟨N,x⟩=>by simp at x) a).QV λ_=>rfl
theorem Ah {w:World} (c:Fits H w) (d:Fits E w) {b o:Nat} {u v:Value} {p q:Bool} (h:H.ω b o=some (u,p)) (k:E.ω b o=some (v,q)):u=v:=by
 have a:=c.ω b o u p h;rw[d.ω b o v q k] at a;exact(WU a).symm
theorem Ek {w:World} (e:Fits H w) (l:Fits E w) (m:Apart H E) {b N:Nat} {t:TypeId} (g:E.row b=some (t,N)) (n:∀o,o<N->∃v,E.ω b o=some (v,true)):(∀o,H.ω b o=none)/\Vk E (join H E) b:=by
 obtain⟨c,_,f,p⟩:=l.row b t N g;have h:∀o,H.ω b o=none:=λo=>by
  cases a:H.ω b o with
  | none=>rfl
  | some x=>
   have i:=e.ω b o x.1 x.2 a;by_cases j:o<N
   .exact absurd ⟨x,a⟩ (m.Q3 b o (n o j))
   .simp only[World.cell?,f] at i;simp[p,j] at i
 refine⟨h,λo=>join_none (h o),?_,?_⟩
 .cases a:H.row b with
  | none=>simp only[join,a]
  | some x=>
   obtain⟨c',_,d,k⟩:=e.row b x.1 x.2 a;rw[f] at d;cases d;simp only[join,a,g];obtain⟨r,s⟩:=x
   simp_all
 .cases a:H.obj b with
  | none=>simp only[join,a]
  | some x=>
   obtain⟨d,k⟩:=e.obj b x a;rw[f] at d;cases d;simp[Obj.Pd] at k
theorem Ej (i:Holds S [] [] H) (f:Holds VZ B σ E) (C:Apart H E) (D:∃w,Fits H w/\Fits E w) (y:∀r∈σ,T1 r) :
  Holds (S.plus VZ) B σ (join H E)/\ZJ S (S.plus VZ) [] B [] σ/\ZJ VZ (S.plus VZ) B B σ σ:=by
 obtain⟨w,j,n⟩:=D;have st:∀b o v,VZ b o=some v->S.plus VZ b o=some v:=λb o v h=>by
  cases a:S b o with
  | none=>rw[JD a];exact h
  | some u=>
   obtain⟨p,c⟩:=i.Zf b o u a;obtain⟨q,F⟩:=f.Zf b o v h;rw[Mz a,Ah j n c F]
 have l1:ZJ S (S.plus VZ) [] B [] σ:=⟨λb o v h=>Mz h,λid r h=>by simp at h⟩
 have l2:ZJ VZ (S.plus VZ) B B σ σ:=⟨st,λid r h=>⟨r,h,r.Tb _⟩⟩
 have A:∀(id:Nat) (r:Row) (b N:Nat),σ[id]?=some r->B[id]?=some (some (b,N))->(∀o,H.ω b o=none)/\Vk E (join H E) b:=λid r b N d I=>by
  obtain⟨t,k,l,rfl⟩:=y r (ZH d);obtain⟨J,_,K,_⟩:=f.row id _ _ d I;exact Ek j n C J K
 refine⟨⟨λb o v h=>?_,f.len,λid r bo d g=>?_,f.inj,λid r b N d L g o=>?_⟩,l1,l2⟩
 .cases a:S b o with
  | some u=>
   rw[Mz a] at h;cases h;obtain⟨p,c⟩:=i.Zf b o _ a;exact⟨p,join_some c⟩
  | none=>
   rw[JD a] at h;obtain⟨p,c⟩:=f.Zf b o v h;cases s:H.ω b o with
   | none=>exact⟨p,by rw[join_none s];exact c⟩
   | some x=>
    obtain⟨u,q⟩:=x;have:=Ah j n s c;subst this;exact⟨q,join_some s⟩
 .refine(f.row id r bo d g).later l2 (λb N e=>(A id r b N d (by rw[g,e])).2) λm left O e=>?_;subst e;obtain⟨t,k,l,e⟩:=y _ (ZH d);cases e
 .have M:=(A id r b N d g).1 o;cases a:S b o with
  | some u=>
   obtain⟨p,c⟩:=i.Zf b o u a;rw[M] at c;cases c
  | none=>rw[JD a];exact f.sep id r b N d L g o
theorem Lf {o:Nat} {x:Value×Bool} (a:G.ω β o=some x) {b:Nat} (c:G.fresh b):β<b:=by
 by_cases e:β<b
 .exact e
 .rcases Ns b β with h|h
  .have:=(c.2.2.2 β h).1 o;rw[a] at this;cases this
  .obtain rfl:β=b:=I
   rw[c.1 o] at a;cases a
theorem Ei {b:Nat} (a:G.fresh β) (h:β<b):G.fresh b:=
 ⟨(a.2.2.2 b h).1,(a.2.2.2 b h).2.1,(a.2.2.2 b h).2.2,λc d=>a.2.2.2 c (UJ h d)⟩
theorem Ag (a:∀b o v,S b o=some v->Y8 b o≠none\/β<b):T2 β Y8 (Vf S):=
 ⟨λb o x h=>let ⟨v,c,_⟩:=MA h;a b o v c,λb x h=>(by cases h),λb x h=>(by cases h)⟩
theorem T2.join (h:T2 β Y8 G) (k:T2 β Y8 E):T2 β Y8 (join G E):=by
 refine⟨λb o x a=>?_,λb x a=>(rC a).elim (h.row b x) (k.row b x),λb x a=>(rB a).elim (h.obj b x) (k.obj b x)⟩;cases c:G.ω b o with
 | none=>rw[join_none c] at a;exact k.ω b o x a
 | some y=>exact h.ω b o y c
theorem T2.ext (h:T2 β Y8 G) {G':Υ} (f:Ext S B G S' B' G') (g:∀b,B.has b->β<b) {o:Nat} {x:Value×Bool} (i:G.ω β o=some x):T2 β Y8 G':=by
 have d:∀b,¬β<b->TK S G G' b:=λb a=>f.X0 b (λk=>a (g b k)) λk=>a (Lf i k);refine⟨λb o x c=>?_,λb x c=>?_,λb x c=>?_⟩
 .by_cases a:β<b
  .exact .inr a
  .rcases(d b a).1 o with e|⟨v,p,_,e,_⟩
   .rw[e] at c;exact h.ω b o x c
   .exact h.ω b o _ e
 .by_cases a:β<b
  .exact a
  .rw[(d b a).2.1] at c;exact h.row b x c
 .by_cases a:β<b
  .exact a
  .rw[(d b a).2.2] at c;exact h.obj b x c
theorem GH {G':Υ} (b:Ext S B G S' B' G') (c:¬B.has β) (d:∃o x,G.ω β o=some x):∃o x,G'.ω β o=some x:=by
 obtain⟨o,x,a⟩:=d;rcases(b.X0 β c (λf=>by rw[f.1 o] at a;cases a)).1 o with e|⟨v,p,_,_,e⟩
 .exact⟨o,x,by rw[e];exact a⟩
 .exact⟨o,_,e⟩
theorem T2.blocks (h:T2 β Y8 E) (c:Holds VZ B σ E) (f:∀r∈σ,T1 r) {b:Nat} (g:B.has b):β<b:=by
 obtain⟨N,i⟩:=g;obtain⟨id,d⟩:=TU i;have j:id<σ.length:=by rw[<-c.len];exact(ZR.1 d).1
 have a:=Z4 j;obtain⟨t,k,l,e⟩:=f _ (ZH a);rw[e] at a;exact h.row b _ (c.row id _ _ a d).1
theorem Af (g:Ext UU [] W7 S [] H) (l:∀b o v,Y8 b o=some v->S b o=some v) (j:W7.fresh β) (hi:T2 β Y8 E) (t:Holds S [] [] H) (m:Holds VZ B σ E) (w:∀r∈σ,T1 r) :
  Ext UU [] W7 (S.plus VZ) B (join H E):=by
 have A:∀b,¬δ.has ([]:δ) b:=λb ⟨N,h⟩=>by simp at h
 have C:∀b,¬W7.fresh b->¬β<b:=λb h k=>h (Ei j k)
 have D:∀b,¬β<b->∀o,(join H E).ω b o=H.ω b o:=λb d o=>by
  cases a:H.ω b o with
  | some x=>rw[join_some a]
  | none=>
   rw[join_none a];cases F:E.ω b o with
   | none=>rfl
   | some y=>
    rcases hi.ω b o y F with k|k
    .cases e:Y8 b o with
     | none=>exact absurd e k
     | some v=>
      obtain⟨p,i⟩:=t.Zf b o v (l b o v e);rw[a] at i;cases i
    .exact absurd k d
 refine⟨λb o v h=>Mz (g.Zf b o v h),λb _ n=>?_,λb d=>.inr (Ei j (hi.blocks m w d)),λb o v h=>?_,λb h=>g.grow b ?_⟩
 .have d:=C b n;obtain⟨I,J,K⟩:=g.X0 b (A b) n;refine⟨λo=>by rw[D b d o];exact I o,?_,?_⟩
  .cases a:E.row b with
   | none=>rw[<-J];simp only[join,a];cases H.row b<;>rfl
   | some x=>exact absurd (hi.row b x a) d
  .cases a:E.obj b with
   | none=>rw[<-K];simp only[join,a];cases H.obj b<;>rfl
   | some x=>exact absurd (hi.obj b x a) d
 .cases e:S b o with
  | some u=>rw[Mz e] at h;cases h;exact g.TJ b o _ e
  | none=>
   rw[JD e] at h;obtain⟨p,i⟩:=m.Zf b o v h;rcases hi.ω b o _ i with k|k
   .cases s:Y8 b o with
    | none=>exact absurd s k
    | some u=>rw[l b o u s] at e;cases e
   .exact .inr (.inr (Ei j k))
 .have c:∀b o,(join H E).ω b o=none->H.ω b o=none:=λb o h=>by
   cases a:H.ω b o with
   | none=>rfl
   | some x=>rw[join_some a] at h;cases h
  have r:∀b,(join H E).row b=none->H.row b=none:=λb h=>by
   cases a:H.row b with
   | none=>rfl
   | some x=>simp only[join,a] at h;cases h
  have o:∀b,(join H E).obj b=none->H.obj b=none:=λb h=>by
   cases a:H.obj b with
   | none=>rfl
   | some x=>simp only[join,a] at h;cases h
  exact⟨λo'=>c b o' (h.1 o'),r b h.2.1,o b h.2.2.1,λf d=>⟨λo'=>c f o' ((h.2.2.2 f d).1 o'),r f (h.2.2.2 f d).2.1,o f (h.2.2.2 f d).2.2⟩⟩
end
end Go.TL
namespace Go.TL
open Go.IntKind (i32 i64 u32 u64)
open Go.Proofs.Tryz
open Go.Conc Go.Proofs
open Go.ConcN (sumTo upd sumTo_upd upd_ne upd_same sumTo_congr le_sumTo)
noncomputable def under (P:Program):Frame:={(default:Frame) with fn:=P.funcs.size,defers:=[],mode:=.panicking [goexitEntry]}
theorem Ae {P:Program} {g:FuncId} {cap:ν} (b:Plain P g) (w:World):stepG P false (born P ⟨.fn (.func g) cap,#[]⟩) w=.go (Go.Conc.G (Frame.enter P g cap .deferred) [under P]) w #[]:=by
 obtain⟨fn,c,d,a⟩:=b;have f:¬fn.name = "runtime.NumGoroutine" := by simpa using d
 have h:¬fn.body=none:=by intro e;rw[e] at a;cases a
 simp[born,stepG,unwind,callDeferred,invoke,callFunc,c,f,h,seen,GStep.after,Go.Conc.G,under]
theorem Ad {P:Program} {b:Frame} {fn:Func} (a:P.funcs[b.fn]?=some fn) (c:fn.results=#[]) (d:b.defers=[]) (e:b.mode=.returning) (f:b.kind=.deferred):T3 P 0 (Go.Conc.G b [under P]):=by
 refine⟨2,QuitsD.ctl (g':=Go.Conc.G (under P) []) U (λw=>?_) ?_⟩
 .simp[Go.Conc.G,stepG,unwind,e,d,a,doReturn,results,c,f,under,seen,GStep.after,goexitEntry]
 .refine QuitsD.ctl (g':={Go.Conc.G (under P) [] with status:=.finished}) U (λw=>?_) ⟨U,U⟩;simp[Go.Conc.G,stepG,unwind,under,goexitEntry,Frame.catches];rfl
def OH (l:ψ):Ψ:=if l.isEmpty then .sl true 0 [] else .ms 1 l.length 0 l.length
def WV (l:ψ):Ρ:=.cells 166 1 [OH l]::XO 173 3 l
theorem Eh:OH []=.sl true 0 []:=rfl
theorem GG {l:ψ} (h:l≠[]):OH l=.ms 1 l.length 0 l.length:=by unfold OH;rw[if_neg (by simpa using h)]
theorem Ac {l:ψ} {x:Ψ}:OH (l++[x])=.ms 1 (l.length+1) 0 (l.length+1):=by rw[GG Ω];simp
theorem GF (l:ψ):∀r∈WV l,T1 r:=by
 intro r h;unfold WV XO at h;rcases Yd.1 h with rfl|h
 .exact⟨_,_,_,U⟩
 .split at h
  .cases h
  .simp at h;subst h;exact⟨_,_,_,U⟩
def My (a:Nat) (b:ς) (o:Nat) (fd:Nat->Option Found) (L:κ) (E:Υ):Prop:=
 T2 a b E/\∃S B,Holds S B (WV ((L.filterMap fd).map YE)) E/\B[0]?=some (some (o,1))
theorem rv {S S':ς} {B B':δ} {l b:ψ} {m:Nat} (h:ZJ S S' (B.take m) B' ((WV l).take m) (WV b)) (e:0<m):B'[0]?=B[0]?:=by
 obtain⟨m,rfl⟩:∃k,m=k+1:=⟨m-1,I⟩;obtain⟨r',c,d⟩:=h.rows 0 (.cells 166 1 [OH l]) (by simp[WV]);have:r'=.cells 166 1 [OH b]:=by simpa[WV] using c.symm
 subst this;rcases d with⟨l2,_,_,a⟩|a
 .simpa[RJ] using a
 .have:=a 1 Ω;simp[Row.Xx] at this
section
variable {β s m o k:Nat} {S Y8:ς} {fd:Nat->Option Found} {sp:Spec} {Xf:Y6} {a b:Int} {v1 v2 Le:Value} {f:Found} {n:Nat}
abbrev Ve (s:Nat) (sp:Spec):Z5:=⟨Υ.empty,λ_=>none,λ_=>.nil,upd (λ_=>none) s (some sp),λ_=>none,0,false⟩
abbrev GD (s m o:Nat) (v1 v2 Le:Value):ν:=#[ptr s 0,v1,v2,Le,ptr m 0,ptr o 0]
abbrev Eg (s m o:Nat) (Xf:Y6) (a b:Int):ψ:=[.z (ptr s 0),XP Xf,.Ν [J a],.Ν [J b],.z (ptr m 0),.z (ptr o 0)]
theorem Ef:(Ve s sp).spec s=some sp:=upd_same (λ_=>(none:Option Spec)) s (some sp)
theorem Ab (a:sp.ZS=some m) (b:sp.top<7):VC (Ve s sp) s m sp:=⟨rfl,rfl,Ef,a,b,λ_ _=>trivial⟩
theorem ru (a:sp.top<7):JF (Ve s sp) s sp:=⟨rfl,rfl,Ef,a,λ_ _=>trivial⟩
theorem rr (n:sp.ZS=some m) (d:sp.top<7) (e:sp.D k Υ.empty) {f:Value->Prop} {c:Frame} {H:Υ} {v:Option (Nat×γ)} {d1:Deferred} (a:PQ prog d1 74 #[ptr s 0])
  (b:c.mode=.returning) (g:c.defers=[d1]) (h:c.kind=.deferred) (i:c.fn=181):ZE prog f false (ZU (Ve s sp) s (.ch k .done .work) v 0) c [under prog] H:=by
 letI:Z1:=Yo;have j:Seq (one (ZU (Ve s sp) s (.ch k .done .work) v 0)):=Seq.QF trivial U U;refine μ.deferred (x:=one _) j (by rw[b];simp) g a.t1 a.t2 a.run (λy l=>?_) _ U;cases l;refine Aj (ru d) e b ?_;exact Ad (fn:=f181) (by rw[i];exact func181) U U b h
theorem rq (g:sp.ZS=some m) (i:sp.top<7) (n:sp.X1=My β Y8 o fd) (p:sp.D k Υ.empty) {r:Value->Prop} {c:Frame} {t:ς} {d:δ} {a:Υ} {L:κ} {v:Option (Nat×γ)} {d1 d2:Deferred}
  (u:PQ prog d1 74 #[ptr s 0]) (e:PQ prog d2 79 #[ptr m 0]) (f:c.mode=.returning) (w:c.defers=[d2,d1]) (A:c.kind=.deferred) (B:c.fn=181)
  (j:Holds t d (WV (((L++[k]).filterMap fd).map YE)) a) (C:d[0]?=some (some (o,1))) (hi:T2 β Y8 a) (E:∃q x,a.ω β q=some x) :
  ZE prog r false (ZU (Ve s sp) s (.ch k (.YJ L) .work) v 0) c [under prog] a:=by
 letI:Z1:=Yo;have F:Seq (one (ZU (Ve s sp) s (.ch k (.YJ L) .work) v 0)):=Seq.QF trivial U U;refine μ.deferred (x:=one _) F (by rw[f];simp) w e.t1 e.t2 e.run (λy H=>?_) _ U;cases H;refine Av (x:=Ve s sp) (s:=s) (c:={c with defers:=[d1]}) (Ab g i) j f λI J l K=>⟨Υ.empty,J,⟨Sub.empty _,Sub.refl _,(Apart.P6 _).symm⟩,?_,λv2 P Q _=>?_⟩
 .rw[n];obtain⟨M,R,S⟩:=j.back l K;obtain⟨q,x,O⟩:=E;exact⟨hi.ext l (λb ⟨N,h⟩=>by simp at h) O,I,d,M,C⟩
 .exact rr g i p u f U A B
end
section
variable {β s m o k:Nat} {S Y8:ς} {fd:Nat->Option Found} {sp:Spec} {Xf:Y6} {a b:Int} {v1 v2 Le:Value} {f:Found} {n:Nat}
noncomputable abbrev rp (vs:ν) (ds:List Deferred):Frame:={Frame.enter prog 181 vs .deferred with defers:=ds}
noncomputable def GC:Code:=f181.body.getD .skip
theorem rn (al:sp.ZS=some m) (am:sp.top<7) (Y:sp.X1=My β Y8 o fd) (an:sp.D k Υ.empty) (ao:∀c:Z1,@Τ c prog 183 [YE f,J (-1)] (J n)) (Z:fd k=if 0<n then some f else none) {aa:Value->Prop}
  {S':ς} {H' E:Υ} {L:κ} (ap:Holds S' [] [] H') (ab:sp.X1 L E) (aq:Apart H' E) (ar:∃w,Fits H' w/\Fits E w) (au:((L.filterMap fd).map YE).length<=4294967295) (av:T2 β Y8 H') (aw:∃q x,H'.ω β q=some x)
  {t:ν} (ad:Zg S' [] [] [(4,.z (ptr m 0)),(5,.z (ptr o 0)),(6,.Ν (YE f).cells)] t) (ax:t.size=20) {vs:ν} {d1:Deferred} (ay:PQ prog d1 74 #[ptr s 0]) {ops:ZI} :
  ZE prog aa false (ZU (Ve s sp) s (.ch k (.YJ L) .work) none 0) (χ (rp vs [d1]) t [.inRegion ops [],.code (YP [1,1,1] GC)]) [under prog] (join H' E):=by
 letI:Z1:=Yo;have r:Seq (one (ZU (Ve s sp) s (.ch k (.YJ L) .work) none 0)):=Seq.QF trivial U U;rw[Y] at ab;obtain⟨hi,F,v,O,ae⟩:=ab;obtain⟨l,H⟩:=Z' ((L.filterMap fd).map YE);have az:l.length<=4294967295:=H▸au;rw[<-H] at O;obtain⟨aA,l1,l2⟩:=Ej ap O aq ar (GF l);have af:∀b,v.has b->β<b:=λb=>hi.blocks O (GF l);have aB:∃q x,(join H' E).ω β q=some x:=let ⟨q,x,h⟩:=aw;⟨q,x,join_some h⟩;have aC:t.getD 5 undef=ptr o 0:=by
  have:=ad 5;generalize t.getD 5 undef=u at this;cases this;rfl
 have aD:Zg (S'.plus F) v (WV l) [(4,.z (ptr m 0)),(5,.π 0 1 0 0),(6,.Ν (YE f).cells)] t:=λi=>by
  have P:=(ad i).later l1;simp only[ι] at P ⊢;by_cases ag:4=i
  .simpa[ag] using P
  by_cases ah:5=i
  .subst ah;simp only[show ¬4=5 by decide,if_false,if_true];rw[aC];have:=Θ.π (S:=S'.plus F) (B:=v) (σ:=WV l) (id:=0) (n:=1) (i:=0) (j:=0) (k:=1) (t:=166) (l:=[OH l]) (b:=o) (N:=1) (by simp[WV]) U ae;simpa using this
  .simpa[ag,ah] using P
 have ai:∀(K:ψ) (g:ς) (p:δ) (a:Υ) (c:Frame) (d2:Deferred),K=((L++[k]).filterMap fd).map YE->Xw 1 (S'.plus F) v (join H' E) (WV l) g p a (WV K)->Holds g p (WV K) a->PQ prog d2 79 #[ptr m 0]->
   c.mode=.returning->c.defers=[d2,d1]->c.kind=.deferred->c.fn=181->ZE prog aa false (ZU (Ve s sp) s (.ch k (.YJ L) .work) none 0) c [under prog] a:=λK g p a c d2 e Q aE M c1 c2 aF aG=>by
  subst e;obtain⟨q,x,aj⟩:=aB;exact rq al am Y an ay M c1 c2 aF aG aE (by rw[rv Q.later I];exact ae) ((av.join hi).ext Q.ext af aj) (GH Q.ext (λh=>Nat.lt_irrefl _ (af β h)) ⟨q,x,aj⟩)
 refine V.here (x:=one _) (m:=1) (nt:=20) (S:=S'.plus F) (B:=v) (σ:=WV l) (env:=[(4,.z (ptr m 0)),(5,.π 0 1 0 0),(6,.Ν (YE f).cells)]) ?_ ⟨aA,aD,ax,by simp[WV]⟩ _ U;refine V.YA r U ?_;refine W.ZM ?_;simp only[GC,f181,Option.getD_some,YP];refine ZO ?_;refine W.Zs (.stop ?_);refine V.defer r U U U U U U U ⟨_,func79,U,U⟩ λaK aL aM t3 d2 aN ak aH aI M=>?_;obtain rfl:=Wq (l:=[ptr m 0]) aI;rintro y rfl;refine V.here (x:=one _) (m:=1) (nt:=20) ?_ aH _ U;refine V.YA r U ?_;refine W.ZM ?_;refine υ λaO aJ=>?_;refine Τ.d (ao _) (Δ ?_);apply aJ;by_cases R:0<n
 .refine Ι (by simp[R]) ?_;refine W.S4 (A:=[19]) Ο [] (WV (l++[YE f])) (.stop ?_) (by
   by_cases C:l=[]
   .subst C;(try simp);(repeat (rw[Η];simp[WV,Eh,PO]));(try simp[WV,Eh,PO]);exact⟨U,U⟩
   ·(try simp);(repeat (rw[Η];simp[WV,GG C,Sx C,Ac,JY]));(try simp[WV,GG C,Sx C,Ac,JY]);exact az)
  intro g p a t5 T X;refine μ.Rt r U U ?_;rintro y rfl;exact ai _ g p a _ d2 (by rw[List.filterMap_append,VV,<-H];simp[Z,R]) (ak.trans T) X.holds M U U U U
 .refine Κ (by simp;omega) ?_;refine ZO ?_;refine W.stop ?_;intro g p a t5 T X;refine μ.Rt r U U ?_;rintro y rfl;exact ai _ g p a _ d2 (by rw[List.filterMap_append,VV,<-H];simp[Z,R]) (ak.trans T) X.holds M U U U U
theorem RZ {S:ς} {B:δ} {σ:Ρ} {env env':Β} {t:ν} (h:Zg S B σ env t) (a:∀p∈env',ι env p.1=p.2):Zg S B σ env' t:=by
 induction env' with
 | nil=>exact λi=>.Zx _
 | cons p l b=>
  intro i;simp only[ι];split
  .rename_i e;have:=a p Ω;rw[<-this,e];exact h i
  .exact b (λq c=>a q (by simp[c])) i
theorem rm (i:sp.ZS=some m) (j:sp.top<7) (I:sp.X1=My β Y8 o fd) (K:sp.D k Υ.empty) (M:∀c:Z1,@Τ c prog 182 [Wr Xf,Zb (a,b)] (YE f))
  (O:∀c:Z1,@Τ c prog 183 [YE f,J (-1)] (J n)) (P:fd k=if 0<n then some f else none) (Q:∀L:κ,L.Nodup->((L.filterMap fd).map YE).length<=4294967295)
  (R:∃q v,S β q=some v) (T:∀b q v,S b q=some v->Y8 b q≠none\/β<b) (X:XQ S [] [] (Eg s m o Xf a b) (GD s m o v1 v2 Le)) {p:Value->Prop} :
  Goes prog p false (born prog ⟨.fn (.func 181) (GD s m o v1 v2 Le),#[]⟩) {ZU (Ve s sp) s (.ch k .idle .work) none 0 with G:=Vf S}:=by
 letI:Z1:=Yo;have e:Seq (one (ZU (Ve s sp) s (.ch k .idle .work) none 0)):=Seq.QF trivial U U;refine Quiet.goes (.cons ⟨U,U⟩ (λw=>Ae ⟨_,func181,U,U⟩ w) (.nil _)) (.inl U) ⟨U,U⟩ ?_;show ZE prog p false (ZU (Ve s sp) s (.ch k .idle .work) none 0) (Frame.enter prog 181 (GD s m o v1 v2 Le) .deferred) [under prog] (Vf S);rw[T7 (body:=GC) func181 U];refine V.here (x:=one _) (m:=0) (nt:=20) (S:=S) (B:=[]) (σ:=[]) (env:=entry 0 (Eg s m o Xf a b)) ?_ (XR.enter ry X (ZY _) Ω) _ U;refine V.YA e U ?_;simp only[GC,f181,Option.getD_some];refine ZO ?_;refine W.Zs (.stop ?_);refine V.defer e U U U U U U U ⟨_,func74,U,U⟩ λap Y aq t3 d1 ar Z t aa ab=>?_;obtain rfl:=Wq (l:=[ptr s 0]) aa;obtain rfl:Y=[]:=YZ.1 t.holds.len;rintro y rfl;refine V.here (x:=one _) (m:=0) (nt:=20) ?_ t _ U;refine V.YA e U ?_;refine W.ZM ?_;refine ZO ?_;refine ZG (A:=[6]) Ο λau ad=>Δ ?_;refine Τ.d (M _) (Δ ?_);apply ad;refine W.fix (id:=0) (σ':=[]) (Ζ _) U Ω Ω U [(4,.z (ptr m 0)),(5,.z (ptr o 0)),(6,.Ν (YE f).cells)] (by simp[entry]) ?_;refine ZO ?_;refine W.Zs (.stop ?_);refine V.call e ⟨U,U,by simp[Frame.enter],U⟩ U U U ⟨_,func78,U,U⟩ λav ae aw t4 ax af g ag=>?_;obtain rfl:=Wq (l:=[ptr m 0]) ag;obtain rfl:ae=[]:=YZ.1 g.holds.len;rintro y rfl;refine AE (Ab i j) g.holds λah ai L E u aj ak al ⟨am,ay,an⟩=>?_;rw[V4 U];have C:Ext S [] (Vf S) ah [] ai:=Z.ext.trans (af.ext.trans u);obtain⟨ao,az,F⟩:=R;have H:∀b,¬δ.has ([]:δ) b:=λb ⟨N,h⟩=>by simp at h
 exact rn i j I K O P aj ak al an (Q L am) ((Ag T).ext C (λb h=>absurd h (H b)) (JE F)) (GH C (H β) ⟨ao,_,JE F⟩)
  (by
   refine Zg.later (RZ (g.put (a:=.z (.tuple #[])) U (.z _)).Zt (by simp[Zu])) ⟨u.Zf,λid r h=>by simp at h⟩) (g.put (a:=.z (.tuple #[])) U (.z _)).size ab
end
end Go.TL
namespace Go.TL
open Go.IntKind (i32 i64 u32 u64)
open Go.Proofs.Tryz
open Go.Conc Go.Proofs
variable [Z1]
theorem Ext.rl {S:ς} {B:δ} {H:Υ} {r:Nat} {y:Obj} (a:H.fresh r):Ext S B H S B (H.Zq r y):=
 ⟨λ_ _ _ h=>h,λb _ c=>by
  have:b≠r:=λe=>c (e▸a);exact TK.of ⟨λ_=>rfl,U,by simp[Υ.Zq,this]⟩,λb h=>.inl h,λb o v h=>.inl h,Υ.Ks⟩
theorem Holds.rk {S:ς} {B:δ} {σ:Ρ} {H:Υ} (c:Holds S B σ H) (f:∀r∈σ,T1 r) {b:Nat} (g:H.fresh b):¬B.has b:=λ⟨N,h⟩=>by
 obtain⟨id,d⟩:=TU h;have i:id<σ.length:=by rw[<-c.len];exact(ZR.1 d).1
 have a:=Z4 i;obtain⟨t,k,l,e⟩:=f _ (ZH a);rw[e] at a;exact c.Sd a trivial d g
theorem rj {s:Y6} {F:WN} {a:Int} (h:(S2 s a F).2.2=0):0<=a/\a<s.cells.length/\S2 s a F=(s,F,0):=by
 unfold S2 at h ⊢;split at h
 .rename_i b;simp at h;exact absurd h b
 .split at h
  .simp at h
  .rename_i b c;rw[if_neg b,if_neg c];refine⟨I,I,?_⟩;unfold T5 at h ⊢;rw[if_neg b] at h ⊢;split at h
   .simp at h
   .rename_i d;rw[if_neg d]
end Go.TL
