import Derived.Conc.Own2
import Derived.Test.YtlabjopijpkiaaaGreatHAG
set_option maxHeartbeats 16000000
set_option maxRecDepth 20000
set_option linter.unusedSectionVars false
set_option linter.unusedSimpArgs false
set_option linter.unusedVariables false
namespace Go.TL
open Go.IntKind (i32 i64 u32 u64)
open Go.Proofs.Tryz
open Go.Conc Go.Proofs
open Go.ConcN (sumTo upd sumTo_upd upd_ne upd_same sumTo_congr le_sumTo)
theorem Dm {a b:η} {t u:Tok} (c:PR a t) (d:PR b u) (h:mwd a=mwd b):a.Zb=b.Zb/\a.wk=b.wk/\a.sv=b.sv/\a.nw=b.nw:=by
 have:=c.Zb;have:=c.wk;have:=c.sv;have:=d.Zb;have:=d.wk;have:=d.sv;simp only[mwd] at h;omega
section
variable {Q:Value->Prop} {mn:Bool} {x:Z4} {c:Frame} {rest:List Frame} {S:ο} {B:δ} {σ:Τ} {H:Ψ} {s m k:Nat} {sp:Spec} {v:Option (Nat×η)} {t:Tok}
theorem LH (b:Vv x s m sp) {a:η} (h:a.toSpec=sp):a.top<7:=by have:=b.top;rw[show a.top=sp.top by rw[<-h]];exact this
theorem wh (d:Vv x s m sp) (y:PO Q mn x c rest S H s k sp) {φ:Nat} {a:η} (B:LI Q mn x c rest S H s m k sp φ) (p:a.toSpec=sp) {b st:Bool} {f τ:Int} (i:PR a (.ch k (.act b) .work)) (C:st=true->b=true) (N:0<=f) (O:f<=4) :
  Ve Q mn x c rest S H s m (.ch k (.act b) .work) (some (φ,a)) 1 (.code (Yv [0] QK)::.code (Yv [1] QK)::.inBlock 1::Ux) (Y0 m (mwd a) b st f τ++[(7,.z (.int .i32 (R4 a.Zb a.wk a.sv a.nw b st)))]):=by
 letI:ZV:=Yb;have g:=d.seq;have ad:=Dn i;have ae:=LH d p;have af:=i.Zb;have ag:=i.wk;have ah:=i.sv;have ai:=i.nw;have r:=Hn a.Zb U a.wk U a.sv U a.nw U;rw[<-R5] at r;have P:∀(w:Option (Nat×η)) (env:Ζ),Z' env 0=.z (ptr m 0)->Ve Q mn x c rest S H s m (.ch k .own .work) w 1 [.code LJ] env:=λw env h=>Dq d y h;have R:∀(t:Nat) (D:η),t<φ->¬X8 .i32 (mwd a) 5=0->Ve Q mn x c rest S H s m (.ch k .q .work) (some (t,D)) 1 (.code TE::.inBlock 1::Ux) (Y0 m (mwd a) b st f τ):=λt D T X=>wi d y B T X;refine V.Zv (g _ _ _) ?_;unfold QK Ro TF Rp;refine W.Zm ?_;refine W.part (A:=[]) Ρ [0,1,2,3,4] [5] rfl λY u=>?_;(try simp);(repeat (rw[Μ];simp[Y0]));(try simp[Y0]);apply u;refine W.stop ?_;refine V.Jp (g _ _ _).here (UR _) (sp:=sp) d.spec (by rw[Zu];exact id) d.ZW ⟨⟨rfl,rfl,by simp[Frame.enter],rfl⟩,Ji,⟨_,rfl⟩,rfl,rfl,rfl⟩ (λl e n hv=>.inl ?_) (λl e n hv=>?_)
 ·
  have E:=n.view φ a R6
  have aj:l<φ:=by
   rcases OQ l φ with h|h
   .exact h
   .exact absurd (by rw[E.2 U]) hv
  unfold We;rw[UZ];refine V.Zv (g _ _ _) ?_;refine W.ZH ?_;refine Y5 ?_;refine Η rfl ?_;refine W.Zm ?_;refine XK [0,1,2] [3,4] ?_;refine W.stop ?_;refine V.M8 (g _ _ _).here (sp:=sp) d.spec (by rw[Zu];exact id) ⟨rfl,rfl,by simp[Frame.enter],rfl⟩ rfl rfl rfl M7 rfl Jh mwd (λa w p Z=>Z.Rw (by rw[p];exact d.ZW)) (λo F v=>.inl ?_);have ak:=v.view l e R6;have I:=v.Vw.Tj;rw[Zu] at I;unfold We;rw[UZ];refine V.Zv (g _ _ _) ?_;refine W.part (A:=[]) Ρ [4] [] rfl λY u=>?_;(try simp);(repeat (rw[Μ];simp));(try simp);apply u;refine W.ZH ?_;refine W.inBlock ?_;refine W.forget (Y0 m (mwd F) b st f τ) (by simp[Y0]) (.stop ?_);exact B o F b st f τ U v.spec I C N O
 .have E:=n.view φ a R6
  have J:=n.Vw.Tj;rw[Zu] at J;obtain⟨aa,K,L,M⟩:=Dm J i hv;by_cases j:a.Zb=0/\a.sv=0
  .refine⟨{e with Zb:=1,wk:=if b then 0 else e.wk},.ch k .own .work,?_,rfl,⟨rfl,rfl,rfl⟩,by rw[Zu];exact .acq U U,λo ab=>?_⟩
   .simp[R4,R5,K,L,M,j.1,j.2]
   .rw[WY];rw[j.1,j.2] at r;refine V.Zv (g _ _ _) ?_;refine W.ZH ?_;refine Y5 ?_;refine Ε rfl ?_;refine WC r ?_;refine W.exit rfl (.stop ?_);exact P _ _ rfl
  .have al:a.Zb=1\/a.sv=1:=U
   refine⟨{e with nw:=e.nw+1,wk:=if b then 0 else e.wk,sv:=if(st&&decide (a.Zb=1)) then 1 else e.sv},.ch k .q .work,?_,rfl,⟨rfl,rfl,rfl⟩,by rw[Zu];exact .queue (st&&decide (a.Zb=1)) U (λh=>by simp at h;exact⟨C h.1,U⟩),λo ab=>?_⟩
   .simp only[R4,if_neg j,R5,aa,K,L,M];simp
   .rw[WY];refine V.Zv (g _ _ _) ?_;refine W.ZH ?_;refine Y5 ?_;refine Ε rfl ?_;refine W.forget (Y0 m (mwd a) b st f τ) (by simp[Y0]) (.stop ?_);exact R o _ U U
theorem we (f:Vv x s m sp) {φ:Nat} {b st:Bool} {a τ:Int} {g:Nat} {j:η} (B:0<=a) (C:a<4)
  (r:∀(l:Nat) (e:η),l<=g->e.toSpec=sp->PR e (.ch k (.act b) .work)->Ve Q mn x c rest S H s m (.ch k (.act b) .work) (some (l,e)) 1 Ux (Y0 m (mwd e) b st (a+1) τ)) :
  Ve Q mn x c rest S H s m (.ch k (.act b) .work) (some (g,j)) 1 (.code (Yv [0,0,1,0,1,0] TF)::.code (Yv [0,0,1,0,1,1] TF)::.code Ro::.inBlock 1::Ux) [(0,.z (ptr m 0)),(2,.z (.int .i64 τ)),(3,.z (.bool st)),(4,.z (.bool b)),(5,.z (.int .i64 a))]:=by
 letI:ZV:=Yb;have d:=f.seq;have n:i64.wrap (a+1)=a+1:=by simp only[IntKind.wrap_i64];omega
 refine V.Zv (d _ _ _) ?_;unfold TF Rp;refine Y5 ?_;refine W.Zm (.stop ?_);refine V.Jm (d _ _ _) (vs:=[]) ⟨⟨rfl,rfl,by simp[Frame.enter],rfl⟩,wA,⟨_,rfl⟩,rfl,rfl,rfl⟩ ?_;refine V.Zv (d _ _ _) ?_;refine W.ZH ?_;refine Y5 ?_;refine YX λt h=>?_;(try simp);(repeat (rw[Μ];simp[n]));(try simp[n]);apply h;refine Y5 ?_;refine W.Zm ?_;refine XK [0,1,2] [3,4] ?_;refine W.stop ?_;refine V.M8 (d _ _ _).here (sp:=sp) f.spec (by rw[Zu];exact id) ⟨rfl,rfl,by simp[Frame.enter],rfl⟩ rfl rfl rfl M7 rfl Jh mwd (λD w u v=>v.Rw (by rw[u];exact f.ZW)) (λy o i=>.inl ?_);have E:=i.view g j R6;have p:=i.Vw.Tj;rw[Zu] at p;unfold We;rw[UZ];refine V.Zv (d _ _ _) ?_;refine W.part (A:=[]) Ρ [4] [] rfl λt h=>?_;(try simp);(repeat (rw[Μ];simp));(try simp);apply h;refine W.ZH ?_;refine W.exit rfl ?_;refine W.forget (Y0 m (mwd o) b st (a+1) τ) (by simp[Y0]) (.stop ?_);exact r y o U i.spec p
theorem wc (o:Vv x s m sp) (ak:PO Q mn x c rest S H s k sp):∀(N φ:Nat) (a:η) (f st:Bool) (d τ:Int),φ*8+(4-d).toNat<N->a.toSpec=sp->PR a (.ch k (.act f) .work)->(st=true->f=true)->0<=d->d<=4->
  Ve Q mn x c rest S H s m (.ch k (.act f) .work) (some (φ,a)) 1 (.code TF::Ux) (Y0 m (mwd a) f st d τ):=by
 letI:ZV:=Yb;have p:=o.seq;intro N
 induction N with
 | zero=>intro φ a f st d τ h;omega
 | succ N al=>
  intro φ a f st d τ aw X r v Y am;have an:=Dn r;have ax:=LH o X;have ay:=r.Zb;have az:=r.wk;have aA:=r.sv;have aB:=r.nw;have w:=Hn a.Zb U a.wk U a.sv U a.nw U;have Φ:=Jk a.Zb U a.wk U a.sv U a.nw U;have L:=wI a.Zb U a.wk U a.sv U a.nw U;have B:=Hk a.Zb U a.wk U a.sv U a.nw U;rw[<-R5] at w Φ B L;have Z:∀(l:Nat) (g:η) (e t:Bool) (n C:Int),l*8+(4-n).toNat<N->g.toSpec=sp->PR g (.ch k (.act e) .work)->(t=true->e=true)->0<=n->n<=4->
    Ve Q mn x c rest S H s m (.ch k (.act e) .work) (some (l,g)) 1 Ux (Y0 m (mwd g) e t n C):=λl g e t n C F I D i u M=>by
   have:=al l g e t n C F I D i u M;refine V.XB (p _ _ _) rfl ?_;exact W.inLoop (.stop this)
  have ao:LI Q mn x c rest S H s m k sp φ:=λl g e t n C F I D i u M=>Z l g e t n C U I D i u M
  have aa:Ve Q mn x c rest S H s m (.ch k (.act f) .work) (some (φ,a)) 1 (.code Ro::.inBlock 1::Ux) (Y0 m (mwd a) f st d τ):=by
   rw[R5];exact wq o U U U U an v (by rw[<-R5];exact wh o ak ao X r v Y am)
  have E:∀(O:Nat) (ab:η) (e:Bool),d<4->(O<=φ)->(st=true->e=true)->Ve Q mn x c rest S H s m (.ch k (.act e) .work) (some (O,ab)) 1 (.code (Yv [0,0,1,0,1,0] TF)::.code (Yv [0,0,1,0,1,1] TF)::.code Ro::.inBlock 1::Ux) [(0,.z (ptr m 0)),(2,.z (.int .i64 τ)),(3,.z (.bool st)),(4,.z (.bool e)),(5,.z (.int .i64 d))]:=λO ab e F I D=>
   we o (φ:=φ) Y F λl g ad ae P=>Z l g e st (d+1) τ U ae P D U U
  refine V.Zv (p _ _ _) ?_;unfold TF Rp;refine Y5 ?_;by_cases af:a.Zb=1/\a.sv=0
  .rw[af.1,af.2] at w;refine W.Zm ?_;refine W.part (A:=[]) Ρ [0,1,2,3,4] [5,6] rfl λj b=>?_;(try simp);(repeat (rw[Μ];simp[Y0,w]));(try simp[Y0,w]);apply b;refine W.stop ?_;refine V.canSpin (p _ _ _) ⟨⟨rfl,rfl,by simp[Frame.enter],rfl⟩,wB,⟨_,rfl⟩,rfl,rfl,rfl⟩ λy ap=>?_;refine V.Zv (p _ _ _) ?_;refine W.part (A:=[]) Ρ [6] [] rfl λj b=>?_;(try simp);(repeat (rw[Μ];simp[Y0]));(try simp[Y0]);apply b;refine W.ZH ?_;cases y with
   | false=>
    refine Η rfl ?_
    first|apply W7|apply wb|apply WN|apply wd
    refine W.forget (Y0 m (mwd a) f st d τ) (by simp[Y0]) (.stop ?_);exact aa
   | true=>
    have i:=ap rfl;refine Ε rfl ?_;refine Y5 ?_;cases f with
    | true=>
     (repeat (first|apply W7|apply wb|apply WN|apply wd|refine Ε rfl ?_|refine Η rfl ?_|(refine YX λj b=>?_;simp;(repeat (rw[Μ];simp[Y0]));apply b)));refine W.forget [(0,.z (ptr m 0)),(2,.z (.int .i64 τ)),(3,.z (.bool st)),(4,.z (.bool true)),(5,.z (.int .i64 d))] J (.stop ?_);exact E φ a true i (Z5 _) (λ_=>rfl)
    | false=>
     by_cases ag:a.wk=0
     .by_cases R:a.nw=0
      .rw[ag] at Φ;rw[R] at B;(repeat (first|apply W7|apply wb|apply WN|apply wd|refine Ε rfl ?_|refine Η rfl ?_|(refine YX λj b=>?_;simp;(repeat (rw[Μ];simp[Y0,Φ,B]));apply b)));refine W.forget [(0,.z (ptr m 0)),(2,.z (.int .i64 τ)),(3,.z (.bool st)),(4,.z (.bool false)),(5,.z (.int .i64 d))] J (.stop ?_);exact E φ a false i (Z5 _) v
      .rw[ag] at Φ;have ah:((a.nw:Int) != 0)=true:=by simp;omega
       refine W.Zm ?_;refine W.part (A:=[]) Ρ [0,1,2,3,4,5,6,7,8,9,10,11,12,13,14,15,16,17,18] [19,20] rfl λj b=>?_;(try simp);(repeat (rw[Μ];simp[Y0,Φ,B,L,R,ah]));(try simp[Y0,Φ,B,L,R,ah]);apply b;refine W.stop ?_;refine V.Jp (p _ _ _).here (UR _) (sp:=sp) o.spec (by rw[Zu];exact id) o.ZW ⟨⟨rfl,rfl,by simp[Frame.enter],rfl⟩,Ji,⟨_,rfl⟩,rfl,rfl,rfl⟩ (λai T K hv=>.inl ?_) (λai T K hv=>?_)
       .have aq:=K.view φ a R6;unfold We;rw[UZ];refine V.Zv (p _ _ _) ?_;refine W.part (A:=[]) Ρ [20] [] rfl λj b=>?_;(try simp);(repeat (rw[Μ];simp[Y0]));(try simp[Y0]);apply b;refine W.ZH ?_;refine Η rfl ?_;refine Y5 ?_;refine W.forget [(0,.z (ptr m 0)),(2,.z (.int .i64 τ)),(3,.z (.bool st)),(4,.z (.bool false)),(5,.z (.int .i64 d))] (by simp[Y0]) (.stop ?_);exact E ai T false i U v
       .have aq:=K.view φ a R6
        have aj:=K.Vw.Tj;rw[Zu] at aj;obtain⟨ad,ae,P,ar⟩:=Dm aj r hv;refine⟨{T with wk:=1},.ch k (.act true) .work,?_,rfl,⟨rfl,rfl,rfl⟩,by rw[Zu];exact .Be U U U U,λau aC=>?_⟩
        .simp[R5,ad,P,ar]
        .rw[WY];refine V.Zv (p _ _ _) ?_;refine W.part (A:=[]) Ρ [20] [] rfl λj b=>?_;(try simp);(repeat (rw[Μ];simp[Y0]));(try simp[Y0]);apply b;refine W.ZH ?_;refine Ε rfl ?_;refine YX λj b=>?_;(try simp);(repeat (rw[Μ];simp[Y0]));(try simp[Y0]);apply b;refine Y5 ?_;refine W.forget [(0,.z (ptr m 0)),(2,.z (.int .i64 τ)),(3,.z (.bool st)),(4,.z (.bool true)),(5,.z (.int .i64 d))] (by simp[Y0]) (.stop ?_);exact E au _ true i U (λ_=>rfl)
     .have av:a.wk=1:=U
      rw[av] at Φ;(repeat (first|apply W7|apply wb|apply WN|apply wd|refine Ε rfl ?_|refine Η rfl ?_|(refine YX λj b=>?_;simp;(repeat (rw[Μ];simp[Y0,Φ]));apply b)));refine W.forget [(0,.z (ptr m 0)),(2,.z (.int .i64 τ)),(3,.z (.bool st)),(4,.z (.bool false)),(5,.z (.int .i64 d))] J (.stop ?_);exact E φ a false i (Z5 _) v
  .have u:¬X8 .i32 (mwd a) 5=1:=by rw[w];omega
   refine YX λj b=>?_;(try simp);(repeat (rw[Μ];simp[Y0,u]));(try simp[Y0,u]);apply b;refine Η rfl ?_
   first|apply W7|apply wb|apply WN|apply wd
   refine W.forget (Y0 m (mwd a) f st d τ) (by simp[Y0]) (.stop ?_);exact aa
theorem wa (a:Vv x s m sp):Dr Q mn x s m k sp:=by
 intro c rest S B σ H v j l;letI:ZV:=Yb;have b:=a.seq;have n:=λφ d o st e τ p r t u y=>wc a l (φ*8+(4-e).toNat+1) φ d o st e τ (Qv _) p r t u y;refine V.Ru (z:=one _) (vs:=[ptr m 0]) func213 rfl j (by simp[ntmps213]) ?_ _ rfl;refine V.Zv (b _ _ _) ?_;refine WE ?_;refine W.Zm ?_;refine XK [0,1,2] [3,4] ?_;refine W.stop ?_;refine V.M8 (b _ _ _).here (sp:=sp) a.spec (by rw[Zu];exact id) ⟨rfl,rfl,by simp[Frame.enter],rfl⟩ rfl rfl rfl M7 rfl Jh mwd (λd w C D=>D.Rw (by rw[C];exact a.ZW)) (λE f g=>.inl ?_);have i:=g.Vw.Tj;rw[Zu] at i;unfold We;rw[UZ];refine V.Zv (b _ _ _) ?_;refine W.part (A:=[]) Ρ [4] [] rfl λI F=>?_;(try simp);(repeat (rw[Μ];simp));(try simp);apply F;refine W.ZH ?_;refine Y5 ?_;refine W.loop ?_;refine W.forget (Y0 m (mwd f) false false 0 0) (by simp[Y0]) (.stop ?_);exact n E f false false 0 0 g.spec i (λh=>by cases h) U U
theorem v' (a:Vv x s m sp) (e:Holds S B σ H) (f:PO Q mn x c rest S H s k sp):Zk prog Q mn (ZN x s (.ch k .idle .work) v 0) (Frame.enter prog 144 #[ptr m 0] .normal) (c::rest) H:=by
 letI:ZV:=Yb;have b:=a.seq;refine V.Ru (z:=one _) (vs:=[ptr m 0]) func144 rfl e (by simp[ntmps144]) ?_ _ rfl;refine V.Zv (b _ _ _) ?_;refine Y5 ?_;refine W.Zm ?_;refine XK [0,1,2] [3] ?_;refine W.stop ?_;refine V.call (b _ _ _) ⟨rfl,rfl,by simp[Frame.enter],rfl⟩ rfl rfl rfl ⟨_,func175,rfl,rfl⟩ λu g w t1 A h d hv=>?_;obtain rfl:=TI (l:=[ptr m 0]) hv;obtain rfl:g=[]:=YR.1 d.holds.len;rintro y rfl;refine wu a d.holds (wa a) λi j L E n o p r t=>?_;rw[V4 rfl];refine Zk.leave0 (b _ _ _) rfl rfl rfl rfl func144 rfl ?_;exact f i j L E (h.ext.trans n) o p r t
end
noncomputable def Dl:Code:=f215.body.getD .skip
noncomputable def Hf:Code:=Yv [1,1,0,1,0,0] Dl
noncomputable def Dk:List Item:=[.inLoop Hf,.inBlock 0]
theorem v9:∀n<8,0<n->Q1 .i32 (i32.wrap (WX 0 0 0 n-8)) 2=WX 0 1 0 (n-1):=by decide +kernel
theorem v8:∀b<2,∀c<2,∀n<8,X8 .i32 (i32.wrap (WX 0 b c n+1)) 1=1:=by decide +kernel
abbrev XL:ο:=λ_ _=>none
theorem LG {S b:ο} {B B':δ} {σ σ':Τ} {env:Ζ} {t:Array Value} (c:∀p∈env,∃v,p.2=I.z v) (h:YJ S B σ env t):YJ b B' σ' env t:=by
 intro i;have d:∀(env:Ζ),(∀p∈env,∃v,p.2=I.z v)->(∃v,Z' env i=.z v)\/Z' env i=.Zs:=by
  intro env
  induction env with
  | nil=>exact λ_=>.inr rfl
  | cons p l f=>
   intro h;obtain⟨j,a⟩:=p;simp only[Z'];split
   .exact .inl (h (j,a) J)
   .exact f λq g=>h q (by simp[g])
 have hi:=h i;rcases d env c with⟨v,e⟩|e
 .rw[e] at hi ⊢;generalize t.getD i undef=u at hi;cases hi;exact .z _
 .rw[e];exact .Zs _
theorem M6 (H:Ψ):Holds XL [] [] H:=⟨λb o v h=>(by cases h),rfl,λid r bo h=>(by simp at h),λi j a c b d e _ h=>(by simp at h),λid r b N h=>(by simp at h)⟩
theorem XE.none {m nt:Nat} {S:ο} {B:δ} {H H':Ψ} {env:Ζ} {t:Array Value} (h:XE m nt S B H [] env t) (a:∀p∈env,∃v,p.2=I.z v):XE 0 nt XL [] H' [] env t:=⟨M6 H',LG a h.Zn,h.size,Z5 _⟩
section
variable {Q:Value->Prop} {mn:Bool} {x:Z4} {c:Frame} {rest:List Frame} {S:ο} {B:δ} {σ:Τ} {H:Ψ} {s m k:Nat} {sp:Spec} {v:Option (Nat×η)} {t:Tok}
abbrev He (Q:Value->Prop) (mn:Bool) (x:Z4) (c:Frame) (rest:List Frame) (H:Ψ) (s m:Nat) (w:Int) (t:Tok) (v:Option (Nat×η)) (K:List Item) (env:Ζ):Prop:=
 V prog Q mn (one (ZN x s t v 1)) (Frame.enter prog 215 #[ptr m 0,.int .i32 w] .normal) (c::rest) 43 ⟨XL,[],H,[],0⟩ K env []
def LF (Q:Value->Prop) (mn:Bool) (x:Z4) (c:Frame) (rest:List Frame) (H:Ψ) (s k d:Nat):Prop:=
 ∀(v:Option (Nat×η)) (b:ο) (a:Ψ),Ext XL [] H b [] a->Zk prog Q mn (ZN x s (.ch k .done .work) v d) (c.finish (.tuple #[])) rest a
theorem Hd (a:Vv x s m sp) (b:LF Q mn x c rest H s k 1) {w:Int} {K:List Item} {env:Ζ} (e:t=.ch k .done .work):He Q mn x c rest H s m w t v (.code .ret::K) env:=by
 letI:ZV:=Yb;have d:=a.seq;subst e;refine V.Hr (d _ _ _) rfl rfl rfl rfl func215 rfl λf g h i j=>?_;obtain rfl:g=[]:=YR.1 j.len;rintro y rfl;exact b v f h i.ext
def Dj (k:Nat) (a:η) (t:Tok):Prop:=((a.nw=0\/a.Zb=1\/a.wk=1\/a.sv=1)/\t=.ch k .done .work)\/(0<a.nw/\a.Zb=0/\a.wk=0/\a.sv=0/\t=.ch k .uc .work)
theorem Di (b:Vv x s m sp) (D:LF Q mn x c rest H s k 1) {w:Int}:∀(N φ:Nat) (a:η) (t:Tok),φ<N->a.Zb<=1->a.wk<=1->a.sv<=1->a.nw<7->Dj k a t->
  He Q mn x c rest H s m w t (some (φ,a)) (.code Hf::Dk) [(0,.z (ptr m 0)),(4,.z (.int .i32 (mwd a)))]:=by
 letI:ZV:=Yb;have d:=b.seq;intro N
 induction N with
 | zero=>intro φ a t h;omega
 | succ N ad=>
  intro φ a t ao ap aq ar au K;have l:=wL a.Zb U a.wk U a.sv U a.nw U;have i:=Hk a.Zb U a.wk U a.sv U a.nw U;rw[<-R5] at l i;have L:∀(n:Nat) (e:η) (t':Tok),n<N->e.Zb<=1->e.wk<=1->e.sv<=1->e.nw<7->Dj k e t'->He Q mn x c rest H s m w t' (some (n,e)) Dk [(0,.z (ptr m 0)),(4,.z (.int .i32 (mwd e)))]:=λn e t' E o p r M ae=>by
   have:=ad n e t' E o p r M ae;refine V.XB (d _ _ _) rfl ?_;exact W.inLoop (.stop this)
  refine V.Zv (d _ _ _) ?_;unfold Hf Dl;refine Y5 ?_;rcases K with⟨K,rfl⟩|⟨E,o,p,r,rfl⟩
  .by_cases u:a.nw=0
   .rw[u] at i;refine WC i ?_;exact .stop (Hd b D rfl)
   .have O:¬X8 .i32 (mwd a) 7=0:=by rw[l];omega
    have af:(X8 .i32 (mwd a) 7 != 0)=true:=by simpa using O
    refine WC (Υ i (Υ u (Υ O af))) ?_;exact .stop (Hd b D rfl)
  .have u:¬a.nw=0:=U
   have ag:¬(a.nw:Int)=0:=U
   have P:mwd a=WX 0 0 0 a.nw:=by rw[R5,o,p,r]
   have F:=v9 a.nw U E;rw[<-P] at F;rw[o,p,r] at l;refine WC (Υ i (Υ u (Υ ag l))) ?_;refine W.Zm ?_;refine W.part (A:=[]) Ρ [0,1,2,3,4] [5] rfl λR j=>?_;(try simp);(repeat (rw[Μ];simp[F]));(try simp[F]);apply j;refine W.stop ?_;refine V.Jp (d _ _ _).here (UR _) (sp:=sp) b.spec (by rw[Zu];exact id) b.ZW ⟨⟨rfl,rfl,by simp[Frame.enter],rfl⟩,Ji,⟨_,rfl⟩,rfl,rfl,rfl⟩ (λv f y hv=>.inl ?_) (λv f y hv=>?_)
   .have ah:=y.view φ a R6
    have M:v<φ:=by
     rcases OQ v φ with h|h
     .exact h
     .exact absurd (by rw[ah.2 U]) hv
    unfold We;rw[UZ];refine V.Zv (d _ _ _) ?_;refine W.ZH ?_;refine Η rfl ?_;refine Y5 ?_;refine W.Zm ?_;refine XK [0,1,2] [3,4] ?_;refine W.stop ?_;refine V.M8 (d _ _ _).here (sp:=sp) b.spec (by rw[Zu];exact id) ⟨rfl,rfl,by simp[Frame.enter],rfl⟩ rfl rfl rfl M7 rfl (by kernel_rfl) mwd (λa w ai aj=>aj.Rw (by rw[ai];exact b.ZW)) (λS g I=>?_);have av:=I.view v f R6;have B:=I.Vw.Tj;have ak:=LH b I.spec;have T:=B.Zb;have X:=B.wk;have Y:=B.sv;have aw:=B.nw;by_cases Z:g.nw=0\/g.Zb=1\/g.wk=1\/g.sv=1
    .refine .inr ⟨.ch k .done .work,by rw[Zu];exact .A' Z,λaa al=>?_⟩;rw[WY];refine V.Zv (d _ _ _) ?_;refine W.part (A:=[]) Ρ [4] [] rfl λR j=>?_;(try simp);(repeat (rw[Μ];simp));(try simp);apply j;refine W.ZH ?_;refine Y5 ?_;refine W.forget [(0,.z (ptr m 0)),(4,.z (.int .i32 (mwd g)))] J (.stop ?_);exact L aa g _ U T X Y U (.inl ⟨Z,rfl⟩)
    .refine .inl ?_;unfold We;rw[UZ];refine V.Zv (d _ _ _) ?_;refine W.part (A:=[]) Ρ [4] [] rfl λR j=>?_;(try simp);(repeat (rw[Μ];simp));(try simp);apply j;refine W.ZH ?_;refine Y5 ?_;refine W.forget [(0,.z (ptr m 0)),(4,.z (.int .i32 (mwd g)))] J (.stop ?_);exact L S g _ U T X Y U (.inr ⟨U,U,U,U,rfl⟩)
   .have C:=y.Vw.Tj
    have ak:=LH b y.spec
    have f1:=C.Zb;have f2:=C.wk;have f3:=C.sv;have f4:=C.nw
    have f5:f.Zb=0/\f.wk=0/\f.sv=0/\f.nw=a.nw:=by
     rw[P] at hv;simp only[mwd,WX] at hv;omega
    refine⟨{f with nw:=f.nw-1,wk:=1},.ch k .us .work,?_,rfl,⟨rfl,rfl,rfl⟩,by rw[Zu];exact .Ba U U U U,λS al=>?_⟩
    .simp[R5,f5]
    .rw[WY];refine V.Zv (d _ _ _) ?_;refine W.ZH ?_;refine Ε rfl ?_;refine Y5 ?_;refine W.Zm ?_;refine XK [0,1,2] [3] ?_;refine W.stop ?_;refine V.DF (d _ _ _).here (sp:=sp) b.spec (by rw[Zu];exact id) b.ZW (vs:=[ptr m 1,.bool false,.int .i64 2]) rfl ⟨⟨rfl,rfl,by simp[Frame.enter],rfl⟩,Du,⟨_,rfl⟩,rfl,rfl,rfl⟩ (λaa ab am=>?_);have an:=am.Vw.Tj;refine⟨by have:=an.YF;omega,{ab with YF:=ab.YF+1},.ch k .done .work,rfl,rfl,⟨rfl,rfl,rfl⟩,by rw[Zu];exact .post,λax ay=>?_⟩;rw[WY];refine V.Zv (d _ _ _) ?_;refine W.ZH (.stop ?_);exact Hd b D rfl
theorem v7 (e:Vv x s m sp) (i:LF Q mn x c rest H s k 1) {a:η} {φ:Nat} (K:a.toSpec=sp) (l:a.Zb=0) (n:a.wk<=1) (o:a.sv<=1) (p:a.nw<7)
  (u:(a.sv=0/\(a.nw=0\/a.wk=1)/\t=.ch k .done .work)\/(a.sv=0/\0<a.nw/\a.wk=0/\t=.ch k .uc .work)\/(a.sv=1/\t=.ch k .us .work)) :
  Zk prog Q mn (ZN x s t (some (φ,a)) 1) (Frame.enter prog 215 #[ptr m 0,.int .i32 (mwd a)] .normal) (c::rest) H:=by
 letI:ZV:=Yb;have f:=e.seq;have g:=v8 a.wk U a.sv U a.nw U;have b:=Hm 0 U a.wk U a.sv U a.nw U;have v:mwd a=WX 0 a.wk a.sv a.nw:=by rw[R5,l]
 rw[<-v] at g b;refine V.Ru (z:=one _) (vs:=[ptr m 0,.int .i32 (mwd a)]) (S:=XL) func215 rfl (M6 H) (by simp[ntmps215]) ?_ _ rfl;refine V.Zv (f _ _ _) ?_;rcases u with⟨d,j,rfl⟩|⟨d,j,w,rfl⟩|⟨d,rfl⟩
 .rw[d] at b;refine WC (Υ g b) ?_;refine W.loop ?_;refine W.forget [(0,.z (ptr m 0)),(4,.z (.int .i32 (mwd a)))] J (.stop ?_);exact Di e i (φ+1) φ a _ (Qv _) U n o p (.inl ⟨j.imp id λh=>.inr (.inl h),rfl⟩)
 .rw[d] at b;refine WC (Υ g b) ?_;refine W.loop ?_;refine W.forget [(0,.z (ptr m 0)),(4,.z (.int .i32 (mwd a)))] J (.stop ?_);exact Di e i (φ+1) φ a _ (Qv _) U n o p (.inr ⟨j,l,w,d,rfl⟩)
 .rw[d] at b;refine WC (Υ g b) ?_;refine W.Zm ?_;refine XK [0,1,2] [3] ?_;refine W.stop ?_;refine V.DF (f _ _ _).here (sp:=sp) e.spec (by rw[Zu];exact id) e.ZW (vs:=[ptr m 1,.bool true,.int .i64 2]) rfl ⟨⟨rfl,rfl,by simp[Frame.enter],rfl⟩,Du,⟨_,rfl⟩,rfl,rfl,rfl⟩ (λL r A=>?_);have B:=A.Vw.Tj;refine⟨by have:=B.YF;omega,{r with YF:=r.YF+1},.ch k .done .work,rfl,rfl,⟨rfl,rfl,rfl⟩,by rw[Zu];exact .post,λM N=>?_⟩;rw[WY];refine V.Zv (f _ _ _) ?_;refine W.ZH (.stop ?_);refine V.Jn (f _ _ _) rfl rfl rfl rfl func215 rfl λC D E F I=>?_;obtain rfl:D=[]:=YR.1 I.len;rintro y rfl;exact i _ C E F.ext
end
noncomputable def LD:Code:=f176.body.getD .skip
theorem v5:(prog.funcs[176]?).any (·.norace)=true:=by kernel_rfl
section
variable {Q:Value->Prop} {mn:Bool} {x:Z4} {c:Frame} {rest:List Frame} {S:ο} {B:δ} {σ:Τ} {H:Ψ} {s m k:Nat} {sp:Spec} {v:Option (Nat×η)} {t:Tok}
abbrev Dh (Q:Value->Prop) (mn:Bool) (x:Z4) (c:Frame) (rest:List Frame) (H:Ψ) (s m:Nat) (t:Tok) (v:Option (Nat×η)) (d:Nat) (K:List Item) (env:Ζ):Prop:=
 V prog Q mn (one (ZN x s t v d)) (Frame.enter prog 176 #[ptr m 0] .normal) (c::rest) 21 ⟨XL,[],H,[],0⟩ K env []
theorem Dg {c:ο} {H H':Ψ} (h:Ext XL [] H c [] H'):Ext XL [] H XL [] H':=
 ⟨λb o v h=>(by cases h),λb a d=>h.Xv b a d,λb a=>h.blocks b a,λb o v h=>(by cases h),h.grow⟩
theorem Df (b:Vv x s m sp) (d:LF Q mn x c rest H s k 0) {env:Ζ}:Dh Q mn x c rest H s m (.ch k .done .work) v 1 [.code (Yv [1,1,1] LD)] env:=by
 letI:ZV:=Yb;have a:=b.seq;refine V.Zv (a _ _ _) ?_;unfold LD;refine W.Zm (.stop ?_);refine V.enable (a _ _ _).here (UR _) ⟨⟨rfl,rfl,by simp[Frame.enter],rfl⟩,O9,⟨_,rfl⟩,rfl,rfl,rfl⟩ ?_;rw[LM];refine V.Zv (a _ _ _) ?_;refine W.ZH (.stop ?_);refine V.Jn (a _ _ _) rfl rfl rfl rfl func176 rfl λe f g h i=>?_;obtain rfl:f=[]:=YR.1 i.len;rintro y rfl;exact d _ e g h.ext
theorem v3 (d:Vv x s m sp) (Y:Holds S B σ H) {L:List Nat}
  (Z:∀(F:ο) (H':Ψ),Ext S [] H F [] H'->Holds F [] [] H'->∃g E,Split H' g E/\sp.X2 (L++[k]) E/\LF Q mn x c rest g s k 0) :
  Zk prog Q mn (ZN x s (.ch k (.YK L) .work) v 0) (Frame.enter prog 176 #[ptr m 0] .normal) (c::rest) H:=by
 letI:ZV:=Yb;have e:=d.seq;refine V.Ru (z:=one _) (vs:=[ptr m 0]) func176 rfl Y (by simp[ntmps176]) ?_ _ rfl;refine V.Zv (e _ _ _) ?_;refine Y5 ?_;refine Ε rfl ?_;refine Y5 ?_;refine W.Zm ?_;refine XK [0,1,2] [3] ?_;refine W.stop ?_;refine V.M8 (e _ _ _).here (sp:=sp) d.spec (by rw[Zu];exact id) ⟨rfl,rfl,by simp[Frame.enter],rfl⟩ rfl rfl rfl M7 rfl v5 mwd (λI w n o=>o.Rw (by rw[n];exact d.ZW)) (λaD aE aF=>.inl ?_);unfold We;rw[UZ];refine V.Zv (e _ _ _) ?_;refine W.ZH ?_;refine Y5 ?_;refine W.forget [(0,.z (ptr m 0))] J ?_;refine W.Zm ?_;refine XK [0] [1,2] ?_;refine W.stop ?_;refine V.conv (e _ _ _).here (sp:=sp) d.spec (by rw[Zu];exact id) ⟨rfl,rfl,by simp[Frame.enter],rfl⟩ rfl rfl rfl Hj O8 Hi rfl (λI w n o=>⟨_,o.Rw (by rw[n];exact d.ZW)⟩) (λφ I aG=>?_);unfold We;rw[UZ];refine V.Io d.rel rfl (sp:=sp) (L:=L) d.spec d.ZW Zu ⟨⟨rfl,rfl,by simp[Frame.enter],rfl⟩,DC,⟨_,rfl⟩,rfl,rfl,rfl⟩ λaa ab g t1 ad p=>?_;obtain rfl:ab=[]:=YR.1 p.holds.len;obtain⟨r,E,ae,af,K⟩:=Z aa g ad.ext p.holds;refine⟨r,E,ae,af,?_⟩;rw[WY];refine V.here (x:=one _) (S:=XL) (B:=[]) (σ:=[]) (m:=0) (nt:=21) ?_ (p.none J) _ rfl;refine V.Zv (e _ _ _) ?_;refine W.ZH ?_;refine Y5 ?_;refine W.Zm (.stop ?_);refine V.disable (e _ _ _).here ⟨⟨rfl,rfl,by simp[Frame.enter],rfl⟩,LK,⟨_,rfl⟩,rfl,rfl,rfl⟩ ?_;rw[LN];refine V.Zv (e _ _ _) ?_;refine W.ZH ?_;refine Y5 ?_;refine W.Zm ?_;refine XK [0,1,2] [3,4] ?_;refine W.stop ?_;refine V.DL (e _ _ _).here (UR _) (sp:=sp) d.spec (by rw[Zu];exact id) d.ZW ⟨⟨rfl,rfl,by simp[Frame.enter],rfl⟩,Dy,⟨_,rfl⟩,rfl,rfl,rfl⟩ (λaH b u=>?_);have f:=u.Vw.Tj;rw[Zu] at f;have ag:=f.hold rfl;have aI:=LH d u.spec;have f1:=f.wk;have f2:=f.sv;have f3:=f.nw;have M:mwd {b with Zb:=0}=i32.wrap (mwd b+-1):=by simp only[mwd,IntKind.wrap_i32,ag];omega
 have N:∀(t:Tok) (O:Nat),(b.sv=0/\(b.nw=0\/b.wk=1)/\t=.ch k .done .work)\/(b.sv=0/\0<b.nw/\b.wk=0/\t=.ch k .uc .work)\/(b.sv=1/\t=.ch k .us .work)->
   Dh Q mn x c rest r s m t (some (O,{b with Zb:=0})) 1 [.code (Yv [1,1,0] LD),.code (Yv [1,1,1] LD)] [(0,.z (ptr m 0)),(2,.z (.int .i32 (mwd {b with Zb:=0})))]:=λt O P=>by
  refine V.Zv (e _ _ _) ?_;unfold LD;refine Y5 ?_;by_cases i:mwd {b with Zb:=0}=0
  .refine WC i ?_;have ah:t=.ch k .done .work:=by
    simp only[mwd] at i;rcases P with⟨_,_,h⟩|⟨_,h,_⟩|⟨h,_⟩
    .exact h
    .omega
    .omega
   subst ah;exact .stop (Df d K)
  .have ai:(mwd {b with Zb:=0} != 0)=true:=by simpa using i
   refine WC (Υ i ai) ?_;refine W.Zm ?_;refine XK [0,1] [2] ?_;refine W.stop ?_;refine V.call (e _ _ _) ⟨rfl,rfl,by simp[Frame.enter],rfl⟩ rfl rfl rfl ⟨_,func215,rfl,rfl⟩ λaJ aj aK t4 aL ak R al=>?_;obtain rfl:=TI (l:=[ptr m 0,.int .i32 (mwd {b with Zb:=0})]) al;obtain rfl:aj=[]:=YR.1 R.holds.len;rintro y rfl;refine v7 d (λaM aN am an=>?_) (by exact u.spec) rfl f1 f2 (by show b.nw<7;omega) P;rw[V4 rfl];have ao:Ext XL [] r XL [] am:=(Dg ak.ext).trans (Dg an);refine V.here (x:=one _) (S:=XL) (B:=[]) (σ:=[]) (m:=0) (nt:=21) ?_ ((R.put (a:=SF) rfl (.z _)).none J) _ rfl;refine V.Zv (e _ _ _) ?_;refine W.ZH (.stop ?_);exact Df d λap aq ar au=>K ap aq ar (ao.trans au)
 by_cases T:b.sv=1
 .refine⟨{b with Zb:=0},.ch k .us .work,M,rfl,⟨rfl,rfl,rfl⟩,by rw[Zu];exact .Bb T,λC _=>?_⟩;rw[WY];refine V.Zv (e _ _ _) ?_;refine W.part (A:=[]) Ρ [4] [] rfl λav D=>?_;(try simp);(repeat (rw[Μ];simp));(try simp);apply D;refine W.ZH ?_
  first|apply W7|apply wb|apply WN|apply wd
  refine W.forget [(0,.z (ptr m 0)),(2,.z (.int .i32 (mwd {b with Zb:=0})))] J (.stop ?_);exact N _ C (.inr (.inr ⟨T,rfl⟩))
 .have j:b.sv=0:=U
  have step:∀(t:Tok),(b.sv=0/\(b.nw=0\/b.wk=1)/\t=.ch k .done .work)\/(b.sv=0/\0<b.nw/\b.wk=0/\t=.ch k .uc .work)->Act b (.ch k .fin .work) {b with Zb:=0} t->∃o' t',mwd o'=i32.wrap (mwd b+-1)/\o'.YF=b.YF/\M9 b o'/\Act b (.ch k .fin .work) o' t'/\((b.sv=0/\(b.nw=0\/b.wk=1)/\t'=.ch k .done .work)\/(b.sv=0/\0<b.nw/\b.wk=0/\t'=.ch k .uc .work))/\o'={b with Zb:=0}:=λt aw ax=>⟨_,t,M,rfl,⟨rfl,rfl,rfl⟩,ax,aw,rfl⟩;obtain⟨o',t',ay,az,aA,aB,aC,rfl⟩:∃o' t',mwd o'=i32.wrap (mwd b+-1)/\o'.YF=b.YF/\M9 b o'/\Act b (.ch k .fin .work) o' t'/\((b.sv=0/\(b.nw=0\/b.wk=1)/\t'=.ch k .done .work)\/(b.sv=0/\0<b.nw/\b.wk=0/\t'=.ch k .uc .work))/\o'={b with Zb:=0}:=by
   by_cases X:b.nw=0\/b.wk=1
   .exact step _ (.inl ⟨j,X,rfl⟩) (.Bd j X)
   .exact step _ (.inr ⟨j,U,U,rfl⟩) (.Bc j U U)
  refine⟨_,t',ay,az,aA,by rw[Zu];exact aB,λC _=>?_⟩;rw[WY];refine V.Zv (e _ _ _) ?_;refine W.part (A:=[]) Ρ [4] [] rfl λav D=>?_;(try simp);(repeat (rw[Μ];simp));(try simp);apply D;refine W.ZH ?_
  first|apply W7|apply wb|apply WN|apply wd
  refine W.forget [(0,.z (ptr m 0)),(2,.z (.int .i32 (mwd {b with Zb:=0})))] J (.stop ?_);exact N _ C (aC.imp id λh=>.inl h)
theorem Zk.leaveD [ZV] {P:Program} {Q:Value->Prop} {mn:Bool} {x:Z4} {c b:Frame} {rest:List Frame} {H:Ψ} {t:Array Value} {ops:Array Oper} {fn:Func} (a:Seq (one x)) (d:b.mode=.run) (e:b.roundOf=none) (f:b.defers=[]) (g:b.kind=.deferred) (i:P.funcs[b.fn]?=some fn) (j:fn.results=#[])
  (k:c.mode=.returning) (h:Zk P Q mn x c rest H):Zk P Q mn x (υ b t [.inRegion ops []]) (c::rest) H:=by
 refine θ.ZH (x:=one x) a d (.Qm a d e (.Ii a rfl f g i ?_)) x rfl;rw[results_none j];refine Ω.pure' ?_;simp only[k];intro y l;cases l;exact h
theorem vZ (h:Vv x s m sp) (p:Holds S B σ H) (r:c.mode=.returning) {L:List Nat}
  (t:∀(j:ο) (H':Ψ),Ext S [] H j [] H'->Holds j [] [] H'->∃d E,Split H' d E/\sp.X2 (L++[k]) E/\∀(v:Option (Nat×η)) (e:ο) (b:Ψ),Ext XL [] d e [] b->Zk prog Q mn (ZN x s (.ch k .done .work) v 0) c rest b) :
  Zk prog Q mn (ZN x s (.ch k (.YK L) .work) v 0) (Frame.enter prog 145 #[ptr m 0] .deferred) (c::rest) H:=by
 letI:ZV:=Yb;have f:=h.seq;rw[Sa (body:=f145.body.getD .skip) func145 rfl];refine V.here (x:=one _) (m:=0) (nt:=6) (env:=entry 0 [.z (ptr m 0)]) ?_ (XE.enter p.bare ⟨rfl,λi a v g n=>?_⟩ (Z5 _) J) _ rfl
 .refine V.XB (f _ _ _) rfl ?_;simp only[f145,Option.getD_some];refine Y5 ?_;refine W.Zm ?_;refine XK [0,1,2] [3] ?_;refine W.stop ?_;refine V.call (f _ _ _) ⟨rfl,rfl,by simp[Frame.enter],rfl⟩ rfl rfl rfl ⟨_,func176,rfl,rfl⟩ λR u d t1 T w o hv=>?_;obtain rfl:=TI (l:=[ptr m 0]) hv;obtain rfl:u=[]:=YR.1 o.holds.len;rintro y rfl;refine v3 h o.holds (L:=L) λe b A C=>?_;obtain⟨D,E,F,I,K⟩:=t e b (w.ext.trans A) C;refine⟨D,E,F,I,λM N O P=>?_⟩;rw[V4 rfl];refine Zk.leaveD (f _ _ _) rfl rfl rfl rfl func145 rfl r ?_;exact K M N O P
 .cases i with
  | zero=>simp at g n;subst g;subst n;exact .z _
  | succ i=>simp at g
end
structure T8 (x:Z4) (s:Nat) (sp:Spec):Prop where
 rel:x.rel=false
 γ:x.γ=λ_=>none
 spec:x.spec s=some sp
 top:sp.top<7
 still:∀a,a≠s->Tl (x.tok a)
theorem T8.seq {x:Z4} {s:Nat} {sp:Spec} (h:T8 x s sp):∀t v d,@Seq Yb (one (ZN x s t v d)):=λt v d=>@Seq.Pb Yb _ trivial h.rel h.γ
abbrev Wi (c w:Nat):Int:=(c:Int)*4294967296+w
theorem Jg:∀c<8,∀w<2,X8 .u64 (Wi c w) 2147483648=0:=by decide +kernel
theorem Jf:∀c<8,∀w<2,i32.wrap ((Wi c w).fdiv (2 ^ min 32 u64.bits))=c:=by decide +kernel
theorem Je:∀c<8,∀w<2,u32.wrap (X8 .u64 (Wi c w) 2147483647)=w:=by decide +kernel
theorem vY:∀c<7,∀w<2,u64.wrap (Wi c w+4294967296)=Wi (c+1) w:=by decide +kernel
theorem vX:∀c<8,∀w<2,0<c->u64.wrap (Wi c w+18446744069414584320)=Wi (c-1) w:=by decide +kernel
theorem vW:∀c<8,u64.wrap (Wi c 0+1)=Wi c 1:=by decide +kernel
theorem De:u64.wrap 1=1:=Z3
theorem Dd:u64.wrap (2 ^ min 32 u64.bits)=4294967296:=Z3
theorem Hc:i32.wrap 1=1:=Z3
theorem O7 (a:η):Y8 a=Wi a.cnt a.wt:=rfl
section
variable {Q:Value->Prop} {mn:Bool} {x:Z4} {c:Frame} {rest:List Frame} {S:ο} {B:δ} {σ:Τ} {H:Ψ} {s k:Nat} {sp:Spec} {v:Option (Nat×η)} {t:Tok}
theorem Jd (b:T8 x s sp) {a:η} (h:a.toSpec=sp):a.top<7:=by have:=b.top;rw[show a.top=sp.top by rw[<-h]];exact this
def M5 (Q:Value->Prop) (mn:Bool) (x:Z4) (c:Frame) (rest:List Frame) (S:ο) (H:Ψ) (r:Value):Prop:=
 ∀(a:ο) (H':Ψ),Ext S [] H a [] H'->Holds a [] [] H'->Zk prog Q mn x (c.finish r) rest H'
theorem vV (f:T8 x s sp) (h:¬Xn t) {d:Int} (i:Holds S B σ H)
  (j:∀φ a,Seen (ZN x s t v 1) s sp φ a->∃o' t',Y8 o'=u64.wrap (Y8 a+d)/\o'.YY=a.YY/\QL a o'/\Act a t o' t'/\∀b,b<φ->M5 Q mn (ZN x s t' (some (b,o')) 1) c rest S H (.int .u64 (Y8 o'))) :
  Zk prog Q mn (ZN x s t v 1) (Frame.enter prog 166 #[ptr s 0,.int .u64 d] .normal) (c::rest) H:=by
 letI:ZV:=Yb;have e:=f.seq;refine V.Ru (z:=one _) (vs:=[ptr s 0,.int .u64 d]) func166 rfl i (by simp[ntmps166]) ?_ _ rfl;refine V.Zv (e _ _ _) ?_;refine WE ?_;refine W.Zm ?_;refine XK [0,1,2,3] [4,5] ?_;refine W.stop ?_;refine V.Hs (e _ _ _).here (UR _) (sp:=sp) f.spec (by rw[Zu];exact h) ⟨⟨rfl,rfl,by simp[Frame.enter],rfl⟩,Dx,⟨_,rfl⟩,rfl,rfl,rfl⟩ (λφ a k=>?_);obtain⟨o',t',l,m,n,o,p⟩:=j φ a k;refine⟨o',t',l,m,n,by rw[Zu];exact o,λb r=>?_⟩;rw[WY];refine V.Zv (e _ _ _) ?_;refine W.part (A:=[]) Ρ [5] [] rfl λF u=>?_;(try simp);(repeat (rw[Μ];simp));(try simp);apply u;refine W.ZH (.stop ?_);refine V.PT (e _ _ _) rfl rfl rfl rfl func166 rfl rfl λw C D E g=>?_;obtain rfl:C=[]:=YR.1 g.len;rintro y rfl;exact p b r w D E.ext g
theorem Hb (l:T8 x s sp) (m:¬Xn t) (n:Holds S B σ H)
  (o:∀φ a,Seen (ZN x s t v 1) s sp φ a->M5 Q mn (ZN x s t (some (φ,a)) 1) c rest S H (.int .u64 (Y8 a))\/∃t',Act a t a t'/\∀e,e<φ->M5 Q mn (ZN x s t' (some (e,a)) 1) c rest S H (.int .u64 (Y8 a))) :
  Zk prog Q mn (ZN x s t v 1) (Frame.enter prog 168 #[ptr s 0] .normal) (c::rest) H:=by
 letI:ZV:=Yb;have b:=l.seq;refine V.Ru (z:=one _) (vs:=[ptr s 0]) func168 rfl n (by simp[ntmps168]) ?_ _ rfl;refine V.Zv (b _ _ _) ?_;refine WE ?_;refine W.Zm ?_;refine XK [0,1,2] [3,4] ?_;refine W.stop ?_;refine V.Ht (b _ _ _).here (UR _) (sp:=sp) l.spec (by rw[Zu];exact m) ⟨⟨rfl,rfl,by simp[Frame.enter],rfl⟩,Dw,⟨_,rfl⟩,rfl,rfl,rfl⟩ (λφ a p=>(o φ a p).imp (λh=>?_) (λ⟨t',r,u⟩=>⟨t',by rw[Zu];exact r,λe w=>?_⟩))
 .unfold We;rw[UZ];refine V.Zv (b _ _ _) ?_;refine W.part (A:=[]) Ρ [4] [] rfl λC f=>?_;(try simp);(repeat (rw[Μ];simp));(try simp);apply f;refine W.ZH (.stop ?_);refine V.PT (b _ _ _) rfl rfl rfl rfl func168 rfl rfl λg i j k d=>?_;obtain rfl:i=[]:=YR.1 d.len;rintro y rfl;exact h g j k.ext d
 .rw[WY];refine V.Zv (b _ _ _) ?_;refine W.part (A:=[]) Ρ [4] [] rfl λC f=>?_;(try simp);(repeat (rw[Μ];simp));(try simp);apply f;refine W.ZH (.stop ?_);refine V.PT (b _ _ _) rfl rfl rfl rfl func168 rfl rfl λg i j k d=>?_;obtain rfl:i=[]:=YR.1 d.len;rintro y rfl;exact u e w g j k.ext d
theorem vU (o:T8 x s sp) (p:¬Xn t) (r:Holds S B σ H) {e g:Int}
  (u:∀φ a,Seen (ZN x s t v 1) s sp φ a->¬Y8 a=e->M5 Q mn (ZN x s t (some (φ,a)) 1) c rest S H (.bool false))
  (w:∀φ a,Seen (ZN x s t v 1) s sp φ a->Y8 a=e->∃o' t',Y8 o'=g/\o'.YY=a.YY/\QL a o'/\Act a t o' t'/\∀f,f<φ->M5 Q mn (ZN x s t' (some (f,o')) 1) c rest S H (.bool true)) :
  Zk prog Q mn (ZN x s t v 1) (Frame.enter prog 179 #[ptr s 0,.int .u64 e,.int .u64 g] .normal) (c::rest) H:=by
 letI:ZV:=Yb;have b:=o.seq;refine V.Ru (z:=one _) (vs:=[ptr s 0,.int .u64 e,.int .u64 g]) func179 rfl r (by simp[ntmps179]) ?_ _ rfl;refine V.Zv (b _ _ _) ?_;refine WE ?_;refine W.Zm ?_;refine XK [0,1,2,3,4] [5,6] ?_;refine W.stop ?_;refine V.xd (b _ _ _).here (UR _) (sp:=sp) o.spec (by rw[Zu];exact p) ⟨⟨rfl,rfl,by simp[Frame.enter],rfl⟩,wD,⟨_,rfl⟩,rfl,rfl,rfl⟩ (λφ a i hv=>?_) (λφ a i hv=>?_)
 .have h:=u φ a i hv;unfold We;rw[UZ];refine V.Zv (b _ _ _) ?_;refine W.part (A:=[]) Ρ [6] [] rfl λC j=>?_;(try simp);(repeat (rw[Μ];simp));(try simp);apply j;refine W.ZH (.stop ?_);refine V.PT (b _ _ _) rfl rfl rfl rfl func179 rfl rfl λk l m n d=>?_;obtain rfl:l=[]:=YR.1 d.len;rintro y rfl;exact h k m n.ext d
 .obtain⟨o',t',D,E,F,I,J⟩:=w φ a i hv;refine⟨o',t',D,E,F,by rw[Zu];exact I,λf K=>?_⟩;rw[WY];refine V.Zv (b _ _ _) ?_;refine W.part (A:=[]) Ρ [6] [] rfl λC j=>?_;(try simp);(repeat (rw[Μ];simp));(try simp);apply j;refine W.ZH (.stop ?_);refine V.PT (b _ _ _) rfl rfl rfl rfl func179 rfl rfl λk l m n d=>?_;obtain rfl:l=[]:=YR.1 d.len;rintro y rfl;exact J f K k m n.ext d
end
theorem XE.O6 {m nt:Nat} {S a:ο} {B:δ} {H H':Ψ} {env:Ζ} {t:Array Value} (h:XE m nt S B H [] env t) (b:∀p∈env,∃v,p.2=I.z v) (c:Holds a [] [] H'):XE 0 nt a [] H' [] env t:=⟨c,LG b h.Zn,h.size,Z5 _⟩
theorem Zk.Ha [ZV] {P:Program} {d:Value->Prop} {mn:Bool} {x:Z4} {c b:Frame} {rest:List Frame} {H:Ψ} {t:Array Value} {k:List Item} {fn:Func} {f:FuncId} (e:Seq (one x)) (j:Seq (one {x with deaf:=x.deaf-1})) (hd:0<x.deaf) (g:b.mode=.run) (i:b.roundOf=none) (l:b.defers=[Go.Conc.dcall f #[]]) (m:b.kind=.normal) (n:P.funcs[b.fn]?=some fn) (o:fn.results=#[])
  (p:Entry P f (λ_=>do mark .enable;pure Extern.Race.none_)) (h:Zk P d mn {x with deaf:=x.deaf-1} (c.finish (.tuple #[])) rest H):Zk P d mn x (υ b t (.code .ret::k)) (c::rest) H:=by
 refine θ.ret (x:=one x) e g i (λy a=>?_) x rfl;cases a;refine Zk.w7 e.here hd g i l p ?_;refine θ.back (f:={υ {b with defers:=[]} t (.code .ret::k) with mode:=.returning}) (x:=one {x with deaf:=x.deaf-1}) j rfl rfl (.inl m) n ?_ _ rfl;rw[results_none o];refine Ω.pure' (λy a=>?_);cases a;exact h
section
variable {Q:Value->Prop} {mn:Bool} {x:Z4} {c:Frame} {rest:List Frame} {S:ο} {B:δ} {σ:Τ} {H:Ψ} {s n p:Nat} {sp:Spec} {v:Option (Nat×η)} {t:Tok}
theorem vT (g:T8 x s sp) (L:n<sp.top) (M:Holds S B σ H)
  (N:∀v,M5 Q mn (ZN x s (.par (n+1) (p+1) .add) v 0) c rest S H (.tuple #[])) :
  Zk prog Q mn (ZN x s (.par n p .add) v 0) (Frame.enter prog 140 #[ptr s 0,.int .i64 1] .normal) (c::rest) H:=by
 letI:ZV:=Yb;have e:=g.seq;refine V.Ru (z:=one _) (vs:=[ptr s 0,.int .i64 1]) func140 rfl M (by simp[ntmps140]) ?_ _ rfl;refine V.Zv (e _ _ _) ?_;refine WE ?_;refine W.Zm (.stop ?_);refine V.disable (e _ _ _).here ⟨⟨rfl,rfl,by simp[Frame.enter],rfl⟩,LK,⟨_,rfl⟩,rfl,rfl,rfl⟩ ?_;rw[LN];refine V.Zv (e _ _ _) ?_;refine W.ZH ?_;refine Y5 ?_;refine W.Zm (.stop ?_);refine V.Hq (e _ _ _) ⟨rfl,rfl,by simp[Frame.enter],rfl⟩ rfl rfl rfl ?_;refine V.Zv (e _ _ _) ?_;refine W.ZH ?_;refine WE ?_;refine W.Zm (.stop ?_);refine V.Jm (e _ _ _) (vs:=[]) ⟨⟨rfl,rfl,by simp[Frame.enter],rfl⟩,Dz,⟨_,rfl⟩,rfl,rfl,rfl⟩ ?_;refine V.Zv (e _ _ _) ?_;refine W.ZH ?_;refine WE ?_;refine W.Zm ?_;refine W.part (A:=[]) Ρ [0,1,2,3,4,5] [6,7] rfl λO k=>?_;(try simp);(repeat (rw[Μ];simp[De,Dd]));(try simp[De,Dd]);apply k;refine W.stop ?_;refine V.call (e _ _ _) ⟨rfl,rfl,by simp[Frame.enter],rfl⟩ rfl rfl rfl ⟨_,func166,rfl,rfl⟩ λam P an t1 ao R o hv=>?_;obtain rfl:=TI (l:=[ptr s 0,.int .u64 4294967296]) hv;obtain rfl:P=[]:=YR.1 o.holds.len;rintro y rfl;refine vV g id o.holds λφ f j=>?_;have u:=j.Vw.PQ;rw[Zu] at u;obtain⟨C,ap,aq,ar,T⟩:=u.add n p rfl;have X:=Jd g j.spec;have D:n<f.top:=by rw[show f.top=sp.top by rw[<-j.spec]];exact L
 have Y:∀a b c d:Nat,a=b+1->b<=c->c<d->d<7->a<8/\b<7/\0<a/\¬a=0:=λa b c d i au av aw=>U;obtain⟨cc,r⟩:=ψ (f.cnt+1);obtain⟨t,Z,aa,ax⟩:=Y cc f.cnt n f.top r T D X;have E:Y8 {f with cnt:=cc}=Wi cc 0:=by rw[O7];simp only[C]
 refine⟨{f with cnt:=cc},.par (n+1) (p+1) .add,?_,rfl,⟨rfl,rfl,rfl⟩,by rw[r];exact .add D,λay az ab ad ae af=>?_⟩
 .rw[E,O7,C,vY f.cnt Z 0 Z3,r]
 have f1:=Jg cc t 0 Z3
 have f2:=Jf cc t 0 Z3
 have f3:=Je cc t 0 Z3;rw[E];generalize Wi cc 0=w at f1 f2 f3;rw[V4 rfl];refine V.here (x:=one _) (m:=0) (nt:=117) ?_ ((o.put (a:=.z (.int .u64 w)) rfl (.z _)).O6 J af) _ rfl;have F:∀(v:Option (Nat×η)) (env:Ζ) (K:List Item),V prog Q mn (one (ZN x s (.par (n+1) (p+1) .add) v 1)) {Frame.enter prog 140 #[ptr s 0,.int .i64 1] .normal with defers:=[Go.Conc.dcall 161 #[]]} (c::rest) 117 ⟨ab,[],ad,[],0⟩ (.code .ret::K) env []:=λv env K ag ah ai t3 aj I=>by
  rintro y rfl;obtain rfl:ah=[]:=YR.1 I.holds.len;exact Zk.Ha (e _ _ _) (e _ _ 0) (UR _) rfl rfl rfl rfl func140 rfl O9 (N v ag ai ((R.ext.trans ae).trans aj.ext) I.holds)
 refine V.Zv (e _ _ _) ?_;refine W.part (A:=[]) Ρ [7] [] rfl λO k=>?_;(try simp);(repeat (rw[Μ];simp));(try simp);apply k;refine W.ZH ?_;by_cases i:cc=1
 .refine WC (Υ f1 (Υ f2 (Υ f3 (Υ @Hc i)))) ?_;refine W.Zm ?_;refine XK [0,1,2] [3,4] ?_;refine W.stop ?_;refine V.conv (e _ _ _).here (sp:=sp) g.spec (by rw[Zu];exact id) ⟨rfl,rfl,by simp[Frame.enter],rfl⟩ rfl rfl rfl Dt O8 Ds rfl (λf w aA ak=>⟨_,ak.Js⟩) (λφ f j=>?_);unfold We;rw[UZ];refine V.xf g.rel Zu J ⟨⟨rfl,rfl,by simp[Frame.enter],rfl⟩,wF,⟨_,rfl⟩,rfl,rfl,rfl⟩ ?_;refine V.Zv (e _ _ _) ?_;refine W.ZH ?_;refine WC (Υ f1 (Υ f2 (Υ f3 (Υ @Hc i)))) ?_;exact .stop (F _ _ _)
 .have al:¬(cc:Int)=1:=λh=>i (by exact_mod_cast h);refine WC (Υ f1 (Υ f2 (Υ f3 (Υ @Hc (Υ i (Υ al aa)))))) ?_;exact .stop (F _ _ _)
end
noncomputable def LC:Code:=f146.body.getD .skip
noncomputable def Ta:Code:=Yv [1,0,0] LC
noncomputable def Oc:List Item:=[.inLoop Ta,.inBlock 0]
theorem Dc:X8 .u64 0 2147483648=0:=Z3
theorem Db:X8 .u64 0 2147483647=0:=Z3
theorem Jc:u32.wrap 0=0:=Z3
theorem Da:i32.wrap 0=0:=Z3
section
variable {Q:Value->Prop} {mn:Bool} {x:Z4} {c:Frame} {rest:List Frame} {S:ο} {B:δ} {σ:Τ} {H:Ψ} {s n p:Nat} {sp:Spec} {v:Option (Nat×η)} {t:Tok}
abbrev O5 (Q:Value->Prop) (mn:Bool) (x:Z4) (c:Frame) (rest:List Frame) (S:ο) (H:Ψ) (s:Nat) (t:Tok) (v:Option (Nat×η)) (d:Nat) (K:List Item) (env:Ζ):Prop:=
 V prog Q mn (one (ZN x s t v d)) (Frame.enter prog 146 #[ptr s 0] .normal) (c::rest) 84 ⟨S,[],H,[],0⟩ K env []
def QJ (Q:Value->Prop) (mn:Bool) (x:Z4) (c:Frame) (rest:List Frame) (S:ο) (H:Ψ) (s n:Nat) (sp:Spec):Prop:=
 ∀(d:ο) (H':Ψ) (e f:List Nat) (b a:Ψ),Ext S [] H d [] H'->Holds d [] [] H'->e.Perm (List.range n)->Ul sp.D e b->(sp.ZW≠none->f.Perm (List.range n)/\sp.X2 f a)->(sp.ZW=none->a=Ψ.empty)->Apart H' b->Apart H' a->Apart b a->(∃w,Fits H' w/\Fits b w/\Fits a w)->
  ∀(v:Option (Nat×η)) (h:ο) (g:Ψ),Ext XL [] (join (join H' b) a) h [] g->Zk prog Q mn (ZN x s (.par n 0 .ZY) v 0) (c.finish (.tuple #[])) rest g
theorem QJ.later {a:ο} {b:Ψ} (h:QJ Q mn x c rest S H s n sp) (d:Ext S [] H a [] b):QJ Q mn x c rest a b s n sp:=
 λe H' f g i j k l m o p r t u w y v A B C=>h e H' f g i j (d.trans k) l m o p r t u w y v A B C
theorem C' (b:T8 x s sp) (d:∀(v:Option (Nat×η)) (e:ο) (a:Ψ),Ext XL [] H e [] a->Zk prog Q mn (ZN x s (.par n 0 .ZY) v 0) (c.finish (.tuple #[])) rest a) {K:List Item} {env:Ζ}:O5 Q mn x c rest XL H s (.par n 0 .ZY) v 0 (.code .ret::K) env:=by
 letI:ZV:=Yb;have f:=b.seq;refine V.Hr (f _ _ _) rfl rfl rfl rfl func146 rfl λg h i j k=>?_;obtain rfl:h=[]:=YR.1 k.len;rintro y rfl;exact d v g i j.ext
theorem C9 (a:T8 x s sp) (e:QJ Q mn x c rest S H s n sp):O5 Q mn x c rest S H s (.par n 0 .SX) v 1 (.code (Yv [0,1] Ta)::.inBlock 1::Oc) [(0,.z (ptr s 0)),(2,.z (.int .u64 0))]:=by
 letI:ZV:=Yb;have b:=a.seq;refine V.Zv (b _ _ _) ?_;unfold Ta LC;refine WC (Υ @Dc (Υ @Db (Υ @Jc @Da))) ?_;refine W.Zm (.stop ?_);refine V.enable (b _ _ _).here (UR _) ⟨⟨rfl,rfl,by simp[Frame.enter],rfl⟩,O9,⟨_,rfl⟩,rfl,rfl,rfl⟩ ?_;rw[LM];refine V.Zv (b _ _ _) ?_;refine W.ZH ?_;refine W.Zm ?_;refine XK [0] [1,2] ?_;refine W.stop ?_;refine V.conv (b _ _ _).here (sp:=sp) a.spec (by rw[Zu];exact id) ⟨rfl,rfl,by simp[Frame.enter],rfl⟩ rfl rfl rfl Hh O8 Hg rfl (λf w K g=>⟨_,g.Tk⟩) (λφ f L=>?_);unfold We;rw[UZ];refine V.KI a.rel rfl (sp:=sp) a.spec Zu (.inl rfl) ⟨⟨rfl,rfl,by simp[Frame.enter],rfl⟩,Jj,⟨_,rfl⟩,rfl,rfl,rfl⟩ λh i j t1 k l o p r d t u y A C D E F=>?_;rw[WY];obtain rfl:i=[]:=YR.1 d.holds.len;have I:=e h j k l o p r.ext d.holds t u y A C D E F;refine V.here (x:=one _) (S:=XL) (B:=[]) (σ:=[]) (m:=0) (nt:=84) ?_ (d.none J) _ rfl;refine V.Zv (b _ _ _) ?_;refine W.ZH ?_;refine WC (Υ @Dc (Υ @Db (Υ @Jc @Da))) ?_;exact .stop (C' a I)
theorem vS (e:T8 x s sp) (p:QJ Q mn x c rest S H s n sp):O5 Q mn x c rest S H s (.par n 0 .w4) v 1 (.code (Yv [0,1,1,1,1,1,0,1,1,1,1] Ta)::.inBlock 1::Oc) [(0,.z (ptr s 0))]:=by
 letI:ZV:=Yb;have b:=e.seq;refine V.Zv (b _ _ _) ?_;unfold Ta LC;refine Y5 ?_;refine W.Zm ?_;refine XK [0,1,2] [3,4,5] ?_;refine W.stop ?_;refine V.call (b _ _ _) ⟨rfl,rfl,by simp[Frame.enter],rfl⟩ rfl rfl rfl ⟨_,func168,rfl,rfl⟩ λi f j t1 ab g d hv=>?_;obtain rfl:=TI (l:=[ptr s 0]) hv;obtain rfl:f=[]:=YR.1 d.holds.len;rintro y rfl;refine Hb e id d.holds λφ h k=>.inl λad ae r t=>?_;have o:=k.Vw.PQ;rw[Zu] at o;obtain⟨u,af,C⟩:=o.fin n 0 (.inr (.inl rfl));have D:Y8 h=0:=by simp only[Y8,u,C];rfl
 rw[D,V4 rfl];have E:=p.later (g.ext.trans r);refine V.here (x:=one _) (m:=0) (nt:=84) ?_ ((d.put (a:=.z (.int .u64 0)) rfl (.z _)).O6 J t) _ rfl;refine V.Zv (b _ _ _) ?_;refine W.part (A:=[]) Ρ [4,5] [] rfl λag F=>?_;(try simp);(repeat (rw[Μ];simp));(try simp);apply F;refine W.ZH ?_;refine WE ?_;refine W.Zm (.stop ?_);refine V.enable (b _ _ _).here (UR _) ⟨⟨rfl,rfl,by simp[Frame.enter],rfl⟩,O9,⟨_,rfl⟩,rfl,rfl,rfl⟩ ?_;rw[LM];refine V.Zv (b _ _ _) ?_;refine W.ZH ?_;refine W.Zm ?_;refine XK [0] [1,2] ?_;refine W.stop ?_;refine V.conv (b _ _ _).here (sp:=sp) e.spec (by rw[Zu];exact id) ⟨rfl,rfl,by simp[Frame.enter],rfl⟩ rfl rfl rfl Hh O8 Hg rfl (λh w ah I=>⟨_,I.Tk⟩) (λφ h k=>?_);unfold We;rw[UZ];refine V.KI e.rel rfl (sp:=sp) e.spec Zu (.inr rfl) ⟨⟨rfl,rfl,by simp[Frame.enter],rfl⟩,Jj,⟨_,rfl⟩,rfl,rfl,rfl⟩ λi f j t1 K L M N g d O P R T U X Y Z=>?_;rw[WY];obtain rfl:f=[]:=YR.1 d.holds.len;have aa:=E i j K L M N g.ext d.holds O P R T U X Y Z;refine V.here (x:=one _) (S:=XL) (B:=[]) (σ:=[]) (m:=0) (nt:=84) ?_ (d.none J) _ rfl;refine V.Zv (b _ _ _) ?_;refine W.ZH ?_;refine WE ?_;exact .stop (C' e aa)
theorem vR {a b d:Nat} (h:a<=b) (c:b<7):a<8/\a<7:=U
theorem vQ {a b:Nat} (h:a<b):¬b=0:=U
theorem vP (b:T8 x s sp) (f:QJ Q mn x c rest S H s n sp) {φ:Nat} {a:η}:O5 Q mn x c rest S H s (.par n 0 .w3) (some (φ,a)) 1 (.code (Yv [0,1,1,1,1,1,0,1,1,1,0] Ta)::.code (Yv [0,1,1,1,1,1,0,1,1,1,1] Ta)::.inBlock 1::Oc) [(0,.z (ptr s 0)),(5,.z (.bool false))]:=by
 letI:ZV:=Yb;have d:=b.seq;have woken:∀v,O5 Q mn x c rest S H s (.par n 0 .w4) v 1 (.code (Yv [0,1,1,1,1,1,0,1,1,1,1] Ta)::.inBlock 1::Oc) [(0,.z (ptr s 0))]:=λv=>vS b f;refine V.Zv (d _ _ _) ?_;unfold Ta LC;refine W.Zm ?_;refine XK [0,1,2,3] [4] ?_;refine W.stop ?_;refine V.xb (d _ _ _).here (sp:=sp) b.spec (by rw[Zu];exact id) (vs:=[ptr s 1,.bool false]) rfl (λg e=>by rw[LL e];exact b.still g e) ⟨⟨rfl,rfl,by simp[Frame.enter],rfl⟩,wy,⟨_,rfl⟩,rfl,rfl,rfl⟩ (λi a j h=>by rw[Zu];exact h) (λi a j h=>?_);refine⟨{a with YY:=a.YY-1},.par n 0 .w4,rfl,rfl,⟨rfl,rfl,rfl⟩,by rw[Zu];exact .wake h,λk l=>?_⟩;rw[WY];refine V.Zv (d _ _ _) ?_;refine W.ZH ?_;refine W.forget [(0,.z (ptr s 0))] J (.stop ?_);exact woken _
theorem vO (f:T8 x s sp):∀(N φ:Nat) (b:η) (S:ο) (H:Ψ),φ<N->b.toSpec=sp->0<b.cnt->b.cnt<=b.top->b.wt=0->QJ Q mn x c rest S H s n sp->
  O5 Q mn x c rest S H s (.par n 0 .add) (some (φ,b)) 1 (.code (Yv [0,1] Ta)::.inBlock 1::Oc) [(0,.z (ptr s 0)),(2,.z (.int .u64 (Y8 b)))]:=by
 letI:ZV:=Yb;have e:=f.seq;intro N
 induction N with
 | zero=>intro φ b S H h;exact absurd h (Rf _)
 | succ N ah=>
  intro φ b S H ai P R aj ak g;have al:=Jd f P;obtain⟨k,aD⟩:=vR (d:=0) aj al;have f1:=Jg b.cnt k 0 Z3;have f2:=Jf b.cnt k 0 Z3;have f3:=Je b.cnt k 0 Z3;have f4:=vW b.cnt k;have T:Y8 b=Wi b.cnt 0:=by rw[O7,ak]
  have U:¬b.cnt=0:=vQ R
  have am:¬(b.cnt:Int)=0:=λh=>U (by exact_mod_cast h);rw[<-T] at f1 f2 f3 f4;have sleep:∀(S H) (φ:Nat) (b:η),QJ Q mn x c rest S H s n sp->O5 Q mn x c rest S H s (.par n 0 .w3) (some (φ,b)) 1 (.code (Yv [0,1,1,1,1,1,0,1,1,1,0] Ta)::.code (Yv [0,1,1,1,1,1,0,1,1,1,1] Ta)::.inBlock 1::Oc) [(0,.z (ptr s 0)),(5,.z (.bool false))]:=λS H φ b g=>vP f g;have an:∀(S H v),QJ Q mn x c rest S H s n sp->O5 Q mn x c rest S H s (.par n 0 .SX) v 1 (.code (Yv [0,1] Ta)::.inBlock 1::Oc) [(0,.z (ptr s 0)),(2,.z (.int .u64 0))]:=λS H v g=>C9 f g;refine V.Zv (e _ _ _) ?_;unfold Ta LC;refine WC (Υ f2 (Υ f3 (Υ U am))) ?_;refine W.Zm ?_;refine W.part (A:=[]) Ρ [0,1,2,3,4,5] [6] rfl λX i=>?_;(try simp);(repeat (rw[Μ];simp[f4]));(try simp[f4]);apply i;refine W.stop ?_;refine V.call (e _ _ _) ⟨rfl,rfl,by simp[Frame.enter],rfl⟩ rfl rfl rfl ⟨_,func179,rfl,rfl⟩ λaE ao aF t1 aG Y o hv=>?_;obtain rfl:=TI (l:=[ptr s 0,.int .u64 (Y8 b),.int .u64 (Wi b.cnt 1)]) hv;obtain rfl:ao=[]:=YR.1 o.holds.len;rintro y rfl;refine vU f id o.holds (λp r t hv ap aq D E=>?_) (λp r t hv=>?_)
  .have Z:=t.view φ b R6
   have ar:p<N:=by
    rcases OQ p φ with h|h
    .exact K9 h (Nat.le_of_lt_succ ai)
    .exact absurd (by rw[Z.2 (Nat.le_antisymm Z.1 h)]) hv
   have u:=g.later (Y.ext.trans D);rw[V4 rfl];refine V.here (x:=one _) (m:=0) (nt:=84) ?_ ((o.put (a:=.z (.bool false)) rfl (.z _)).O6 J E) _ rfl;refine V.Zv (e _ _ _) ?_;refine W.ZH ?_;refine Η rfl ?_;refine Y5 ?_;refine W.inLoop ?_;refine W.forget [(0,.z (ptr s 0))] J ?_;refine Y5 ?_;refine W.Zm ?_;refine XK [0,1,2] [3,4] ?_;refine W.stop ?_;refine V.call (e _ _ _) ⟨rfl,rfl,by simp[Frame.enter],rfl⟩ rfl rfl rfl ⟨_,func168,rfl,rfl⟩ λaH au aI t3 aJ aa B av=>?_;obtain rfl:=TI (l:=[ptr s 0]) av;obtain rfl:au=[]:=YR.1 B.holds.len;rintro y rfl;refine Hb f id B.holds λab j F=>?_;have I:=F.Vw.PQ;rw[Zu] at I;obtain⟨C,aw,ax,ay,az⟩:=I.add n 0 rfl;have aA:=F.view p r R6;by_cases K:j.cnt=0
   .refine .inr ⟨.par n 0 .SX,.thru K,λaK aL ad ae L M=>?_⟩;have aB:Y8 j=0:=by simp only[Y8,C,K];rfl
    rw[aB,V4 rfl];have O:=u.later (aa.ext.trans L);refine V.here (x:=one _) (m:=0) (nt:=84) ?_ ((B.put (a:=.z (.int .u64 0)) rfl (.z _)).O6 J M) _ rfl;refine V.Zv (e _ _ _) ?_;refine W.part (A:=[]) Ρ [4] [] rfl λX i=>?_;(try simp);(repeat (rw[Μ];simp));(try simp);apply i;refine W.ZH ?_;refine W.forget [(0,.z (ptr s 0)),(2,.z (.int .u64 0))] J (.stop ?_);exact an _ _ _ O
   .refine .inl λad ae L M=>?_;rw[V4 rfl];have O:=u.later (aa.ext.trans L);refine V.here (x:=one _) (m:=0) (nt:=84) ?_ ((B.put (a:=.z (.int .u64 (Y8 j))) rfl (.z _)).O6 J M) _ rfl;refine V.Zv (e _ _ _) ?_;refine W.part (A:=[]) Ρ [4] [] rfl λX i=>?_;(try simp);(repeat (rw[Μ];simp));(try simp);apply i;refine W.ZH ?_;refine W.forget [(0,.z (ptr s 0)),(2,.z (.int .u64 (Y8 j)))] J (.stop ?_);exact ah ab j ad ae (OU aA.1 ar) F.spec (Nat.pos_of_ne_zero K) I.cnt C O
  .have af:=t.Vw.PQ;rw[Zu] at af;obtain⟨C,aw,ax,ay,az⟩:=af.add n 0 rfl;have ag:r.cnt=b.cnt:=by rw[T,O7,C] at hv;simp only[Wi] at hv;omega
   refine⟨{r with wt:=1},.par n 0 .w3,?_,rfl,⟨rfl,rfl,rfl⟩,.F3 (by rw[ag];exact R),λab aM ap aq D E=>?_⟩
   .rw[O7];simp only[ag]
   rw[V4 rfl];have u:=g.later (Y.ext.trans D);refine V.here (x:=one _) (m:=0) (nt:=84) ?_ ((o.put (a:=.z (.bool true)) rfl (.z _)).O6 J E) _ rfl;refine V.Zv (e _ _ _) ?_;refine W.ZH ?_;refine Ε rfl ?_;refine WE ?_;refine W.Zm ?_;refine XK [0,1,2] [3,4] ?_;refine W.stop ?_;refine V.conv (e _ _ _).here (sp:=sp) f.spec (by rw[Zu];exact id) ⟨rfl,rfl,by simp[Frame.enter],rfl⟩ rfl rfl rfl Dt O8 Ds rfl (λb w P aC=>⟨_,aC.Js⟩) (λφ b t=>?_);unfold We;rw[UZ];refine V.xe f.rel Zu J ⟨⟨rfl,rfl,by simp[Frame.enter],rfl⟩,wE,⟨_,rfl⟩,rfl,rfl,rfl⟩ ?_;refine V.Zv (e _ _ _) ?_;refine W.ZH ?_;refine WC f1 ?_;refine W.forget [(0,.z (ptr s 0)),(5,.z (.bool false))] J (.stop ?_);exact sleep _ _ _ _ u
theorem vN (e:T8 x s sp) (E:Holds S B σ H) (p:QJ Q mn x c rest S H s n sp) :
  Zk prog Q mn (ZN x s (.par n 0 .add) v 0) (Frame.enter prog 146 #[ptr s 0] .normal) (c::rest) H:=by
 letI:ZV:=Yb;have b:=e.seq;refine V.Ru (z:=one _) (vs:=[ptr s 0]) func146 rfl E (by simp[ntmps146]) ?_ _ rfl;refine V.Zv (b _ _ _) ?_;refine WE ?_;refine W.Zm (.stop ?_);refine V.disable (b _ _ _).here ⟨⟨rfl,rfl,by simp[Frame.enter],rfl⟩,LK,⟨_,rfl⟩,rfl,rfl,rfl⟩ ?_;rw[LN];refine V.Zv (b _ _ _) ?_;refine W.ZH ?_;refine Y5 ?_;refine W.loop ?_;refine Y5 ?_;refine W.Zm ?_;refine XK [0,1,2] [3,4] ?_;refine W.stop ?_;refine V.call (b _ _ _) ⟨rfl,rfl,by simp[Frame.enter],rfl⟩ rfl rfl rfl ⟨_,func168,rfl,rfl⟩ λM F N t3 O r f I=>?_;obtain rfl:=TI (l:=[ptr s 0]) I;obtain rfl:F=[]:=YR.1 f.holds.len;rintro y rfl;refine Hb e id f.holds λt d u=>?_;have g:=u.Vw.PQ;rw[Zu] at g;obtain⟨w,P,R,T,U⟩:=g.add n 0 rfl;by_cases h:d.cnt=0
 .refine .inr ⟨.par n 0 .SX,.thru h,λX Y C D i j=>?_⟩;have K:Y8 d=0:=by simp only[Y8,w,h];rfl
  rw[K,V4 rfl];have k:=p.later (r.ext.trans i);refine V.here (x:=one _) (m:=0) (nt:=84) ?_ ((f.put (a:=.z (.int .u64 0)) rfl (.z _)).O6 J j) _ rfl;refine V.Zv (b _ _ _) ?_;refine W.part (A:=[]) Ρ [4] [] rfl λL o=>?_;(try simp);(repeat (rw[Μ];simp));(try simp);apply o;refine W.ZH ?_;refine W.forget [(0,.z (ptr s 0)),(2,.z (.int .u64 0))] J (.stop ?_);exact C9 e k
 .refine .inl λC D i j=>?_;rw[V4 rfl];have k:=p.later (r.ext.trans i);refine V.here (x:=one _) (m:=0) (nt:=84) ?_ ((f.put (a:=.z (.int .u64 (Y8 d))) rfl (.z _)).O6 J j) _ rfl;refine V.Zv (b _ _ _) ?_;refine W.part (A:=[]) Ρ [4] [] rfl λL o=>?_;(try simp);(repeat (rw[Μ];simp));(try simp);apply o;refine W.ZH ?_;refine W.forget [(0,.z (ptr s 0)),(2,.z (.int .u64 (Y8 d)))] J (.stop ?_);exact vO e (t+1) t d C D (Qv _) u.spec (Nat.pos_of_ne_zero h) g.cnt w k
end
end Go.TL
namespace Go.TL
open Go.IntKind (i32 i64 u32 u64)
open Go.Proofs.Tryz
open Go.Conc Go.Proofs
open Go.ConcN (sumTo upd sumTo_upd upd_ne upd_same sumTo_congr le_sumTo)
variable [ZV]
def Zl.M4:Zl->I->Prop
 | .ok a,b=>a=b
 | .Ze p r,b=>p/\r.M4 b
 | .bad,_=>False
def VJ (P:Program) {b:Type} (s:Sem b) (a:b):Prop:=∀w,s.run P w=.ok a w/\∀es,s.events P w es=es
section
variable {P:Program} {T:ZZ} {α β:Type}
theorem VJ.pure (a:α):VJ P (Pure.pure a) a:=λw=>⟨J,λes=>J⟩
theorem VJ.bind {s:Sem α} {f:α->Sem β} {a:α} {b:β} (h:VJ P s a) (k:VJ P (f a) b):VJ P (s >>= f) b:=λw=>⟨by simp[(h w).1,(k w).1,Result.andThen],λes=>by simp[(h w).1,(h w).2,(k w).2,Result.evThen]⟩
theorem VJ.program:VJ P Go.program P:=λw=>⟨J,λes=>J⟩
theorem VJ.underlying {t:TypeId} {d:TypeDesc} (h:P.underlying t=some d):VJ P (Go.underlying t) d:=λw=>⟨run_underlying h w,λes=>J⟩
theorem VJ.sizeOf {t:TypeId} {i:TypeInfo} (hi:P.info? t=some i):VJ P (Go.sizeOf t) i.size:=by
 unfold Go.sizeOf Go.typeInfo;refine VJ.bind (VJ.bind .program ?_) (VJ.pure _);show VJ P (match P.info? t with|some i=>Pure.pure i|none=>_) i;rw[hi];exact .pure _
theorem vM {d:BinOp} {f:TypeId} {p q:Operand} {x y v:Value} (h:(Qi d x y).M4 (.z v)):VJ P (do eqGuard d f p q x y;binOp d f x y) v:=by
 unfold Qi at h;split at h
 case h_25=>exact h.elim
 case h_1=>
  obtain⟨a,b⟩:=h;cases b;have c:¬(_:Int)<0:=OP.2 a;simp only[eqGuard,binOp,Op.shift,c,if_false];exact .pure _
 case h_2=>
  obtain⟨a,b⟩:=h;cases b;have c:¬(_:Int)<0:=OP.2 a;simp only[eqGuard,binOp,Op.shift,c,if_false];exact .pure _
 case h_6=>
  split at h
  .rename_i e;subst e;obtain⟨a,b⟩:=h;cases b;simp only[eqGuard,binOp,Op.intDiv,a,if_false,ne_eq,not_true_eq_false];exact .pure _
  .exact h.elim
 case h_7=>
  split at h
  .rename_i e;subst e;obtain⟨a,b⟩:=h;cases b;simp only[eqGuard,binOp,Op.intDiv,a,if_false,ne_eq,not_true_eq_false];exact .pure _
  .exact h.elim
 case h_18=>
  obtain⟨a,b⟩:=h;cases b;have c:¬((_:Int) > i64.max):=OP.2 a;simp only[eqGuard,binOp,Op.stringOp,c,if_false];exact .pure _
 all_goals first
  |(cases h;exact .pure _)
  |(split at h
    .rename_i e;subst e;cases h;simp only[eqGuard,binOp,Op.intArith,Op.intBits,Op.intCmp,ne_eq,not_true_eq_false,if_false];exact .pure _
    .exact h.elim)
def M3 (T:ZZ) (env:Ζ) (o:Oper):Zl:=match o.op with
 | .move x=>.ok (κ env x)
 | .assign x=>.ok (κ env x)
 | .pick c a b=>Nt (κ env c) (κ env a) (κ env b)
 | .binOp e _ x y _=>match κ env x,κ env y with
  | .z a,.z b=>Qi e a b
  | _,_=>.bad
 | .unOp e _ x=>ND e (κ env x)
 | .convert s d x=>Nv T s d (κ env x)
 | .nilCheck x=>match κ env x with
  | .z (.pointer (some a))=>.ok (.z (.pointer (some a)))
  | _=>.bad
 | .fieldAddr g x f=>match κ env x with
  | .z (.pointer (some ⟨b,o',none⟩))=>match Xt T g f with|some (o,_)=>.ok (.z (.pointer (some ⟨b,o'+o,none⟩)))|none=>.bad
  | _=>.bad
 | _=>.bad
theorem vL (m:ZE P T) {env:Ζ} {o:Oper} {v:Value} (h:(M3 T env o).M4 (.z v)) {ρ:Operand->Value} (d:∀y u,κ env y=.z u->ρ y=u):VJ P (execOp ρ o) (.value v):=by
 have l:∀{s:Sem Value} {u:Value},VJ P s u->VJ P (do Pure.pure (Next.value (<-s))) (.value u):=λA=>.bind A (.pure _);unfold M3 at h;unfold execOp;split at h<;>rename_i B<;>first|(rw[B];simp only)|exact h.elim
 .rw[d _ _ h];exact .pure _
 .rw[d _ _ h];exact .pure _
 .rename_i c a b;unfold Nt at h;split at h
  .rename_i p C;rw[d _ _ C];refine VJ.bind (a:=p) (VJ.pure _) ?_;split at h
   .rename_i y z r D;cases h;rw[d _ _ r,d _ _ D];cases p<;>exact .pure _
   .cases p with
    | true=>rw[d a v h];exact .pure _
    | false=>rw[d b v h];exact .pure _
  .exact h.elim
 .split at h
  .rename_i x y g r;rw[d _ _ g,d _ _ r];exact l (vM h)
  .exact h.elim
 .unfold ND at h;split at h
  .rename_i p t;rw[d _ _ t];split at h
   .cases h;exact l (.pure _)
   .exact h.elim
  .rename_i k n t;rw[d _ _ t];split at h
   .cases h;exact l (.pure _)
   .exact h.elim
  .exact h.elim
 .unfold Nv at h;split at h
  .rename_i i j hi E;split at h
   .rename_i k kk n w g;cases h;rw[d _ _ g];refine l ?_;unfold convert;refine .bind (.underlying (m _ _ hi).1.1) (.bind (.underlying (m _ _ E).1.1) ?_);rw[w];exact .pure _
   .exact h.elim
  .exact h.elim
 .split at h
  .rename_i a g;cases h;rw[d _ _ g];exact .pure _
  .exact h.elim
 .split at h
  .rename_i b o' g;rw[d _ _ g];split at h
   .rename_i K L e;cases h;refine l ?_;unfold Xt at e;split at e<;>try cases e
    rename_i i hi;split at e<;>try cases e
    rename_i M w;split at e<;>try cases e
    rename_i x g;split at e<;>try cases e
    rename_i N F;split at e<;>try cases e
    rename_i H;unfold Instr.fieldAt;refine .bind (.underlying (m _ _ hi).1.1) ?_;rw[w];simp only[g];refine .bind (a:=⟨b,o',none⟩) (.pure _) ?_;obtain⟨f,I,J,_⟩:=(m _ _ F).2;refine .bind (a:=⟨b,o'+x.offset,none⟩) ?_ (.pure _);unfold fieldPlace;refine .bind (.sizeOf I) ?_;rw[J,if_neg H,Pt];exact .pure _
   .exact h.elim
  .exact h.elim
end
theorem vK (vs:List Value) {nt:Nat} (d:vs.length<=nt):YJ XL [] [] (entry 0 (vs.map I.z)) (vs.toArray++Array.replicate (nt-vs.length) undef):=by
 have e:XN XL [] [] (vs.map I.z) vs.toArray:=⟨J,λi a v b c=>by
  simp only[Yl,List.getElem?_toArray] at b c;rw[c] at b;cases b;exact .z v⟩
 have:=(XE.enter (M6 Ψ.empty) (m:=0) (nt:=nt) e (Z5 _) (by simpa using d)).Zn;simpa using this
def G9 (P:Program) (mn:Bool) (a:Goroutine->Prop):Prop:=∀g g',VT g->(∀w,stepG P mn g w=.go g' w #[])->a g'->a g
def Θ (a:Goroutine->Prop) (b:Frame) (cs:List Frame) (nt:Nat) (k:List Item) (env:Ζ):Prop:=∀t:Array Value,t.size=nt->YJ XL [] [] env t->a (Go.Conc.G (υ b t k) cs)
def TD (T:ZZ) (nt:Nat) (ops:Array Oper):List Nat->Ζ->(Ζ->Prop)->Prop
 | [],env,K=>K env
 | i::is,env,K=>Xr ops[i]? λo=>W2 nt o=true/\Xr (XT env ops o) λw=>
   Wx w (TD T nt ops is (Zz o env .Zs) K) (∃v,(M3 T env o).M4 (.z v)/\TD T nt ops is (Zz o env (.z v)) K)
theorem Ob {T:ZZ} {nt:Nat} {ops:Array Oper} {env:Ζ} {K:Ζ->Prop}:TD T nt ops [] env K=K env:=XH rfl rfl
def Oa (T:ZZ) (nt:Nat) (ops:Array Oper) (is:List Nat) (o:Oper) (env:Ζ) (K:Ζ->Prop):Zl->Prop
 | .ok (.z v)=>TD T nt ops is (Zz o env (.z v)) K
 | .Ze p (.ok (.z v))=>p/\TD T nt ops is (Zz o env (.z v)) K
 | _=>False
theorem vJ {T:ZZ} {nt:Nat} {ops:Array Oper} {is:List Nat} {o:Oper} {env:Ζ} {K:Ζ->Prop} {v:Value}:Oa T nt ops is o env K (.ok (.z v))=TD T nt ops is (Zz o env (.z v)) K:=XH rfl rfl
theorem vI {T:ZZ} {nt:Nat} {ops:Array Oper} {is:List Nat} {o:Oper} {env:Ζ} {K:Ζ->Prop} {v:Value} {p:Prop}:Oa T nt ops is o env K (.Ze p (.ok (.z v)))=(p/\TD T nt ops is (Zz o env (.z v)) K):=XH rfl rfl
theorem vH {T:ZZ} {nt:Nat} {ops:Array Oper} {is:List Nat} {o:Oper} {env:Ζ} {K:Ζ->Prop} {r r':Zl} (h:r=r'):Oa T nt ops is o env K r=Oa T nt ops is o env K r':=by rw[h]
theorem vG {T:ZZ} {nt:Nat} {ops:Array Oper} {is:List Nat} {o:Oper} {env:Ζ} {K:Ζ->Prop} {r:Zl} (h:Oa T nt ops is o env K r):∃v,r.M4 (.z v)/\TD T nt ops is (Zz o env (.z v)) K:=by
 unfold Oa at h;split at h
 .exact⟨_,rfl,h⟩
 .exact⟨_,⟨h.1,rfl⟩,h.2⟩
 .exact h.elim
theorem WW {T:ZZ} {nt:Nat} {ops:Array Oper} {i:Nat} {is:List Nat} {env:Ζ} {K:Ζ->Prop} (h:Xr ops[i]? λo=>W2 nt o=true/\Xr (XT env ops o) λw=>Wx w (TD T nt ops is (Zz o env .Zs) K) (Oa T nt ops is o env K (M3 T env o))):TD T nt ops (i::is) env K:=by
 unfold TD;unfold Xr at h ⊢;split at h
 .exact h.elim
 rename_i o a;refine⟨h.1,?_⟩
 replace h:=h.2
 split at h
 .exact h.elim
 rename_i w b;exact⟨h.1,λe=>vG (h.2 e)⟩
section
variable {P:Program} {T:ZZ} {mn:Bool} {Yp:Goroutine->Prop} {b:Frame} {cs:List Frame} {nt:Nat} {k:List Item} {env:Ζ} {ops:Array Oper} {i:Nat} {rest:List Nat} {op:Oper}
variable (Xe:G9 P mn Yp) (hb:b.mode=.run)
include Xe hb
theorem Θ.to {a:List Item} (c:∀t w,stepG.exec P mn true (υ b t k) cs none w=.go (Go.Conc.G (υ b t a) cs) w #[]) (h:Θ Yp b cs nt a env):Θ Yp b cs nt k env:=
 λt d e=>Xe _ _ ⟨rfl,rfl⟩ (λw=>(VE hb w).trans (c t w)) (h t d e)
theorem Θ.skip (h:Θ Yp b cs nt k env):Θ Yp b cs nt (.code .skip::k) env:=.to Xe hb (λ_ _=>rfl) h
theorem Θ.inBlock {l:Nat} (h:Θ Yp b cs nt k env):Θ Yp b cs nt (.inBlock l::k) env:=.to Xe hb (λ_ _=>rfl) h
theorem Θ.seq {a c:Code} (h:Θ Yp b cs nt (.code a::.code c::k) env):Θ Yp b cs nt (.code (.seq a c)::k) env:=.to Xe hb (λ_ _=>rfl) h
theorem Θ.block {l:Nat} {c:Code} (h:Θ Yp b cs nt (.code c::.inBlock l::k) env):Θ Yp b cs nt (.code (.block l c)::k) env:=.to Xe hb (λ_ _=>rfl) h
theorem Θ.loop {c:Code} (h:Θ Yp b cs nt (.code c::.inLoop c::k) env):Θ Yp b cs nt (.code (.loop c)::k) env:=.to Xe hb (λ_ _=>rfl) h
theorem Θ.inLoop {c:Code} (h:Θ Yp b cs nt (.code c::.inLoop c::k) env):Θ Yp b cs nt (.inLoop c::k) env:=.to Xe hb (λ_ _=>rfl) h
theorem Θ.Zm {id:Nat} {ops:Array Oper} (h:Θ Yp b cs nt (.inRegion ops (idx ops.size [])::k) env):Θ Yp b cs nt (.code (.region id ops false)::k) env:=.to Xe hb (λ_ _=>by rw[idx_eq];rfl) h
theorem Θ.ZH {ops:Array Oper} (h:Θ Yp b cs nt k env):Θ Yp b cs nt (.inRegion ops []::k) env:=.to Xe hb (λ_ _=>rfl) h
theorem Θ.exit {l:Nat} {a:List Item} (c:exitTo l k=some a) (h:Θ Yp b cs nt a env):Θ Yp b cs nt (.code (.exit l)::k) env:=by
 refine .to Xe hb (λt w=>?_) h;unfold stepG.exec;simp only[υ,c,Option.elim];rfl
theorem Θ.cond {c:Operand} {a e:Code} {v:Bool} (g:κ env c=.z (.bool v)) (h:Θ Yp b cs nt (.code (if v then a else e)::k) env):Θ Yp b cs nt (.code (.cond c a e)::k) env:=by
 intro t i d;refine Xe _ _ ⟨rfl,rfl⟩ (λw=>?_) (h t i d);rw[VE hb w];have f:(υ b t (.code (.cond c a e)::k)).eval c=.bool v:=by rw[Mh];exact Jv d g
 unfold stepG.exec;simp only[υ] at f ⊢;rw[f];rfl
theorem Θ.TC {c:Operand} {a e:Code} (d:κ env c=.z (.bool true)) (h:Θ Yp b cs nt (.code a::k) env):Θ Yp b cs nt (.code (.cond c a e)::k) env:=.cond Xe hb d h
theorem Θ.TB {c:Operand} {a e:Code} (d:κ env c=.z (.bool false)) (h:Θ Yp b cs nt (.code e::k) env):Θ Yp b cs nt (.code (.cond c a e)::k) env:=.cond Xe hb d h
theorem G8 {t:Array Value} (h:YJ XL [] [] env t) (hd:W2 nt op=true) (b:t.size=nt) {a:I} {v:Value} (c:Α XL [] [] a v):(put op t v).size=nt/\YJ XL [] [] (Zz op env a) (put op t v):=⟨(QW h hd b c).2,(QW h hd b c).1⟩
theorem Θ.unwanted (c:ops[i]?=some op) (e:XT env ops op=some false) (hd:W2 nt op=true) (h:Θ Yp b cs nt (.inRegion ops rest::k) (Zz op env .Zs)):Θ Yp b cs nt (.inRegion ops (i::rest)::k) env:=by
 intro t f d;obtain⟨g,j⟩:=G8 (b:=b) Xe hb d hd f (a:=.Zs) (v:=undef) (.Zs _);refine Xe _ _ ⟨rfl,rfl⟩ (λw=>?_) (h _ g j);rw[VE hb,<-V4 c];have l:((ops[i]?).map (Region.wanted · (yielded ops t))).getD false=false:=by simp[c,U6 d e]
 unfold stepG.exec;simp only[υ,l];rfl
theorem Θ.opn (f:ZE P T) (d:b.roundOf=none) (g:b.kind≠.early) (j:ops[i]?=some op) (l:XT env ops op=some true) (hd:W2 nt op=true) {v:Value} (hv:(M3 T env op).M4 (.z v)) (h:Θ Yp b cs nt (.inRegion ops rest::k) (Zz op env (.z v))):Θ Yp b cs nt (.inRegion ops (i::rest)::k) env:=by
 intro t m c;obtain⟨n,o⟩:=G8 (b:=b) Xe hb c hd m (a:=.z v) (v:=v) (.z v);refine Xe _ _ ⟨rfl,rfl⟩ (λw=>?_) (h _ n o);have e:=vL f hv (ρ:=ZS t) λy u p=>Jv c p;rw[W' hb d,W' hb d,<-Pd,stepG_value (a:=⟨t,b.defers⟩) j (U6 c l) g (by rw[T9];exact(e w).1)];unfold listed;rw[T9,(e w).2,seen_none]
theorem Θ.part (g:ZE P T) (j:b.roundOf=none) (m:b.kind≠.early) (is a:List Nat) {l:List Nat} (n:l=is++a) (h:∀c:Ζ->Prop,(∀env,Θ Yp b cs nt (.inRegion ops a::k) env->c env)->TD T nt ops is env c):Θ Yp b cs nt (.inRegion ops l::k) env:=by
 subst n;have p:∀(is:List Nat) (env:Ζ),TD T nt ops is env (λenv=>Θ Yp b cs nt (.inRegion ops a::k) env)->Θ Yp b cs nt (.inRegion ops (is++a)::k) env:=by
  intro is
  induction is with
  | nil=>intro env h;exact h
  | cons i is d=>
   intro env h;unfold TD Xr at h;split at h
   .exact h.elim
   rename_i o e;obtain⟨hd,h⟩:=h;split at h
   .exact h.elim
   rename_i w f;cases w with
   | false=>exact .unwanted Xe hb e f hd (d _ (h.1 rfl))
   | true=>
    obtain⟨v,r,s⟩:=h.2 rfl;exact .opn Xe hb g j m e f hd r (d _ s)
 exact p is env (h _ λ_ h=>h)
theorem Θ.region (c:ZE P T) (d:b.roundOf=none) (e:b.kind≠.early) {id:Nat} (h:∀a:Ζ->Prop,(∀env,Θ Yp b cs nt k env->a env)->TD T nt ops (idx ops.size []) env a):Θ Yp b cs nt (.code (.region id ops false)::k) env:=by
 refine .Zm Xe hb (.part Xe hb c d e (idx ops.size []) [] J λa f=>h a λenv g=>f env (.ZH Xe hb g))
theorem Θ.Jm (d:TJ b ops i op) (e:XT env ops op=some true) (hd:W2 nt op=true) {f:FuncId} {args:Array Operand} {g:Array TypeId} (j:op.op=.call ⟨.value (.func f),args,g⟩) {v:Value} (l:Entry P f (λ_=>pure v)) (h:Θ Yp b cs nt (.inRegion ops rest::k) (Zz op env (.z v))):Θ Yp b cs nt (.inRegion ops (i::rest)::k) env:=by
 intro t m c;obtain⟨n,o⟩:=G8 (b:=b) Xe hb c hd m (a:=.z v) (v:=v) (.z v);exact Xe _ _ ⟨rfl,rfl⟩ (λw=>Jw l d (U6 c e) j (vs:=args.map (ZS t)) rfl J J J) (h _ n o)
theorem Θ.Hq (c:TJ b ops i op) (e:XT env ops op=some true) (g:op.dst=none) {f:FuncId} {j:Array TypeId} (l:op.op=.defer ⟨.value (.func f),#[],j⟩)
  (h:Θ Yp {b with defers:=Go.Conc.dcall f #[]::b.defers} cs nt (.inRegion ops rest::k) env):Θ Yp b cs nt (.inRegion ops (i::rest)::k) env:=by
 intro t m d;refine Xe _ (Go.Conc.G (υ {b with defers:=Go.Conc.dcall f #[]::b.defers} t (.inRegion ops rest::k)) cs) ⟨rfl,rfl⟩ (λw=>?_) (h t m d);rw[W' c.run c.ro,stepG_defer (a:=⟨t,b.defers⟩) c.op (U6 d e) c.kd l];have:(⟨t,Go.Conc.dcall f #[]::b.defers⟩:_root_.Go.Act).put op.dst undef=⟨t,Go.Conc.dcall f #[]::b.defers⟩:=by rw[g];rfl
 simp only[Array.map_empty,List.map_toArray,T1];rw[this,W' (b:={b with defers:=Go.Conc.dcall f #[]::b.defers}) c.run c.ro];rfl
theorem Θ.call (c:TJ b ops i op) (o:XT env ops op=some true) {args:Array Operand} {p:Array TypeId} {g:FuncId} (r:op.op=.call ⟨.value (.func g),args,p⟩) {vs:List Value} (s:LP env args vs) {fn:Func} {body:Code} (l:P.funcs[g]?=some fn) (u:(fn.name == "runtime.NumGoroutine")=false) (d:fn.body=some body) (v:vs.length<=fn.ntmps)
  (h:∀t:Array Value,t.size=nt->YJ XL [] [] env t->Θ Yp (Frame.enter P g vs.toArray .normal) (υ b t (.inRegion ops (i::rest)::k)::cs) fn.ntmps [.code body] (entry 0 (vs.map I.z))):Θ Yp b cs nt (.inRegion ops (i::rest)::k) env:=by
 intro t f j;have m:=h t f j (vs.toArray++Array.replicate (fn.ntmps-vs.length) undef) (by simp;omega) (vK vs v);rw[show vs.toArray++Array.replicate (fn.ntmps-vs.length) undef=vs.toArray++Array.replicate (fn.ntmps-vs.toArray.size) undef by simp,<-Sa l d] at m;refine Xe _ _ ⟨rfl,rfl⟩ (λw=>?_) m;have x:(fn.name == "runtime.NumGoroutine")=false:=u;have y:fn.body.isNone=false:=by rw[d];rfl
 have n:(execOp (ZS t) op).run P w=.ok (.enter g vs.toArray) w/\(execOp (ZS t) op).events P w #[]=#[]:=by
  have e:execOp (ZS t) op=callFunc g vs.toArray:=by
   unfold execOp;rw[r];have:args.map (ZS t)=vs.toArray:=s.ZS j;simp only[resolve];rw[this];simp[Deferred.ofValue,Go.TL.ZS,invoke]
  rw[e];unfold callFunc;have f:¬fn.name = "runtime.NumGoroutine" := by simpa using x
  simp[l,f,d]
 rw[W' c.run c.ro,stepG_enter (a:=⟨t,b.defers⟩) c.op (U6 j o) c.kd (by rw[T9];exact n.1)];unfold listed;rw[T9,n.2,seen_none]
theorem Θ.PT (e:b.roundOf=none) (g:b.defers=[]) (i:b.kind=.normal) {fn:Func} (j:P.funcs[b.fn]?=some fn) {d:Nat} (f:fn.results=#[.tmp d]) {v:Value} (hv:Z' env d=.z v) {c:Frame}
  (h:Yp (Go.Conc.G (c.finish v) cs)):Θ Yp b (c::cs) nt (.code .ret::k) env:=by
 intro t n l;have m:t.getD d undef=v:=by
  have:=l d;rw[hv] at this;generalize t.getD d undef=u at this;cases this;rfl
 refine Xe _ (Go.Conc.G {υ b t (.code .ret::k) with mode:=.returning} (c::cs)) ⟨rfl,rfl⟩ (λw=>?_) (Xe _ _ ⟨rfl,rfl⟩ (λw=>?_) h)
 .rw[VE hb];unfold stepG.exec;simp only[υ,e];rfl
 .rw[W' hb e,stepG_leave (a:=⟨t,b.defers⟩) i g j (results_tmp f _ P w) (events_results_tmp f _ _),m]
theorem Θ.Jn (d:b.roundOf=none) (f:b.defers=[]) (g:b.kind=.normal) {fn:Func} (i:P.funcs[b.fn]?=some fn) (e:fn.results=#[]) {c:Frame}
  (h:Yp (Go.Conc.G (c.finish (.tuple #[])) cs)):Θ Yp b (c::cs) nt [] env:=by
 intro t j k;refine Xe _ (Go.Conc.G {υ b t [] with mode:=.returning} (c::cs)) ⟨rfl,rfl⟩ (λw=>?_) (Xe _ _ ⟨rfl,rfl⟩ (λw=>?_) h)
 .rw[VE hb];unfold stepG.exec;simp only[υ,d];rfl
 .rw[W' hb d,stepG_leave (a:=⟨t,b.defers⟩) g f i (Go.results_none e _ P w) (Go.Conc.events_results_none e _ _)]
end
attribute [congr] vH
attribute [simp] Ob vJ vI M3
def UY (P:Program) (a:Value->Prop) (mn:Bool) (y:Z4) (g:Goroutine):Prop:=VT g/\Goes P a mn g {y with G:=Ψ.empty}
def Uw (P:Program) (d:Nat) (g:Goroutine):Prop:=∃n,QuitsD P n d g
theorem ZP {P:Program} {c:Value->Prop} {mn:Bool} {y:Z4} (d:XW y):G9 P mn (UY P c mn y):=λg g' a e b=>⟨a,Quiet.goes (.cons a e (.nil _)) d b.1 b.2⟩
theorem Ys {P:Program} {d:Nat}:G9 P false (Uw P d):=λg g' a b ⟨n,c⟩=>⟨n+1,.ctl a.1 b c⟩
section
variable {P:Program} {Q:Value->Prop} {mn:Bool} {y:Z4} {b:Frame} {cs:List Frame} {nt:Nat} {k:List Item} {env:Ζ}
variable {ops:Array Oper} {i:Nat} {rest:List Nat} {op:Oper} {f:FuncId} {e:Array Value->Sem Value} {args:Array Operand} {vs:List Value}
theorem Θ.leaves {d:Nat} (a:y.rel=true) (c:∀s,Gone (y.tok s)) (hd:y.deaf=d) (h:Θ (Uw P d) b cs nt k env):Θ (UY P Q false y) b cs nt k env:=λt e f=>by
 obtain⟨n,g⟩:=h t e f;subst hd;exact⟨⟨rfl,rfl⟩,Goes.quits n a c g⟩
theorem Θ.disable (d:XW y) (h:WZ P b ops i op f (λ_=>do mark .disable;pure Extern.Race.none_) args env [] nt) (e:Θ (UY P Q mn {y with deaf:=y.deaf+1}) b cs nt (.inRegion ops rest::k) (Zz op env SF)):Θ (UY P Q mn y) b cs nt (.inRegion ops (i::rest)::k) env:=λt g c=>by
 obtain⟨j,l⟩:=QW c h.dst g (a:=SF) (v:=.tuple #[]) (.z _);exact⟨⟨rfl,rfl⟩,Goes.step d.ok (.inr ⟨⟨rfl,rfl⟩,.inr (.inl ⟨Go.Conc.G (υ b (put op t (.tuple #[])) (.inRegion ops rest::k)) cs,⟨rfl,rfl⟩,.inl λw _=>
  ⟨h.step c (Ju .disable) (Jt .disable _) (QQ J),(e _ l j).2⟩⟩)⟩)⟩
def G7 (P:Program) (Q:Value->Prop) (mn:Bool) (y:Z4) (b:Frame) (cs:List Frame) (nt:Nat) (ops:Array Oper) (rest:List Nat) (k:List Item) (op:Oper) (env:Ζ) (s φ:Nat) (a:η) (v:Value):Prop:=
 Θ (UY P Q mn {y with view:=upd y.view s (some (φ,a))}) b cs nt (.inRegion ops rest::k) (Zz op env (.z v))
def Jb (P:Program) (Q:Value->Prop) (mn:Bool) (y:Z4) (b:Frame) (cs:List Frame) (nt:Nat) (ops:Array Oper) (rest:List Nat) (k:List Item) (op:Oper) (env:Ζ) (s φ:Nat) (c:η) (v:Value) (o':η) (t':Tok):Prop:=
 Act c (y.tok s) o' t'/\∀a,a<φ->Θ (UY P Q mn {y with tok:=upd y.tok s t',view:=upd y.view s (some (a,o'))}) b cs nt (.inRegion ops rest::k) (Zz op env (.z v))
theorem Θ.ext (r:XW y) {s:Nat} {sp:Spec} (u:y.spec s=some sp) (x:¬Xn (y.tok s)) (h:WZ P b ops i op f e args env vs nt)
  (A:∀(w:World) (φ:Nat) (c:η),Seen y s sp φ c->At s c w->
   (∃v w' d,(e vs.toArray).run P w=.ok v w'/\(e vs.toArray).events P w #[⟨.mark (Mark.extern f),false,true⟩]=#[⟨.mark (Mark.extern f),false,true⟩]++d/\(∀y∈d,y.sync=true/\∀g,y.loc≠.mark (Mark.extern g))/\
    Xy (λB _=>Yj s sp B) (λ_=>False) w w'/\Sr s sp y.deaf d/\
    ((At s c w'/\G7 P Q mn y b cs nt ops rest k op env s φ c v)\/∃o' t',At s o' w'/\Jb P Q mn y b cs nt ops rest k op env s φ c v o' t'))) :
  Θ (UY P Q mn y) b cs nt (.inRegion ops (i::rest)::k) env:=by
 obtain⟨U,n⟩:=h.call;intro t C j;refine⟨⟨rfl,rfl⟩,Goes.step r.ok (.inr ⟨⟨rfl,rfl⟩,.inr (.inr (.inr (.inl ⟨s,sp,u,x,λw φ c V hv D E F H=>?_⟩)))⟩)⟩;obtain⟨v,w',d,I,J,K,L,M,N⟩:=A w φ c ⟨D,F,H⟩ E;have O:=Jw (mn:=mn) (cs:=cs) (rest:=rest) (k:=k) h.TP h.at_ (U6 j h.want) n (h.LO.ZS j) I J K;refine .inl ?_;rw[O];obtain⟨o,p⟩:=QW j h.dst C (a:=.z v) (v:=v) (.z _);refine⟨⟨rfl,rfl⟩,L,M,?_⟩;rcases N with⟨l,m⟩|⟨o',t',l,m,R⟩
 .exact .inl ⟨l,(m _ p o).2⟩
 .exact .inr ⟨o',t',m,l,.inl (DS h.TP h.at_ n),λS T=>(R S T _ p o).2⟩
section
variable {s:Nat} {sp:Spec} (X0:XW y) (hd:0<y.deaf) (VY:y.spec s=some sp) (VX:¬Xn (y.tok s))
include X0 hd VY VX
theorem Θ.Ht (h:WZ P b ops i op f (Extern.Atomic.loadT (.int .u64)) args env [.pointer (some ⟨s,0,none⟩)] nt)
  (e:∀φ a,Seen y s sp φ a->G7 P Q mn y b cs nt ops rest k op env s φ a (.int .u64 (Y8 a))):Θ (UY P Q mn y) b cs nt (.inRegion ops (i::rest)::k) env:=by
 refine .ext X0 VY VX h λw φ a g c=>?_;have d:=c.Tk;refine⟨.int .u64 (Y8 a),w,#[⟨.cell ⟨s,0,none⟩,false,true⟩],?_,?_,QM (QN _ false),Xy.refl _ _ _,QP (.inl rfl) hd (QN _ false),.inl ⟨c,e φ a g⟩⟩
 .change Sem.run P (do Extern.Atomic.read (.int .u64) (<-asAddr (.pointer (some _)))) w=_;simp[Extern.Atomic.read,asAddr,d]
 .change Sem.events P (do Extern.Atomic.read (.int .u64) (<-asAddr (.pointer (some _)))) w _=_;simp[Extern.Atomic.read,asAddr,d,events_load]
theorem Θ.Hs {d:Int} (h:WZ P b ops i op f (Extern.Atomic.update (Op.intArith .add) .u64 true) args env [.pointer (some ⟨s,0,none⟩),.int .u64 d] nt)
  (o:∀φ a,Seen y s sp φ a->∃o' t',Y8 o'=u64.wrap (Y8 a+d)/\o'.YY=a.YY/\QL a o'/\Jb P Q mn y b cs nt ops rest k op env s φ a (.int .u64 (Y8 o')) o' t') :
  Θ (UY P Q mn y) b cs nt (.inRegion ops (i::rest)::k) env:=by
 refine .ext X0 VY VX h λw φ a p c=>?_;have j:=c.Tk;have l:=c.Pa 0;obtain⟨o',t',m,r,e,n⟩:=o φ a p;rw[m] at n;refine⟨_,_,_,run_add_entry j l,(events_add_entry j l _).trans rfl,QM (QO ⟨s,0,none⟩),c.M' _,QP (.inl rfl) hd (QO ⟨s,0,none⟩),.inr ⟨o',t',c.Na e.ZW e.g e.w ?_,n⟩⟩;rw[m,r];rfl
theorem Θ.vF {d:Int} (h:WZ P b ops i op f Extern.Atomic.storeT args env [.pointer (some ⟨s,0,none⟩),.int .u64 d] nt)
  (m:∀φ a,Seen y s sp φ a->∃o' t',Y8 o'=d/\o'.YY=a.YY/\QL a o'/\Jb P Q mn y b cs nt ops rest k op env s φ a (.tuple #[]) o' t') :
  Θ (UY P Q mn y) b cs nt (.inRegion ops (i::rest)::k) env:=by
 refine .ext X0 VY VX h λw φ a n c=>?_;have j:=c.Tk;have l:=c.Pa 0;obtain⟨o',t',o,p,e,r⟩:=m φ a n;refine⟨.tuple #[],w.setCell ⟨s,0,none⟩ (.int .u64 d),#[⟨.cell ⟨s,0,none⟩,true,true⟩],?_,?_,QM (QN _ true),c.M' _,QP (.inl rfl) hd (QN _ true),.inr ⟨o',t',c.Na e.ZW e.g e.w (by rw[o,p];rfl),r⟩⟩
 .change Sem.run P (do
   store (<-asAddr (.pointer (some _))) (.int .u64 d) .atomic
   pure Extern.Atomic.none_) w=_
  simp[asAddr,j,l,run_store P w _ (.int .u64 d) .atomic rfl,Result.andThen,Extern.Atomic.none_]
 .change Sem.events P (do
   store (<-asAddr (.pointer (some _))) (.int .u64 d) .atomic
   pure Extern.Atomic.none_) w _=_
  simp[asAddr,j,l,events_store P w _ _ (.int .u64 d) .atomic rfl]
end
section
variable {s:Nat} {sp:Spec} (X0:XW y) (VY:y.spec s=some sp) (VX:¬Xn (y.tok s))
include X0 VY VX
theorem Θ.vE (e:vs[0]?=some (.pointer (some ⟨s,1,none⟩))) (h:WZ P b ops i op f Extern.Sync.semrelease args env vs nt)
  (l:∀φ a,Seen y s sp φ a->a.YY<1000/\∃o' t',Y8 o'=Y8 a/\o'.YY=a.YY+1/\QL a o'/\Jb P Q mn y b cs nt ops rest k op env s φ a (.tuple #[]) o' t') :
  Θ (UY P Q mn y) b cs nt (.inRegion ops (i::rest)::k) env:=by
 refine .ext X0 VY VX h λw φ a m c=>?_;have j:=c.Js;obtain⟨r,o',t',n,o,d,p⟩:=l φ a m;refine⟨_,_,_,DH e j (c.Pa 1),DG e j (c.Pa 1) _,semEvents_sync _,c.M' _,Jo (.inl rfl),.inr ⟨o',t',c.Na d.ZW d.g d.w ?_,p⟩⟩;rw[n,o,show u32.wrap (((a.YY:Nat):Int)+1)=((a.YY+1:Nat):Int) by simp only[IntKind.wrap_u32];omega];rfl
end
theorem C8 {t:Array Value} (e:b.mode=.run) (g:b.roundOf=none) (i:b.defers=[Go.Conc.dcall f #[]]) (j:b.kind=.normal) {fn:Func} (l:P.funcs[b.fn]?=some fn) (d:fn.results=#[]) (m:Entry P f (λ_=>do mark .enable;pure Extern.Race.none_)) {c:Frame}
  (h:Uw P 0 (Go.Conc.G (c.finish (.tuple #[])) cs)):Uw P 1 (Go.Conc.G {υ b t k with mode:=.returning} (c::cs)):=by
 obtain⟨v,o,Φ,p,r,s⟩:=m;obtain⟨n,u⟩:=h;rw[W' e g];refine⟨n+1+1,QuitsD.unwind_mark (a:=⟨t,b.defers⟩) (ds:=[]) .enable rfl J i o Φ p r s ?_⟩;exact .ctl rfl (λw=>stepG_leave (a:=⟨t,[]⟩) j rfl l (Go.results_none d _ P w) (Go.Conc.events_results_none d _ _)) u
theorem Θ.Ha (a:b.mode=.run) (d:b.roundOf=none) (e:b.defers=[Go.Conc.dcall f #[]]) (g:b.kind=.normal) {fn:Func} (i:P.funcs[b.fn]?=some fn) (j:fn.results=#[]) (l:Entry P f (λ_=>do mark .enable;pure Extern.Race.none_)) {c:Frame}
  (h:Uw P 0 (Go.Conc.G (c.finish (.tuple #[])) cs)):Θ (Uw P 1) b (c::cs) nt (.code .ret::k) env:=λt _ _=>by
 refine Ys _ (Go.Conc.G {υ b t (.code .ret::k) with mode:=.returning} (c::cs)) ⟨rfl,rfl⟩ (λw=>?_) (C8 a d e g i j l h);rw[VE a];unfold stepG.exec;simp only[υ,d];rfl
theorem Θ.vD (a:b.mode=.run) (d:b.roundOf=none) (e:b.defers=[Go.Conc.dcall f #[]]) (g:b.kind=.normal) {fn:Func} (i:P.funcs[b.fn]?=some fn) (j:fn.results=#[]) (k:Entry P f (λ_=>do mark .enable;pure Extern.Race.none_)) {c:Frame}
  (h:Uw P 0 (Go.Conc.G (c.finish (.tuple #[])) cs)):Θ (Uw P 1) b (c::cs) nt [] env:=λt _ _=>by
 refine Ys _ (Go.Conc.G {υ b t [] with mode:=.returning} (c::cs)) ⟨rfl,rfl⟩ (λw=>?_) (C8 a d e g i j k h);rw[VE a];unfold stepG.exec;simp only[υ,d];rfl
end
def M1 (x:Z4):Z4:={x with γ:=λ_=>none,rel:=true}
theorem V.Im {P:Program} {m:Value->Prop} {x:Z4} {b:Frame} {cs:List Frame} {nt:Nat} {o:Base} {k:List Item} {env:Ζ} {ops:Array Oper} {i:Nat} {rest:List Nat} {l:Oper} {f:FuncId} {args:Array Operand} (r:x.rel=false) {s n:Nat} {sp:Spec} {c:Uq} {v:Option (Nat×η)} (E:x.spec s=some sp) (F:c=.done\/(c=.idle/\sp.ZW=none)) (K:∀g,g≠s->Xn (x.tok g)) (L:sp.D n Ψ.empty)
  (h:WZ P b ops i l f (Extern.Race.marked .releaseMerge) args env [.pointer (some ⟨s,0,none⟩)] nt) (M:∀p∈Zz l env SF,∃v,p.2=I.z v)
  (N:Θ (UY P m false (ZN (M1 x) s (.ch n c .rel) none 0)) b cs nt (.inRegion ops rest::k) (Zz l env SF)):V P m false (one (ZN x s (.ch n c .work) v 0)) b cs nt o (.inRegion ops (i::rest)::k) env []:=by
 intro S B H t R u y O;cases O;have A:=u.put h.dst (a:=SF) (v:=.tuple #[]) (.z _);have Q:=(N _ A.size (LG M A.Zn)).2;refine Goes.step (XW.ok (.inl r)) (.inr ⟨⟨rfl,rfl⟩,.inr (.inr (.inr (.inr (.inr (.inr (.inl ⟨s,sp,n,c,Go.Conc.G (υ b (put l t (.tuple #[])) (.inRegion ops rest::k)) cs,Ψ.empty,E,Zu (v:=v) (d:=0),F,λg C=>by
  rw[show({ZN x s (.ch n c .work) v 0 with G:=H}:Z4).tok g=(ZN x s (.ch n c .work) v 0).tok g from rfl,LL C];exact K g C,rfl,⟨rfl,rfl⟩,r,λw _=>
  h.step u.Zn (Nd .releaseMerge _) (Nc .releaseMerge _ _) (QQ J),⟨λb o v p j=>(by cases j),λb y j=>(by cases j),λb y j=>(by cases j)⟩,L,?_⟩))))))⟩)
 have e:({({ZN x s (.ch n c .work) v 0 with G:=H}:Z4) with G:=Ψ.empty,γ:=λ_=>none,tok:=upd ({ZN x s (.ch n c .work) v 0 with G:=H}:Z4).tok s (.ch n c .rel),view:=upd ({ZN x s (.ch n c .work) v 0 with G:=H}:Z4).view s none,rel:=true}:Z4)={ZN (M1 x) s (.ch n c .rel) none 0 with G:=Ψ.empty}:=by
  unfold ZN M1;simp only[Hp]
 exact e▸Q
end Go.TL
namespace Go.TL
open Go.IntKind (i32 i64 u32 u64)
open Go.Proofs.Tryz
open Go.Conc Go.Proofs
open Go.ConcN (sumTo upd sumTo_upd upd_ne upd_same sumTo_congr le_sumTo)
noncomputable def Ja:Code:=f140.body.getD .skip
noncomputable abbrev G6 (s:Nat):Frame:={Frame.enter prog 140 #[ptr s 0,.int .i64 (-1)] .normal with defers:=[Go.Conc.dcall 161 #[]]}
theorem vC:u64.wrap (u64.wrap (-1)*2 ^ min 32 u64.bits)=18446744069414584320:=Z3
theorem vB:u64.wrap (18446744073709551615*2 ^ min 32 u64.bits)=18446744069414584320:=Z3
theorem vA:u64.wrap (-1)=18446744073709551615:=Z3
theorem I':i32.wrap (-1)=-1:=Z3
section
variable {Q:Value->Prop} {c:Frame} {rest:List Frame} {s k:Nat} {sp:Spec} {v:Option (Nat×η)}
theorem vz [ZV] (n:Uw prog 0 (Go.Conc.G (c.finish (.tuple #[])) rest)) {cc w0:Nat} (e:cc<8) (f:w0<2) (o:0<cc\/w0=0) {env:Ζ} (g:Z' env 0=.z (ptr s 0)) (h:Z' env 1=.z (.int .i64 (-1))) (i:Z' env 4=.z (.bool false)) (d:Z' env 6=.z (.int .u64 (Wi cc w0))) :
  Θ (Uw prog 1) (G6 s) (c::rest) 117 [.code (Yv [1,1,1,1] Ja)] env:=by
 have j:∀(K:List Item) (env:Ζ),Θ (Uw prog 1) (G6 s) (c::rest) 117 (.code .ret::K) env:=λK env=>Θ.Ha rfl rfl rfl rfl func140 rfl O9 n
 have k:¬(cc:Int)<0:=OP.2 (Int.natCast_nonneg _)
 have p:w0=0\/w0=1:=U
 have f1:=Jg cc e w0 f
 have f2:=Jf cc e w0 f
 have f3:=Je cc e w0 f;generalize Wi cc w0=w at f1 f2 f3 d;unfold Ja;by_cases a:0<cc
 .have l:(0:Int)<cc:=by exact_mod_cast a
  rcases p with rfl|rfl
  ·(repeat (first|refine Θ.seq Ys rfl ?_|refine Θ.block Ys rfl ?_|refine Θ.inBlock Ys rfl ?_|refine Θ.skip Ys rfl ?_|refine Θ.TC Ys rfl rfl ?_|refine Θ.TB Ys rfl rfl ?_|(refine Θ.region Ys rfl Ρ rfl (by simp[Frame.enter]) λm b=>?_;(try simp);(repeat (refine WW ?_;simp[g,h,i,d,f1,f2,f3,I',k,a,l]));refine b _ ?_)));exact j _ _
  ·(repeat (first|refine Θ.seq Ys rfl ?_|refine Θ.block Ys rfl ?_|refine Θ.inBlock Ys rfl ?_|refine Θ.skip Ys rfl ?_|refine Θ.TC Ys rfl rfl ?_|refine Θ.TB Ys rfl rfl ?_|(refine Θ.region Ys rfl Ρ rfl (by simp[Frame.enter]) λm b=>?_;(try simp);(repeat (refine WW ?_;simp[g,h,i,d,f1,f2,f3,I',k,a,l]));refine b _ ?_)));exact j _ _
 .have r:w0=0:=o.resolve_left a
  have t:cc=0:=Nat.eq_zero_of_not_pos a;subst r;subst t;(repeat (first|refine Θ.seq Ys rfl ?_|refine Θ.block Ys rfl ?_|refine Θ.inBlock Ys rfl ?_|refine Θ.skip Ys rfl ?_|refine Θ.TC Ys rfl rfl ?_|refine Θ.TB Ys rfl rfl ?_|(refine Θ.region Ys rfl Ρ rfl (by simp[Frame.enter]) λm b=>?_;(try simp);(repeat (refine WW ?_;simp[g,h,i,d,f1,f2,f3,I']));refine b _ ?_)));exact j _ _
structure Rn (x:Z4) (s:Nat) (sp:Spec):Prop where
 rel:x.rel=true
 spec:x.spec s=some sp
 top:sp.top<7
 shut:∀a,a≠s->Xn (x.tok a)
theorem Rn.here {x:Z4} (h:Rn x s sp) {g:PA} {d:Nat} (a:g≠.gone):XW (ZN x s (.ch k .done g) v d):=.inr ⟨s,by rw[Zu];cases g<;>simp_all [Gone]⟩
theorem Rn.gone {x:Z4} (h:Rn x s sp) {d:Nat}:∀a,Gone ((ZN x s (.ch k .done .gone) v d).tok a):=λa=>by
 by_cases e:a=s
 .subst e;rw[Zu];trivial
 .rw[LL e];have:=h.shut a e;revert this;cases x.tok a with
  | nil=>exact λ_=>trivial
  | par n p b=>cases b<;>exact λh=>h
  | ch k m g=>exact λh=>h.elim
theorem Rn.Jd {x:Z4} (b:Rn x s sp) {a:η} (h:a.toSpec=sp):a.top<7:=by have:=b.top;rw[show a.top=sp.top by rw[<-h]];exact this
theorem Θ.back [ZV] {d:Goroutine->Prop} {b:Frame} {cs:List Frame} {nt:Nat} {k:List Item} {env:Ζ} {ops:Array Oper} {i:Nat} {rest:List Nat} {c:Oper} {t:Array Value} {v:Value} (e:ops[i]?=some c) (hd:W2 nt c=true) (f:t.size=nt) (g:YJ XL [] [] env t)
  (h:Θ d b cs nt (.inRegion ops rest::k) (Zz c env (.z v))):d (Go.Conc.G ((υ b t (.inRegion ops (i::rest)::k)).finish v) cs):=by
 rw[V4 e];obtain⟨j,l⟩:=QW g hd f (a:=.z v) (v:=v) (.z _);exact h _ l j
theorem Θ.C7 [ZV] {P:Program} {b:Frame} {cs:List Frame} {nt:Nat} {env:Ζ} (d:b.mode=.run) (e:b.roundOf=none) (f:b.defers=[]) (g:b.kind=.deferred) {fn:Func} (i:P.funcs[b.fn]?=some fn) (j:fn.results=#[]) {c:Frame} (k:c.mode=.returning)
  (h:Uw P 0 (Go.Conc.G c cs)):Θ (Uw P 0) b (c::cs) nt [] env:=λt _ _=>by
 obtain⟨n,l⟩:=h;refine Ys _ (Go.Conc.G {υ b t [] with mode:=.returning} (c::cs)) ⟨rfl,rfl⟩ (λw=>?_) ⟨n+1,?_⟩
 .rw[VE d];unfold stepG.exec;simp only[υ,e];rfl
 .rw[W' d e];exact QuitsD.leaveD (a:=⟨t,b.defers⟩) g f i j k l
theorem vy [ZV] {x:Z4} (g:Rn x s sp) {t:Tok} (a:∀v,XW (ZN x s t v 1)) (e:¬Xn t) {cs:List Frame} (h:∀φ b,Seen (ZN x s t v 1) s sp φ b->UY prog Q false (ZN x s t (some (φ,b)) 1) (Go.Conc.G (c.finish (.int .u64 (Y8 b))) cs)) :
  Θ (UY prog Q false (ZN x s t v 1)) (Frame.enter prog 168 #[ptr s 0] .normal) (c::cs) 7 [.code (f168.body.getD .skip)] (entry 0 [.z (ptr s 0)]):=by
 simp only[f168,Option.getD_some];(repeat (first|refine Θ.seq (ZP (a _)) rfl ?_|refine Θ.block (ZP (a _)) rfl ?_|refine Θ.inBlock (ZP (a _)) rfl ?_|refine Θ.skip (ZP (a _)) rfl ?_|refine Θ.TC (ZP (a _)) rfl rfl ?_|refine Θ.TB (ZP (a _)) rfl rfl ?_|(refine Θ.region (ZP (a _)) rfl Ρ rfl (by simp[Frame.enter]) λf d=>?_;(try simp);(repeat (refine WW ?_;simp[e]));refine d _ ?_)));refine Θ.Zm (ZP (a _)) rfl ?_;refine Θ.part (ZP (a _)) rfl Ρ rfl (by simp[Frame.enter]) [0,1,2] [3,4] rfl λf d=>?_;(try simp[-Ob]);(repeat (refine WW ?_;simp));refine d _ ?_;refine Θ.Ht (a _) (UR _) (sp:=sp) g.spec (by rw[Zu];exact e) ⟨⟨rfl,rfl,by simp[Frame.enter],rfl⟩,Dw,⟨_,rfl⟩,rfl,rfl,rfl⟩ λφ b i=>?_;unfold G7;rw[UZ];refine Θ.part (ZP (a _)) rfl Ρ rfl (by simp[Frame.enter]) [4] [] rfl λf d=>?_;(try simp[-Ob]);(repeat (refine WW ?_;simp));refine d _ ?_;refine Θ.ZH (ZP (a _)) rfl ?_;exact Θ.PT (ZP (a _)) rfl rfl rfl rfl func168 rfl rfl (h φ b i)
theorem vx [ZV] {x:Z4} (i:Rn x s sp) {t t':Tok} {d:Int} (a:∀v,XW (ZN x s t v 1)) (g:∀v,XW (ZN x s t' v 1)) (h:¬Xn t) {cs:List Frame} (j:∀φ b,Seen (ZN x s t v 1) s sp φ b->∃o',Y8 o'=d/\o'.YY=b.YY/\QL b o'/\Act b t o' t'/\∀e,e<φ->UY prog Q false (ZN x s t' (some (e,o')) 1) (Go.Conc.G (c.finish (.tuple #[])) cs)) :
  Θ (UY prog Q false (ZN x s t v 1)) (Frame.enter prog 169 #[ptr s 0,.int .u64 d] .normal) (c::cs) 9 [.code (f169.body.getD .skip)] (entry 0 [.z (ptr s 0),.z (.int .u64 d)]):=by
 simp only[f169,Option.getD_some];(repeat (first|refine Θ.seq (ZP (a _)) rfl ?_|refine Θ.block (ZP (a _)) rfl ?_|refine Θ.inBlock (ZP (a _)) rfl ?_|refine Θ.skip (ZP (a _)) rfl ?_|refine Θ.TC (ZP (a _)) rfl rfl ?_|refine Θ.TB (ZP (a _)) rfl rfl ?_|(refine Θ.region (ZP (a _)) rfl Ρ rfl (by simp[Frame.enter]) λk f=>?_;(try simp);(repeat (refine WW ?_;simp[h]));refine f _ ?_)));refine Θ.Zm (ZP (a _)) rfl ?_;refine Θ.part (ZP (a _)) rfl Ρ rfl (by simp[Frame.enter]) [0,1,2,3] [4] rfl λk f=>?_;(try simp[-Ob]);(repeat (refine WW ?_;simp));refine f _ ?_;refine Θ.vF (a _) (UR _) (sp:=sp) i.spec (by rw[Zu];exact h) ⟨⟨rfl,rfl,by simp[Frame.enter],rfl⟩,wC,⟨_,rfl⟩,rfl,rfl,rfl⟩ λφ b l=>?_;obtain⟨o',m,n,o,p,r⟩:=j φ b l;refine⟨o',t',m,n,o,by rw[Zu];exact p,λe u=>?_⟩;rw[WY];refine Θ.ZH (ZP (g _)) rfl ?_;exact Θ.Jn (ZP (g _)) rfl rfl rfl rfl func169 rfl (r e u)
theorem vw [ZV] {x:Z4} (j:Rn x s sp) {t:Tok} {d:Int} (a:∀v,XW (ZN x s t v 1)) (k:¬Xn t) {cs:List Frame}
  (l:∀φ b,Seen (ZN x s t v 1) s sp φ b->∃o' t',Y8 o'=u64.wrap (Y8 b+d)/\o'.YY=b.YY/\QL b o'/\Act b t o' t'/\∀f,f<φ->(((∀v,XW (ZN x s t' v 1))/\UY prog Q false (ZN x s t' (some (f,o')) 1) (Go.Conc.G (c.finish (.int .u64 (Y8 o'))) cs))\/((∀m,Gone ((ZN x s t' (some (f,o')) 1).tok m))/\Uw prog 1 (Go.Conc.G (c.finish (.int .u64 (Y8 o'))) cs)))) :
  Θ (UY prog Q false (ZN x s t v 1)) (Frame.enter prog 166 #[ptr s 0,.int .u64 d] .normal) (c::cs) 10 [.code (f166.body.getD .skip)] (entry 0 [.z (ptr s 0),.z (.int .u64 d)]):=by
 simp only[f166,Option.getD_some];(repeat (first|refine Θ.seq (ZP (a _)) rfl ?_|refine Θ.block (ZP (a _)) rfl ?_|refine Θ.inBlock (ZP (a _)) rfl ?_|refine Θ.skip (ZP (a _)) rfl ?_|refine Θ.TC (ZP (a _)) rfl rfl ?_|refine Θ.TB (ZP (a _)) rfl rfl ?_|(refine Θ.region (ZP (a _)) rfl Ρ rfl (by simp[Frame.enter]) λh e=>?_;(try simp);(repeat (refine WW ?_;simp[k]));refine e _ ?_)));refine Θ.Zm (ZP (a _)) rfl ?_;refine Θ.part (ZP (a _)) rfl Ρ rfl (by simp[Frame.enter]) [0,1,2,3] [4,5] rfl λh e=>?_;(try simp[-Ob]);(repeat (refine WW ?_;simp));refine e _ ?_;refine Θ.Hs (a _) (UR _) (sp:=sp) j.spec (by rw[Zu];exact k) ⟨⟨rfl,rfl,by simp[Frame.enter],rfl⟩,Dx,⟨_,rfl⟩,rfl,rfl,rfl⟩ λφ b n=>?_;obtain⟨o',t',o,p,r,u,w⟩:=l φ b n;refine⟨o',t',o,p,r,by rw[Zu];exact u,λf y=>?_⟩;rw[WY];rcases w f y with⟨g,i⟩|⟨g,i⟩
 .refine Θ.part (ZP (g _)) rfl Ρ rfl (by simp[Frame.enter]) [5] [] rfl λh e=>?_;(try simp[-Ob]);(repeat (refine WW ?_;simp));refine e _ ?_;refine Θ.ZH (ZP (g _)) rfl ?_;exact Θ.PT (ZP (g _)) rfl rfl rfl rfl func166 rfl rfl i
 .refine Θ.leaves (d:=1) j.rel g rfl ?_;refine Θ.part Ys rfl Ρ rfl (by simp[Frame.enter]) [5] [] rfl λh e=>?_;(try simp[-Ob]);(repeat (refine WW ?_;simp));refine e _ ?_;refine Θ.ZH Ys rfl ?_;exact Θ.PT Ys rfl rfl rfl rfl func166 rfl rfl i
theorem vv [ZV] {x:Z4} (j:Rn x s sp) (u:Uw prog 0 (Go.Conc.G (c.finish (.tuple #[])) rest)) {env:Ζ} (h:Z' env 0=.z (ptr s 0)) (y:Z' env 1=.z (.int .i64 (-1))) (l:Z' env 4=.z (.bool false)) (m:Z' env 6=.z (.int .u64 (Wi 0 1))) :
  Θ (UY prog Q false (ZN x s (.ch k .done .l2) v 1)) (G6 s) (c::rest) 117 [.code (Yv [1,1,1,1] Ja)] env:=by
 have f1:=Jg 0 Z3 1 Z3
 have f2:=Jf 0 Z3 1 Z3
 have f3:=Je 0 Z3 1 Z3
 have R:Wi 0 1=1:=Z3;generalize A:Wi 0 1=w at f1 f2 f3 m;have f:=j.here (k:=k) (v:=v) (d:=1) (g:=.l2) J;unfold Ja;(repeat (first|refine Θ.seq (ZP f) rfl ?_|refine Θ.block (ZP f) rfl ?_|refine Θ.inBlock (ZP f) rfl ?_|refine Θ.skip (ZP f) rfl ?_|refine Θ.TC (ZP f) rfl rfl ?_|refine Θ.TB (ZP f) rfl rfl ?_|(refine Θ.region (ZP f) rfl Ρ rfl (by simp[Frame.enter]) λi b=>?_;(try simp);(repeat (refine WW ?_;simp[h,y,l,m,f1,f2,f3,I']));refine b _ ?_)));refine Θ.Zm (ZP f) rfl ?_;refine Θ.part (ZP f) rfl Ρ rfl (by simp[Frame.enter]) [0,1,2] [3,4,5] rfl λi b=>?_;(repeat (refine WW ?_;simp[h]));refine b _ ?_;refine Θ.call (ZP f) rfl ⟨rfl,rfl,by simp[Frame.enter],rfl⟩ rfl rfl (vs:=[ptr s 0]) rfl func168 rfl rfl (by simp[ntmps168]) λt B C=>?_;have e:∀v,XW (ZN x s (.ch k .done .l2) v 1):=λv=>j.here J;have a:∀v,XW (ZN x s (.ch k .done .RO) v 1):=λv=>j.here J;refine vy j e id λφ D E=>?_;have n:=E.Vw.PQ;rw[Zu] at n;obtain⟨F,H⟩:=n.l2 k _ rfl;have I:Y8 D=w:=by rw[<-A];simp only[Y8,F,H]
 rw[I];refine Θ.back rfl rfl B C ?_;refine Θ.part (ZP (e _)) rfl Ρ rfl (by simp[Frame.enter]) [4,5] [] rfl λi b=>?_;(repeat (refine WW ?_;simp[m]));refine b _ ?_;refine Θ.ZH (ZP (e _)) rfl ?_;(repeat (first|refine Θ.seq (ZP (e _)) rfl ?_|refine Θ.block (ZP (e _)) rfl ?_|refine Θ.inBlock (ZP (e _)) rfl ?_|refine Θ.skip (ZP (e _)) rfl ?_|refine Θ.TC (ZP (e _)) rfl rfl ?_|refine Θ.TB (ZP (e _)) rfl rfl ?_|(refine Θ.region (ZP (e _)) rfl Ρ rfl (by simp[Frame.enter]) λi b=>?_;(try simp);(repeat (refine WW ?_;simp[h]));refine b _ ?_)));refine Θ.Zm (ZP (e _)) rfl ?_;refine Θ.part (ZP (e _)) rfl Ρ rfl (by simp[Frame.enter]) [0,1,2] [3] rfl λi b=>?_;(repeat (refine WW ?_;simp[h]));refine b _ ?_;refine Θ.call (ZP (e _)) rfl ⟨rfl,rfl,by simp[Frame.enter],rfl⟩ rfl rfl (vs:=[ptr s 0,.int .u64 0]) rfl func169 rfl rfl (by simp[ntmps169]) λt3 K L=>?_;refine vx j (t':=.ch k .done .RO) e a id λS M N=>?_;have o:=N.Vw.PQ;rw[Zu] at o;obtain⟨T,O⟩:=o.l2 k _ rfl;refine⟨{M with wt:=0},by simp only[Y8,O];rfl,rfl,⟨rfl,rfl,rfl⟩,.A7,λU V=>?_⟩;refine Θ.back rfl rfl K L ?_;refine Θ.ZH (ZP (a _)) rfl ?_;(repeat (first|refine Θ.seq (ZP (a _)) rfl ?_|refine Θ.block (ZP (a _)) rfl ?_|refine Θ.inBlock (ZP (a _)) rfl ?_|refine Θ.skip (ZP (a _)) rfl ?_|refine Θ.TC (ZP (a _)) rfl rfl ?_|refine Θ.TB (ZP (a _)) rfl rfl ?_|(refine Θ.region (ZP (a _)) rfl Ρ rfl (by simp[Frame.enter]) λi b=>?_;(try simp);(repeat (refine WW ?_;simp[h,l]));refine b _ ?_)));refine Θ.loop (ZP (a _)) rfl ?_;(repeat (first|refine Θ.seq (ZP (a _)) rfl ?_|refine Θ.block (ZP (a _)) rfl ?_|refine Θ.inBlock (ZP (a _)) rfl ?_|refine Θ.skip (ZP (a _)) rfl ?_|refine Θ.TC (ZP (a _)) rfl rfl ?_|refine Θ.TB (ZP (a _)) rfl rfl ?_|(refine Θ.region (ZP (a _)) rfl Ρ rfl (by simp[Frame.enter]) λi b=>?_;(try simp);(repeat (refine WW ?_;simp[h,l]));refine b _ ?_)));refine Θ.Zm (ZP (a _)) rfl ?_;refine Θ.part (ZP (a _)) rfl Ρ rfl (by simp[Frame.enter]) [0,1,2] [3] rfl λi b=>?_;(repeat (refine WW ?_;simp[h]));refine b _ ?_;refine Θ.vE (a _) (sp:=sp) j.spec (by rw[Zu];exact id) (vs:=[ptr s 1,.bool false,.int .i64 0]) rfl ⟨⟨rfl,rfl,by simp[Frame.enter],rfl⟩,wx,⟨_,rfl⟩,rfl,rfl,rfl⟩ λW p P=>?_;have r:=P.Vw.PQ;rw[Zu] at r;refine⟨by have:=r.YY;omega,{p with YY:=p.YY+1},.ch k .done .gone,rfl,rfl,⟨rfl,rfl,rfl⟩,by rw[Zu];exact .A6,λX Y=>?_⟩;rw[WY];refine Θ.leaves (d:=1) j.rel j.gone rfl ?_;refine Θ.ZH Ys rfl ?_;(repeat (first|refine Θ.seq Ys rfl ?_|refine Θ.block Ys rfl ?_|refine Θ.inBlock Ys rfl ?_|refine Θ.skip Ys rfl ?_|refine Θ.TC Ys rfl rfl ?_|refine Θ.TB Ys rfl rfl ?_|(refine Θ.region Ys rfl Ρ rfl (by simp[Frame.enter]) λi b=>?_;(try simp);(repeat (refine WW ?_;simp[h,Jc]));refine b _ ?_)));refine Θ.inLoop Ys rfl ?_;(repeat (first|refine Θ.seq Ys rfl ?_|refine Θ.block Ys rfl ?_|refine Θ.inBlock Ys rfl ?_|refine Θ.skip Ys rfl ?_|refine Θ.TC Ys rfl rfl ?_|refine Θ.TB Ys rfl rfl ?_|(refine Θ.region Ys rfl Ρ rfl (by simp[Frame.enter]) λi b=>?_;(try simp);(repeat (refine WW ?_;simp[h,Jc]));refine b _ ?_)));refine Θ.exit Ys rfl rfl ?_;exact Θ.vD rfl rfl rfl rfl func140 rfl O9 u
structure C6 (x:Z4) (s:Nat) (sp:Spec):Prop where
 rel:x.rel=false
 γ:x.γ=λ_=>none
 spec:x.spec s=some sp
 top:sp.top<7
 shut:∀a,a≠s->Xn (x.tok a)
theorem vu {x:Z4} {H:Ψ} (g:C6 x s sp) (R:sp.D k Ψ.empty) (n:c.mode=.returning) (K:Uw prog 0 (Go.Conc.G c rest)) :
  Zk prog Q false (ZN x s (.ch k .done .work) v 0) (Frame.enter prog 142 #[ptr s 0] .deferred) (c::rest) H:=by
 letI:ZV:=Yb;have r:∀t v d,Seq (one (ZN x s t v d)):=λt v d=>Seq.Pb trivial g.rel g.γ;have h:Rn (M1 x) s sp:=⟨rfl,g.spec,g.top,g.shut⟩;have b:∀v d,XW (ZN (M1 x) s (.ch k .done .rel) v d):=λv d=>h.here J;have A:∀v d,XW (ZN (M1 x) s (.ch k .done .l2) v d):=λv d=>h.here J;rw[Sa (body:=f142.body.getD .skip) func142 rfl];refine V.here (x:=one _) (m:=0) (nt:=4) (S:=XL) (B:=[]) (σ:=[]) (env:=entry 0 [.z (ptr s 0)]) ?_ (XE.enter (M6 H) ⟨rfl,λi a v C L=>?_⟩ (Z5 _) J) _ rfl
 .refine V.XB (r _ _ _) rfl ?_;simp only[f142,Option.getD_some];refine Y5 ?_;refine W.Zm ?_;refine XK [0] [1] ?_;refine W.stop ?_;refine V.call (r _ _ _) ⟨rfl,rfl,by simp[Frame.enter],rfl⟩ rfl rfl rfl ⟨_,func140,rfl,rfl⟩ λab T ad t1 ae af j hv=>?_;obtain rfl:=TI (l:=[ptr s 0,.int .i64 (-1)]) hv;obtain rfl:T=[]:=YR.1 j.holds.len;rintro y rfl;refine V.Ru (z:=one _) (vs:=[ptr s 0,.int .i64 (-1)]) func140 rfl j.holds (by simp[ntmps140]) ?_ _ rfl;refine V.XB (r _ _ _) rfl ?_;refine WE ?_;refine W.Zm ?_;refine XK [0] [1,2] ?_;refine W.stop ?_;refine V.conv (r _ _ _).here (sp:=sp) g.spec (by rw[Zu];exact id) ⟨rfl,rfl,by simp[Frame.enter],rfl⟩ rfl rfl rfl Hh O8 Hg rfl (λe w ag X=>⟨_,X.Tk⟩) (λφ e ah=>?_);unfold We;rw[UZ];refine V.Im g.rel (sp:=sp) g.spec (.inl rfl) g.shut R ⟨⟨rfl,rfl,by simp[Frame.enter],rfl⟩,DC,⟨_,rfl⟩,rfl,rfl,rfl⟩ J ?_;refine Θ.ZH (ZP (b _ _)) rfl ?_;(repeat (first|refine Θ.seq (ZP (b _ _)) rfl ?_|refine Θ.block (ZP (b _ _)) rfl ?_|refine Θ.inBlock (ZP (b _ _)) rfl ?_|refine Θ.skip (ZP (b _ _)) rfl ?_|refine Θ.TC (ZP (b _ _)) rfl rfl ?_|refine Θ.TB (ZP (b _ _)) rfl rfl ?_|(refine Θ.region (ZP (b _ _)) rfl Ρ rfl (by simp[Frame.enter]) λo f=>?_;(try simp);(repeat (refine WW ?_;simp[n]));refine f _ ?_)));refine Θ.Zm (ZP (b _ _)) rfl ?_;refine Θ.disable (b _ _) ⟨⟨rfl,rfl,by simp[Frame.enter],rfl⟩,LK,⟨_,rfl⟩,rfl,rfl,rfl⟩ ?_;rw[LN];refine Θ.ZH (ZP (b _ _)) rfl ?_;refine Θ.Zm (ZP (b _ _)) rfl ?_;refine Θ.Hq (ZP (b _ _)) rfl ⟨rfl,rfl,by simp[Frame.enter],rfl⟩ rfl rfl rfl ?_;refine Θ.ZH (ZP (b _ _)) rfl ?_;(repeat (first|refine Θ.seq (ZP (b _ _)) rfl ?_|refine Θ.block (ZP (b _ _)) rfl ?_|refine Θ.inBlock (ZP (b _ _)) rfl ?_|refine Θ.skip (ZP (b _ _)) rfl ?_|refine Θ.TC (ZP (b _ _)) rfl rfl ?_|refine Θ.TB (ZP (b _ _)) rfl rfl ?_|(refine Θ.region (ZP (b _ _)) rfl Ρ rfl (by simp[Frame.enter]) λo f=>?_;(try simp);(repeat (refine WW ?_;simp[n]));refine f _ ?_)));refine Θ.Zm (ZP (b _ _)) rfl ?_;refine Θ.Jm (ZP (b _ _)) rfl ⟨rfl,rfl,by simp[Frame.enter],rfl⟩ rfl rfl rfl Dz ?_;refine Θ.ZH (ZP (b _ _)) rfl ?_;(repeat (first|refine Θ.seq (ZP (b _ _)) rfl ?_|refine Θ.block (ZP (b _ _)) rfl ?_|refine Θ.inBlock (ZP (b _ _)) rfl ?_|refine Θ.skip (ZP (b _ _)) rfl ?_|refine Θ.TC (ZP (b _ _)) rfl rfl ?_|refine Θ.TB (ZP (b _ _)) rfl rfl ?_|(refine Θ.region (ZP (b _ _)) rfl Ρ rfl (by simp[Frame.enter]) λo f=>?_;(try simp);(repeat (refine WW ?_;simp[n]));refine f _ ?_)));refine Θ.Zm (ZP (b _ _)) rfl ?_;refine Θ.part (ZP (b _ _)) rfl Ρ rfl (by simp[Frame.enter]) [0,1,2,3,4,5] [6,7] rfl λo f=>?_;(repeat (refine WW ?_;simp[vA,vC,vB]));refine f _ ?_;refine Θ.call (ZP (b _ _)) rfl ⟨rfl,rfl,by simp[Frame.enter],rfl⟩ rfl rfl (vs:=[ptr s 0,.int .u64 18446744069414584320]) rfl func166 rfl rfl (by simp[ntmps166]) λt2 M N=>?_;refine vw h (λv=>b v 1) id λφ e O=>?_;have u:=O.Vw.PQ;rw[Zu] at u;have ai:1<=e.cnt:=u.live;have aj:=h.Jd O.spec;have ak:=u.cnt;have al:=u.wt;obtain⟨cc,E⟩:=ψ (e.cnt-1);have p:e.cnt<8/\0<e.cnt/\cc<8/\e.wt<2:=U;have P:Y8 {e with cnt:=cc}=u64.wrap (Y8 e+18446744069414584320):=by
   rw[O7,O7,vX e.cnt p.1 e.wt p.2.2.2 p.2.1,E]
  by_cases F:e.cnt=1/\e.wt=1
  .have Y:cc=0:=U
   refine⟨{e with cnt:=cc},.ch k .done .l2,P,rfl,⟨rfl,rfl,rfl⟩,by rw[E];exact .A9 F.1 F.2,λZ aa=>.inl ⟨λv=>A v 1,?_⟩⟩;have I:Y8 {e with cnt:=cc}=Wi 0 1:=by rw[O7,Y];simp only[F.2]
   rw[I];refine Θ.back rfl rfl M N ?_;refine Θ.part (ZP (A _ _)) rfl Ρ rfl (by simp[Frame.enter]) [7] [] rfl λo f=>?_;(repeat (refine WW ?_;simp));refine f _ ?_;refine Θ.ZH (ZP (A _ _)) rfl ?_;refine vv h ?_ rfl rfl rfl rfl;exact Θ.back (nt:=4) rfl rfl j.size (LG J j.Zn) (Θ.ZH Ys rfl (Θ.C7 rfl rfl rfl rfl func142 rfl n K))
  .refine⟨{e with cnt:=cc},.ch k .done .gone,P,rfl,⟨rfl,rfl,rfl⟩,by rw[E];exact .A8 U,λZ aa=>.inr ⟨h.gone,?_⟩⟩;have I:Y8 {e with cnt:=cc}=Wi cc e.wt:=rfl;rw[I];refine Θ.back rfl rfl M N ?_;refine Θ.part Ys rfl Ρ rfl (by simp[Frame.enter]) [7] [] rfl λo f=>?_;(repeat (refine WW ?_;simp));refine f _ ?_;refine Θ.ZH Ys rfl ?_;refine vz ?_ (cc:=cc) (w0:=e.wt) p.2.2.1 p.2.2.2 U rfl rfl rfl rfl;exact Θ.back (nt:=4) rfl rfl j.size (LG J j.Zn) (Θ.ZH Ys rfl (Θ.C7 rfl rfl rfl rfl func142 rfl n K))
 .cases i with
  | zero=>simp at C L;subst C;subst L;exact .z _
  | succ i=>simp at C
end
end Go.TL
namespace Go.TL
open Go.IntKind (i32 i64 u32 u64)
open Go.Proofs.Tryz
open Go.Conc
open Go.ConcN (upd)
def QI (S:ο) (H:Ψ):Ψ:={H with μ:=λb o=>match S b o with|some v=>some (v,false)|none=>H.μ b o}
def TA (S:ο):Ψ:=⟨λb o=>(S b o).map (·,false),λ_=>none,λ_=>none⟩
def ο.plus (S T:ο):ο:=λb o=>match S b o with|some v=>some v|none=>T b o
structure S' (a:Nat) (c:ο) (E:Ψ):Prop where
 μ:∀b o x,E.μ b o=some x->c b o≠none\/a<b
 row:∀b x,E.row b=some x->a<b
 obj:∀b x,E.obj b=some x->a<b
def M0 (r:Row):Prop:=∃t k l,r=.cells t k l
section
variable {S YB T7 O4 XS:ο} {B B':δ} {σ σ':Τ} {H H' Rm E G:Ψ} {β:Nat}
theorem LB {b o:Nat} {v:Value} (h:S b o=some v):(QI S H).μ b o=some (v,false):=by simp only[QI,h]
theorem G5 {b o:Nat} (h:S b o=none):(QI S H).μ b o=H.μ b o:=by simp only[QI,h]
theorem G4 {b o:Nat} {v:Value} (h:S b o=some v):(TA S).μ b o=some (v,false):=by simp only[TA,h];rfl
theorem I9 {b o:Nat} {x:Value×Bool} (h:(TA S).μ b o=some x):∃v,S b o=some v/\x=(v,false):=by
 cases a:S b o with
 | none=>simp[TA,a] at h
 | some v=>exact⟨v,rfl,by simp[TA,a] at h;exact h.symm⟩
theorem LA {b o:Nat} {v:Value} (h:S b o=some v):S.plus T7 b o=some v:=by simp only[ο.plus,h]
theorem I8 {b o:Nat} (h:S b o=none):S.plus T7 b o=T7 b o:=by simp only[ο.plus,h]
theorem join_some {b o:Nat} {x:Value×Bool} (h:H.μ b o=some x):(join H E).μ b o=some x:=by simp only[join,h]
theorem join_none {b o:Nat} (h:H.μ b o=none):(join H E).μ b o=E.μ b o:=by simp only[join,h]
theorem vr {b:Nat} {x:TypeId×Nat} (h:(join H E).row b=some x):H.row b=some x\/E.row b=some x:=by
 cases a:H.row b with
 | none=>simp only[join,a] at h;exact .inr h
 | some y=>simp only[join,a] at h;exact .inl h
theorem vq {b:Nat} {x:Obj} (h:(join H E).obj b=some x):H.obj b=some x\/E.obj b=some x:=by
 cases a:H.obj b with
 | none=>simp only[join,a] at h;exact .inr h
 | some y=>simp only[join,a] at h;exact .inl h
theorem vp (f:Holds S [] [] H):Split H (QI S H) (TA S):=by
 refine⟨⟨λb o v p h=>?_,λb x h=>h,λb x h=>h⟩,⟨λb o v p h=>?_,λb x h=>(by cases h),λb x h=>(by cases h)⟩,⟨λb o ⟨v,h⟩ ⟨x,k⟩=>?_,λb o ⟨v,h⟩ _=>?_,λb _ ⟨x,h⟩=>(by cases h)⟩⟩
 .cases a:S b o with
  | some u=>
   rw[LB a] at h;cases h;obtain⟨c,d⟩:=f.YO b o _ a;exact⟨c,d,λe=>by cases e⟩
  | none=>rw[G5 a] at h;exact⟨p,h,id⟩
 .obtain⟨u,a,e⟩:=I9 h;cases e;obtain⟨c,d⟩:=f.YO b o _ a;exact⟨c,d,λe=>by cases e⟩
 .obtain⟨u,a,e⟩:=I9 k;rw[LB a] at h;cases h
 .obtain⟨u,a,e⟩:=I9 h;cases e
theorem vo (a:Holds S [] [] H):Holds S [] [] (QI S H):=
 ⟨λb o v h=>⟨false,LB h⟩,rfl,λid r bo h=>by simp at h,λi j c d b e f _ h=>by simp at h,λid r b N h=>by simp at h⟩
theorem vn:Holds S [] [] (TA S):=
 ⟨λb o v h=>⟨false,G4 h⟩,rfl,λid r bo h=>by simp at h,λi j a c b d e _ h=>by simp at h,λid r b N h=>by simp at h⟩
theorem vm (f:Holds S [] [] H):Ext S [] H S [] (QI S H):=by
 refine⟨λ_ _ _ h=>h,λb _ _=>⟨λo=>?_,rfl,rfl⟩,λb h=>.inl h,λb o v h=>.inl h,λb h=>?_⟩
 .cases a:S b o with
  | none=>exact .inl (G5 a)
  | some v=>
   obtain⟨p,g⟩:=f.YO b o v a;exact .inr ⟨v,p,rfl,g,LB a⟩
 .have d:∀b o,(QI S H).μ b o=none->H.μ b o=none:=λb o h=>by
   cases a:S b o with
   | none=>rw[G5 a] at h;exact h
   | some v=>rw[LB a] at h;cases h
  exact⟨λo=>d b o (h.1 o),h.2.1,h.2.2.1,λc e=>⟨λo=>d c o ((h.2.2.2 c e).1 o),(h.2.2.2 c e).2⟩⟩
theorem Holds.Qj (a:Holds S B σ H) (c:∀b,¬H.fresh b->UN H H' b) (k:∀b,H'.fresh b->H.fresh b):Holds S B σ H'/\Ext S B H S B H':=by
 have l:∀b o x,H.μ b o=some x->¬H.fresh b:=λb o x h d=>by rw[d.1 o] at h;cases h
 refine⟨⟨λb o v h=>?_,a.len,λid r bo f g=>?_,a.inj,a.sep⟩,⟨λ_ _ _ h=>h,λb _ d=>Tf.of (c b d),λb h=>.inl h,λb o v h=>.inl h,k⟩⟩
 .obtain⟨p,i⟩:=a.YO b o v h;exact⟨p,by rw[(c b (l b o _ i)).1];exact i⟩
 .by_cases j:r.live
  .refine(a.row id r bo f g).later (Zy.refl S B σ) (λb N e=>c b (a.SR f j (by rw[g,e]))) λm left t e=>?_;subst e;obtain⟨_,_,u,w,xs,y,seen,_,A,⟨es,n⟩,_⟩:=a.row id _ bo f g;exact⟨rfl,rfl,λb N s=>c b (a.SR n trivial s)⟩
  .cases r<;>first|exact absurd trivial j|trivial
theorem Ext.Qj (h:Ext XL [] H YB [] H') {b:Nat} (a:¬H.fresh b):UN H H' b:=(h.Xv b (λ⟨N,x⟩=>by simp at x) a).Qj λ_=>rfl
theorem C5 {w:World} (c:Fits H w) (d:Fits E w) {b o:Nat} {u v:Value} {p q:Bool} (h:H.μ b o=some (u,p)) (k:E.μ b o=some (v,q)):u=v:=by
 have a:=c.μ b o u p h;rw[d.μ b o v q k] at a;exact(W4 a).symm
theorem vl {w:World} (e:Fits H w) (l:Fits E w) (m:Apart H E) {b N:Nat} {t:TypeId} (g:E.row b=some (t,N)) (n:∀o,o<N->∃v,E.μ b o=some (v,true)):(∀o,H.μ b o=none)/\UN E (join H E) b:=by
 obtain⟨c,f,p⟩:=l.row b t N g;have h:∀o,H.μ b o=none:=λo=>by
  cases a:H.μ b o with
  | none=>rfl
  | some x=>
   have i:=e.μ b o x.1 x.2 a;by_cases j:o<N
   .exact absurd ⟨x,a⟩ (m.Rc b o (n o j))
   .simp only[World.cell?,f] at i;simp[p,j] at i
 refine⟨h,λo=>join_none (h o),?_,?_⟩
 .cases a:H.row b with
  | none=>simp only[join,a]
  | some x=>
   obtain⟨c',d,k⟩:=e.row b x.1 x.2 a;rw[f] at d;cases d;simp only[join,a,g];obtain⟨r,s⟩:=x
   simp_all
 .cases a:H.obj b with
  | none=>simp only[join,a]
  | some x=>
   obtain⟨d,k⟩:=e.obj b x a;rw[f] at d;cases d;simp[Obj.Qs] at k
theorem C4 (i:Holds S [] [] H) (f:Holds T7 B σ E) (C:Apart H E) (D:∃w,Fits H w/\Fits E w) (y:∀r∈σ,M0 r) :
  Holds (S.plus T7) B σ (join H E)/\Zy S (S.plus T7) [] B [] σ/\Zy T7 (S.plus T7) B B σ σ:=by
 obtain⟨w,j,n⟩:=D;have st:∀b o v,T7 b o=some v->S.plus T7 b o=some v:=λb o v h=>by
  cases a:S b o with
  | none=>rw[I8 a];exact h
  | some u=>
   obtain⟨p,c⟩:=i.YO b o u a;obtain⟨q,F⟩:=f.YO b o v h;rw[LA a,C5 j n c F]
 have l1:Zy S (S.plus T7) [] B [] σ:=⟨λb o v h=>LA h,λid r h=>by simp at h⟩
 have l2:Zy T7 (S.plus T7) B B σ σ:=⟨st,λid r h=>⟨r,h,r.Ql _⟩⟩
 have A:∀(id:Nat) (r:Row) (b N:Nat),σ[id]?=some r->B[id]?=some (some (b,N))->(∀o,H.μ b o=none)/\UN E (join H E) b:=λid r b N d I=>by
  obtain⟨t,k,l,rfl⟩:=y r (Zp d);obtain⟨J,_,Φ,_⟩:=f.row id _ _ d I;exact vl j n C J Φ
 refine⟨⟨λb o v h=>?_,f.len,λid r bo d g=>?_,f.inj,λid r b N d K g o=>?_⟩,l1,l2⟩
 .cases a:S b o with
  | some u=>
   rw[LA a] at h;cases h;obtain⟨p,c⟩:=i.YO b o _ a;exact⟨p,join_some c⟩
  | none=>
   rw[I8 a] at h;obtain⟨p,c⟩:=f.YO b o v h;cases s:H.μ b o with
   | none=>exact⟨p,by rw[join_none s];exact c⟩
   | some x=>
    obtain⟨u,q⟩:=x;have:=C5 j n s c;subst this;exact⟨q,join_some s⟩
 .refine(f.row id r bo d g).later l2 (λb N e=>(A id r b N d (by rw[g,e])).2) λm left M e=>?_;subst e;obtain⟨t,k,l,e⟩:=y _ (Zp d);cases e
 .have L:=(A id r b N d g).1 o;cases a:S b o with
  | some u=>
   obtain⟨p,c⟩:=i.YO b o u a;rw[L] at c;cases c
  | none=>rw[I8 a];exact f.sep id r b N d K g o
theorem G3 {o:Nat} {x:Value×Bool} (a:G.μ β o=some x) {b:Nat} (c:G.fresh b):β<b:=by
 by_cases e:β<b
 .exact e
 .rcases OQ b β with h|h
  .have:=(c.2.2.2 β h).1 o;rw[a] at this;cases this
  .obtain rfl:β=b:=U
   rw[c.1 o] at a;cases a
theorem G2 {b:Nat} (a:G.fresh β) (h:β<b):G.fresh b:=
 ⟨(a.2.2.2 b h).1,(a.2.2.2 b h).2.1,(a.2.2.2 b h).2.2,λc d=>a.2.2.2 c (Nat.lt_trans h d)⟩
theorem vk (a:∀b o v,S b o=some v->XS b o≠none\/β<b):S' β XS (TA S):=
 ⟨λb o x h=>let ⟨v,c,_⟩:=I9 h;a b o v c,λb x h=>(by cases h),λb x h=>(by cases h)⟩
theorem S'.join (h:S' β XS G) (k:S' β XS E):S' β XS (join G E):=by
 refine⟨λb o x a=>?_,λb x a=>(vr a).elim (h.row b x) (k.row b x),λb x a=>(vq a).elim (h.obj b x) (k.obj b x)⟩;cases c:G.μ b o with
 | none=>rw[join_none c] at a;exact k.μ b o x a
 | some y=>exact h.μ b o y c
theorem S'.ext (h:S' β XS G) {G':Ψ} (f:Ext S B G YB B' G') (g:∀b,B.has b->β<b) {o:Nat} {x:Value×Bool} (i:G.μ β o=some x):S' β XS G':=by
 have d:∀b,¬β<b->Tf S G G' b:=λb a=>f.Xv b (λk=>a (g b k)) λk=>a (G3 i k);refine⟨λb o x c=>?_,λb x c=>?_,λb x c=>?_⟩
 .by_cases a:β<b
  .exact .inr a
  .rcases(d b a).1 o with e|⟨v,p,_,e,_⟩
   .rw[e] at c;exact h.μ b o x c
   .exact h.μ b o _ e
 .by_cases a:β<b
  .exact a
  .rw[(d b a).2.1] at c;exact h.row b x c
 .by_cases a:β<b
  .exact a
  .rw[(d b a).2.2] at c;exact h.obj b x c
theorem C3 {G':Ψ} (b:Ext S B G YB B' G') (c:¬B.has β) (d:∃o x,G.μ β o=some x):∃o x,G'.μ β o=some x:=by
 obtain⟨o,x,a⟩:=d;rcases(b.Xv β c (λf=>by rw[f.1 o] at a;cases a)).1 o with e|⟨v,p,_,_,e⟩
 .exact⟨o,x,by rw[e];exact a⟩
 .exact⟨o,_,e⟩
theorem S'.blocks (h:S' β XS E) (c:Holds T7 B σ E) (f:∀r∈σ,M0 r) {b:Nat} (g:B.has b):β<b:=by
 obtain⟨N,i⟩:=g;obtain⟨id,d⟩:=Sx i;have j:id<σ.length:=by rw[<-c.len];exact(ZB.1 d).1
 have a:=ζ j;obtain⟨t,k,l,e⟩:=f _ (Zp a);rw[e] at a;exact h.row b _ (c.row id _ _ a d).1
theorem vj (g:Ext O4 [] Rm S [] H) (l:∀b o v,XS b o=some v->S b o=some v) (j:Rm.fresh β) (hi:S' β XS E) (t:Holds S [] [] H) (m:Holds T7 B σ E) (w:∀r∈σ,M0 r) :
  Ext O4 [] Rm (S.plus T7) B (join H E):=by
 have A:∀b,¬δ.has ([]:δ) b:=λb ⟨N,h⟩=>by simp at h
 have C:∀b,¬Rm.fresh b->¬β<b:=λb h k=>h (G2 j k)
 have D:∀b,¬β<b->∀o,(join H E).μ b o=H.μ b o:=λb d o=>by
  cases a:H.μ b o with
  | some x=>rw[join_some a]
  | none=>
   rw[join_none a];cases F:E.μ b o with
   | none=>rfl
   | some y=>
    rcases hi.μ b o y F with k|k
    .cases e:XS b o with
     | none=>exact absurd e k
     | some v=>
      obtain⟨p,i⟩:=t.YO b o v (l b o v e);rw[a] at i;cases i
    .exact absurd k d
 refine⟨λb o v h=>LA (g.YO b o v h),λb _ n=>?_,λb d=>.inr (G2 j (hi.blocks m w d)),λb o v h=>?_,λb h=>g.grow b ?_⟩
 .have d:=C b n;obtain⟨I,J,K⟩:=g.Xv b (A b) n;refine⟨λo=>by rw[D b d o];exact I o,?_,?_⟩
  .cases a:E.row b with
   | none=>rw[<-J];simp only[join,a];cases H.row b<;>rfl
   | some x=>exact absurd (hi.row b x a) d
  .cases a:E.obj b with
   | none=>rw[<-K];simp only[join,a];cases H.obj b<;>rfl
   | some x=>exact absurd (hi.obj b x a) d
 .cases e:S b o with
  | some u=>rw[LA e] at h;cases h;exact g.Q2 b o _ e
  | none=>
   rw[I8 e] at h;obtain⟨p,i⟩:=m.YO b o v h;rcases hi.μ b o _ i with k|k
   .cases s:XS b o with
    | none=>exact absurd s k
    | some u=>rw[l b o u s] at e;cases e
   .exact .inr (.inr (G2 j k))
 .have c:∀b o,(join H E).μ b o=none->H.μ b o=none:=λb o h=>by
   cases a:H.μ b o with
   | none=>rfl
   | some x=>rw[join_some a] at h;cases h
  have r:∀b,(join H E).row b=none->H.row b=none:=λb h=>by
   cases a:H.row b with
   | none=>rfl
   | some x=>simp only[join,a] at h;cases h
  have o:∀b,(join H E).obj b=none->H.obj b=none:=λb h=>by
   cases a:H.obj b with
   | none=>rfl
   | some x=>simp only[join,a] at h;cases h
  exact⟨λo'=>c b o' (h.1 o'),r b h.2.1,o b h.2.2.1,λf d=>⟨λo'=>c f o' ((h.2.2.2 f d).1 o'),r f (h.2.2.2 f d).2.1,o f (h.2.2.2 f d).2.2⟩⟩
end
end Go.TL
namespace Go.TL
open Go.IntKind (i32 i64 u32 u64)
open Go.Proofs.Tryz
open Go.Conc Go.Proofs
open Go.ConcN (sumTo upd sumTo_upd upd_ne upd_same sumTo_congr le_sumTo)
noncomputable def under (P:Program):Frame:={(default:Frame) with fn:=P.funcs.size,defers:=[],mode:=.panicking [goexitEntry]}
theorem vi {P:Program} {g:FuncId} {cap:Array Value} (b:Plain P g) (w:World):stepG P false (born P ⟨.fn (.func g) cap,#[]⟩) w=.go (Go.Conc.G (Frame.enter P g cap .deferred) [under P]) w #[]:=by
 obtain⟨fn,c,d,a⟩:=b;have f:¬fn.name = "runtime.NumGoroutine" := by simpa using d
 have h:¬fn.body=none:=by intro e;rw[e] at a;cases a
 simp[born,stepG,unwind,callDeferred,invoke,callFunc,c,f,h,seen,GStep.after,Go.Conc.G,under]
theorem vh {P:Program} {b:Frame} {fn:Func} (a:P.funcs[b.fn]?=some fn) (c:fn.results=#[]) (d:b.defers=[]) (e:b.mode=.returning) (f:b.kind=.deferred):Uw P 0 (Go.Conc.G b [under P]):=by
 refine⟨2,QuitsD.ctl (g':=Go.Conc.G (under P) []) rfl (λw=>?_) ?_⟩
 .simp[Go.Conc.G,stepG,unwind,e,d,a,doReturn,results,c,f,under,seen,GStep.after,goexitEntry]
 .refine QuitsD.ctl (g':={Go.Conc.G (under P) [] with status:=.finished}) rfl (λw=>?_) ⟨rfl,rfl⟩;simp[Go.Conc.G,stepG,unwind,under,goexitEntry,Frame.catches];rfl
def PN (l:ξ):I:=if l.isEmpty then .sl true 0 [] else .ms 1 l.length 0 l.length
def W9 (l:ξ):Τ:=.cells 99 1 [PN l]::ZR 110 3 l
theorem G1:PN []=.sl true 0 []:=rfl
theorem I7 {l:ξ} (h:l≠[]):PN l=.ms 1 l.length 0 l.length:=by unfold PN;rw[if_neg (by simpa using h)]
theorem C2 {l:ξ} {x:I}:PN (l++[x])=.ms 1 (l.length+1) 0 (l.length+1):=by rw[I7 J];simp
theorem I6 (l:ξ):∀r∈W9 l,M0 r:=by
 intro r h;unfold W9 ZR at h;rcases Zf.1 h with rfl|h
 .exact⟨_,_,_,rfl⟩
 .split at h
  .cases h
  .simp at h;subst h;exact⟨_,_,_,rfl⟩
def N' (a:Nat) (b:ο) (o:Nat) (fd:Nat->Option Found) (L:List Nat) (E:Ψ):Prop:=
 S' a b E/\∃S B,Holds S B (W9 ((L.filterMap fd).map YQ)) E/\B[0]?=some (some (o,1))
theorem vg {S c:ο} {B B':δ} {l b:ξ} {m:Nat} (h:Zy S c (B.take m) B' ((W9 l).take m) (W9 b)) (f:0<m):B'[0]?=B[0]?:=by
 obtain⟨m,rfl⟩:∃k,m=k+1:=⟨m-1,U⟩;obtain⟨r',d,e⟩:=h.rows 0 (.cells 99 1 [PN l]) (by simp[W9]);have:r'=.cells 99 1 [PN b]:=by simpa[W9] using d.symm
 subst this;rcases e with⟨l2,_,_,a⟩|a
 .simpa[OV] using a
 .have:=a 1 J;simp[Row.WR] at this
section
variable {β s m o k:Nat} {S XS:ο} {fd:Nat->Option Found} {sp:Spec} {Xp:Δ} {a b:Int} {v1 v2 MZ:Value} {f:Found} {n:Nat}
abbrev T6 (s:Nat) (sp:Spec):Z4:=⟨Ψ.empty,λ_=>none,λ_=>.nil,upd (λ_=>none) s (some sp),λ_=>none,0,false⟩
abbrev I5 (s m o:Nat) (v1 v2 MZ:Value):Array Value:=#[ptr s 0,v1,v2,MZ,ptr m 0,ptr o 0]
abbrev GZ (s m o:Nat) (Xp:Δ) (a b:Int):ξ:=[.z (ptr s 0),Z6 Xp,.π [R a],.π [R b],.z (ptr m 0),.z (ptr o 0)]
theorem C1:(T6 s sp).spec s=some sp:=upd_same (λ_=>(none:Option Spec)) s (some sp)
theorem C0 (a:sp.ZW=some m) (b:sp.top<7):Vv (T6 s sp) s m sp:=⟨rfl,rfl,C1,a,b,λ_ _=>trivial⟩
theorem vf (a:sp.top<7):C6 (T6 s sp) s sp:=⟨rfl,rfl,C1,a,λ_ _=>trivial⟩
theorem ve (n:sp.ZW=some m) (d:sp.top<7) (e:sp.D k Ψ.empty) {f:Value->Prop} {c:Frame} {H:Ψ} {v:Option (Nat×η)} {d1:Deferred} (a:Og prog d1 142 #[ptr s 0])
  (b:c.mode=.returning) (g:c.defers=[d1]) (h:c.kind=.deferred) (i:c.fn=141):Zk prog f false (ZN (T6 s sp) s (.ch k .done .work) v 0) c [under prog] H:=by
 letI:ZV:=Yb;have j:Seq (one (ZN (T6 s sp) s (.ch k .done .work) v 0)):=Seq.Pb trivial rfl rfl;refine θ.deferred (x:=one _) j (by rw[b];simp) g a.t1 a.t2 a.run (λy l=>?_) _ rfl;cases l;refine vu (vf d) e b ?_;exact vh (fn:=f141) (by rw[i];exact func141) rfl rfl b h
theorem vd (g:sp.ZW=some m) (i:sp.top<7) (n:sp.X2=N' β XS o fd) (p:sp.D k Ψ.empty) {r:Value->Prop} {c:Frame} {t:ο} {d:δ} {a:Ψ} {L:List Nat} {v:Option (Nat×η)} {d1 d2:Deferred}
  (u:Og prog d1 142 #[ptr s 0]) (e:Og prog d2 145 #[ptr m 0]) (f:c.mode=.returning) (w:c.defers=[d2,d1]) (A:c.kind=.deferred) (B:c.fn=141)
  (j:Holds t d (W9 (((L++[k]).filterMap fd).map YQ)) a) (C:d[0]?=some (some (o,1))) (hi:S' β XS a) (E:∃q x,a.μ β q=some x) :
  Zk prog r false (ZN (T6 s sp) s (.ch k (.YK L) .work) v 0) c [under prog] a:=by
 letI:ZV:=Yb;have F:Seq (one (ZN (T6 s sp) s (.ch k (.YK L) .work) v 0)):=Seq.Pb trivial rfl rfl;refine θ.deferred (x:=one _) F (by rw[f];simp) w e.t1 e.t2 e.run (λy H=>?_) _ rfl;cases H;refine vZ (x:=T6 s sp) (s:=s) (c:={c with defers:=[d1]}) (C0 g i) j f λI J l K=>⟨Ψ.empty,J,⟨Sub.empty _,Sub.refl _,(Apart.Pw _).symm⟩,?_,λv2 P Q _=>?_⟩
 .rw[n];obtain⟨M,R,S⟩:=j.back l K;obtain⟨q,x,O⟩:=E;exact⟨hi.ext l (λb ⟨N,h⟩=>by simp at h) O,I,d,M,C⟩
 .exact ve g i p u f rfl A B
end
section
variable {β s m o k:Nat} {S XS:ο} {fd:Nat->Option Found} {sp:Spec} {Xp:Δ} {a b:Int} {v1 v2 MZ:Value} {f:Found} {n:Nat}
noncomputable abbrev vc (vs:Array Value) (ds:List Deferred):Frame:={Frame.enter prog 141 vs .deferred with defers:=ds}
noncomputable def I4:Code:=f141.body.getD .skip
theorem vb (al:sp.ZW=some m) (am:sp.top<7) (Y:sp.X2=N' β XS o fd) (an:sp.D k Ψ.empty) (ao:∀c:ZV,@Κ c prog 78 [YQ f,R (-1)] (R n)) (Z:fd k=if 0<n then some f else none) {aa:Value->Prop}
  {r:ο} {H' E:Ψ} {L:List Nat} (ap:Holds r [] [] H') (ab:sp.X2 L E) (aq:Apart H' E) (ar:∃w,Fits H' w/\Fits E w) (au:((L.filterMap fd).map YQ).length<=4294967295) (av:S' β XS H') (aw:∃q x,H'.μ β q=some x)
  {t:Array Value} (ad:YJ r [] [] [(4,.z (ptr m 0)),(5,.z (ptr o 0)),(6,.π (YQ f).cells)] t) (ax:t.size=20) {vs:Array Value} {d1:Deferred} (ay:Og prog d1 142 #[ptr s 0]) {ops:Array Oper} :
  Zk prog aa false (ZN (T6 s sp) s (.ch k (.YK L) .work) none 0) (υ (vc vs [d1]) t [.inRegion ops [],.code (Yv [1,1,1] I4)]) [under prog] (join H' E):=by
 letI:ZV:=Yb;have v:Seq (one (ZN (T6 s sp) s (.ch k (.YK L) .work) none 0)):=Seq.Pb trivial rfl rfl;rw[Y] at ab;obtain⟨hi,H,C,M,ae⟩:=ab;obtain⟨l,I⟩:=ψ ((L.filterMap fd).map YQ);have az:l.length<=4294967295:=I▸au;rw[<-I] at M;obtain⟨aA,l1,l2⟩:=C4 ap M aq ar (I6 l);have af:∀b,C.has b->β<b:=λb=>hi.blocks M (I6 l);have aB:∃q x,(join H' E).μ β q=some x:=let ⟨q,x,h⟩:=aw;⟨q,x,join_some h⟩;have aC:t.getD 5 undef=ptr o 0:=by
  have:=ad 5;generalize t.getD 5 undef=u at this;cases this;rfl
 have aD:YJ (r.plus H) C (W9 l) [(4,.z (ptr m 0)),(5,.Ν 0 1 0 0),(6,.π (YQ f).cells)] t:=λi=>by
  have O:=(ad i).later l1;simp only[Z'] at O ⊢;by_cases ag:4=i
  .simpa[ag] using O
  by_cases ah:5=i
  .subst ah;simp only[show ¬4=5 by decide,if_false,if_true];rw[aC];have:=Α.Ν (S:=r.plus H) (B:=C) (σ:=W9 l) (id:=0) (n:=1) (i:=0) (j:=0) (k:=1) (t:=99) (l:=[PN l]) (b:=o) (N:=1) (by simp[W9]) rfl ae;simpa using this
  .simpa[ag,ah] using O
 have ai:∀(J:ξ) (g:ο) (p:δ) (a:Ψ) (c:Frame) (d2:Deferred),J=((L++[k]).filterMap fd).map YQ->XY 1 (r.plus H) C (join H' E) (W9 l) g p a (W9 J)->Holds g p (W9 J) a->Og prog d2 145 #[ptr m 0]->
   c.mode=.returning->c.defers=[d2,d1]->c.kind=.deferred->c.fn=141->Zk prog aa false (ZN (T6 s sp) s (.ch k (.YK L) .work) none 0) c [under prog] a:=λJ g p a c d2 e P aE K aF aG aH aI=>by
  subst e;obtain⟨q,x,aj⟩:=aB;exact vd al am Y an ay K aF aG aH aI aE (by rw[vg P.later U];exact ae) ((av.join hi).ext P.ext af aj) (C3 P.ext (λh=>Nat.lt_irrefl _ (af β h)) ⟨q,x,aj⟩)
 refine V.here (x:=one _) (m:=1) (nt:=20) (S:=r.plus H) (B:=C) (σ:=W9 l) (env:=[(4,.z (ptr m 0)),(5,.Ν 0 1 0 0),(6,.π (YQ f).cells)]) ?_ ⟨aA,aD,ax,by simp[W9]⟩ _ rfl;refine V.XB v rfl ?_;refine W.ZH ?_;simp only[I4,f141,Option.getD_some,Yv];refine Y5 ?_;refine W.Zm (.stop ?_);refine V.defer v rfl rfl rfl rfl rfl rfl rfl ⟨_,func145,rfl,rfl⟩ λaM aN aO t3 d2 aP ak aJ aK K=>?_;obtain rfl:=TI (l:=[ptr m 0]) aK;rintro y rfl;refine V.here (x:=one _) (m:=1) (nt:=20) ?_ aJ _ rfl;refine V.XB v rfl ?_;refine W.ZH ?_;refine ZU λaQ aL=>?_;refine Κ.d (ao _) (Z1 ?_);apply aL;by_cases Q:0<n
 .refine Ε (by simp[Q]) ?_;refine W.Xk (A:=[19]) Ρ [] (W9 (l++[YQ f])) (.stop ?_) (by
   by_cases F:l=[]
   .subst F;(try simp);(repeat (rw[Μ];simp[W9,G1,U2]));(try simp[W9,G1,U2]);exact⟨rfl,rfl⟩
   ·(try simp);(repeat (rw[Μ];simp[W9,I7 F,Yq F,C2,PX]));(try simp[W9,I7 F,Yq F,C2,PX]);exact az)
  intro g p a t5 T X;refine θ.Qm v rfl rfl ?_;rintro y rfl;exact ai _ g p a _ d2 (by rw[MD,XR,<-I];simp[Z,Q]) (ak.trans T) X.holds K rfl rfl rfl rfl
 .refine Η (by simp;omega) ?_;refine Y5 ?_;refine W.stop ?_;intro g p a t5 T X;refine θ.Qm v rfl rfl ?_;rintro y rfl;exact ai _ g p a _ d2 (by rw[MD,XR,<-I];simp[Z,Q]) (ak.trans T) X.holds K rfl rfl rfl rfl
theorem N9 {S:ο} {B:δ} {σ:Τ} {env env':Ζ} {t:Array Value} (h:YJ S B σ env t) (a:∀p∈env',Z' env p.1=p.2):YJ S B σ env' t:=by
 induction env' with
 | nil=>exact λi=>.Zs _
 | cons p l b=>
  intro i;simp only[Z'];split
  .rename_i e;have:=a p J;rw[<-this,e];exact h i
  .exact b (λq c=>a q (by simp[c])) i
theorem va (i:sp.ZW=some m) (j:sp.top<7) (I:sp.X2=N' β XS o fd) (K:sp.D k Ψ.empty) (M:∀c:ZV,@Κ c prog 143 [Zh Xp,Zq (a,b)] (YQ f))
  (O:∀c:ZV,@Κ c prog 78 [YQ f,R (-1)] (R n)) (P:fd k=if 0<n then some f else none) (Q:∀L:List Nat,L.Nodup->((L.filterMap fd).map YQ).length<=4294967295)
  (T:∃q v,S β q=some v) (U:∀b q v,S b q=some v->XS b q≠none\/β<b) (X:XN S [] [] (GZ s m o Xp a b) (I5 s m o v1 v2 MZ)) {p:Value->Prop} :
  Goes prog p false (born prog ⟨.fn (.func 141) (I5 s m o v1 v2 MZ),#[]⟩) {ZN (T6 s sp) s (.ch k .idle .work) none 0 with G:=TA S}:=by
 letI:ZV:=Yb;have e:Seq (one (ZN (T6 s sp) s (.ch k .idle .work) none 0)):=Seq.Pb trivial rfl rfl;refine Quiet.goes (.cons ⟨rfl,rfl⟩ (λw=>vi ⟨_,func141,rfl,rfl⟩ w) (.nil _)) (.inl rfl) ⟨rfl,rfl⟩ ?_;show Zk prog p false (ZN (T6 s sp) s (.ch k .idle .work) none 0) (Frame.enter prog 141 (I5 s m o v1 v2 MZ) .deferred) [under prog] (TA S);rw[Sa (body:=I4) func141 rfl];refine V.here (x:=one _) (m:=0) (nt:=20) (S:=S) (B:=[]) (σ:=[]) (env:=entry 0 (GZ s m o Xp a b)) ?_ (XE.enter vn X (Z5 _) J) _ rfl;refine V.XB e rfl ?_;simp only[I4,f141,Option.getD_some];refine Y5 ?_;refine W.Zm (.stop ?_);refine V.defer e rfl rfl rfl rfl rfl rfl rfl ⟨_,func142,rfl,rfl⟩ λap Y aq t3 d1 ar Z t aa ab=>?_;obtain rfl:=TI (l:=[ptr s 0]) aa;obtain rfl:Y=[]:=YR.1 t.holds.len;rintro y rfl;refine V.here (x:=one _) (m:=0) (nt:=20) ?_ t _ rfl;refine V.XB e rfl ?_;refine W.ZH ?_;refine Y5 ?_;refine Y4 (A:=[6]) Ρ λau ad=>Z1 ?_;refine Κ.d (M _) (Z1 ?_);apply ad;refine W.fix (id:=0) (σ':=[]) (ω _) rfl J J rfl [(4,.z (ptr m 0)),(5,.z (ptr o 0)),(6,.π (YQ f).cells)] (by simp[entry]) ?_;refine Y5 ?_;refine W.Zm (.stop ?_);refine V.call e ⟨rfl,rfl,by simp[Frame.enter],rfl⟩ rfl rfl rfl ⟨_,func144,rfl,rfl⟩ λav ae aw t4 ax af g ag=>?_;obtain rfl:=TI (l:=[ptr m 0]) ag;obtain rfl:ae=[]:=YR.1 g.holds.len;rintro y rfl;refine v' (C0 i j) g.holds λah ai L E u aj ak al ⟨am,ay,an⟩=>?_;rw[V4 rfl];have C:Ext S [] (TA S) ah [] ai:=Z.ext.trans (af.ext.trans u);obtain⟨ao,az,F⟩:=T;have H:∀b,¬δ.has ([]:δ) b:=λb ⟨N,h⟩=>by simp at h
 exact vb i j I K O P aj ak al an (Q L am) ((vk U).ext C (λb h=>absurd h (H b)) (G4 F)) (C3 C (H β) ⟨ao,_,G4 F⟩)
  (by
   refine YJ.later (N9 (g.put (a:=.z (.tuple #[])) rfl (.z _)).Zn (by simp[Zz])) ⟨u.YO,λid r h=>by simp at h⟩) (g.put (a:=.z (.tuple #[])) rfl (.z _)).size ab
end
end Go.TL
