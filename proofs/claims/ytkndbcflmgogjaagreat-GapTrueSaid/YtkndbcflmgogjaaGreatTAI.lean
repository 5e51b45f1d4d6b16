import Derived.Conc.Own2
import Derived.Test.YtkndbcflmgogjaaGreatTAH
set_option linter.defProp false
set_option maxHeartbeats 16000000
set_option maxRecDepth 20000
set_option linter.unusedSectionVars false
set_option linter.unusedSimpArgs false
set_option linter.unusedVariables false
namespace Go.TL
open Go.IntKind (i32 i64 u32 u64)
open Go.Proofs.Tryz
open Go.Conc Go.Proofs
open Go.ConcN (sumTo upd sumTo_upd upd_ne upd_same sumTo_congr le_sumTo)
noncomputable def zF:Code:=f172.body.getD .skip
noncomputable def Dx:Code:=YN [1,1,0,1,0,0] zF
noncomputable def zE:Zk:=[.inLoop Dx,.inBlock 0]
def qO:∀n<8,0<n->RD .i32 (i32.wrap (Wp 0 0 0 n-8)) 2=Wp 0 1 0 (n-1):=by decide +kernel
def qN:∀b<2,∀c<2,∀n<8,UX .i32 (i32.wrap (Wp 0 b c n+1)) 1=1:=by decide +kernel
abbrev WZ:ζ:=λ_ _=>none
def I9{S b:ζ}{B B':ZZ}{σ σ':Ρ}{env:κ}{t:ZP}(c:∀p∈env,∃v,p.2=Ψ.z v)(h:Y' S B σ env t):Y' b B' σ' env t:=by
 intro i;have d:∀(env:κ),(∀p∈env,∃v,p.2=Ψ.z v)->(∃v,ε env i=.z v)\/ε env i=.Zl:=by
  intro env
  induction env with
  | nil=>exact λ_=>.inr rfl
  | cons p l f=>
   intro h;obtain⟨j,a⟩:=p;simp only[ε];split
   .exact .inl (h (j,a) o)
   exact f λq g=>h q (by simp[g])
 have hi:=h i;rcases d env c with⟨v,e⟩|e
 .rw[e]at hi ⊢;generalize t.getD i undef=u at hi;cases hi;exact .z _
 rw[e];exact .Zl _
def I8(H:Φ):Holds WZ [] [] H:=⟨λb a v h=>(by cases h),rfl,λid r bo h=>(by simp at h),λi j c d b e f _ h=>(by simp at h),λid r b N h=>(by simp at h)⟩
def XG.none{m nt:Nat}{S:ζ}{B:ZZ}{H H':Φ}{env:κ}{t:ZP}(h:XG m nt S B H [] env t)(a:∀p∈env,∃v,p.2=Ψ.z v):XG 0 nt WZ [] H' [] env t:=⟨I8 H',I9 a h.Zt,h.size,Z3 _⟩
section
variable{Q:Value->Prop}{mn:Bool}{x:Z0}{c:Frame}{rest:YM}{S:ζ}{B:ZZ}{σ:Ρ}{H:Φ}{s m k:Nat}{sp:Spec}{v:Option (Nat×Z5)}{t:Tok}
abbrev Dw(Q:Value->Prop)(mn:Bool)(x:Z0)(c:Frame)(rest:YM)(H:Φ)(s m:Nat)(w:Int)(t:Tok)(v:Option (Nat×Z5))(K:Zk)(env:κ):Prop:=
 V prog Q mn (one (ZW x s t v 1)) (Frame.enter prog 172 #[ptr m 0,.int .i32 w] .normal) (c::rest) 43 ⟨WZ,[],H,[],0⟩ K env []
def I7(Q:Value->Prop)(mn:Bool)(x:Z0)(c:Frame)(rest:YM)(H:Φ)(s k d:Nat):Prop:=
 ∀(v:Option (Nat×Z5))(b:ζ)(a:Φ),Ext WZ [] H b [] a->Zx prog Q mn (ZW x s (.ch k .done .work) v d) (c.finish (.tuple #[])) rest a
def Dv(a:Vk x s m sp)(b:I7 Q mn x c rest H s k 1){w:Int}{K:Zk}{env:κ}(e:t=.ch k .done .work):Dw Q mn x c rest H s m w t v (.code .ret::K) env:=by
 letI:Z8:=Yg;have d:=a.seq;subst e;refine V.zV (d _ _ _) U U U U func172 U λf g h i j=>?_;obtain rfl:g=[]:=YY.1 j.len;rintro y rfl;exact b v f h i.ext
def zD(k:Nat)(a:Z5)(t:Tok):Prop:=((a.nw=0\/a.YZ=1\/a.wk=1\/a.sv=1)/\t=.ch k .done .work)\/(0<a.nw/\a.YZ=0/\a.wk=0/\a.sv=0/\t=.ch k .uc .work)
def zC(b:Vk x s m sp)(E:I7 Q mn x c rest H s k 1){w:Int}:∀(N φ:Nat)(a:Z5)(t:Tok),φ<N->a.YZ<=1->a.wk<=1->a.sv<=1->a.nw<7->zD k a t->
  Dw Q mn x c rest H s m w t (some (φ,a)) (.code Dx::zE) [(0,.z (ptr m 0)),(4,.z (.int .i32 (mwd a)))]:=by
 letI:Z8:=Yg;have d:=b.seq;intro N
 induction N with
 | zero=>intro φ a t h;omega
 | succ N ae=>
  intro φ a t ap aq ar au av L;have l:=re a.YZ J a.wk J a.sv J a.nw J;have i:=DD a.YZ J a.wk J a.sv J a.nw J;rw[<-QC]at l i;have M:∀(n:Nat)(e:Z5)(t':Tok),n<N->e.YZ<=1->e.wk<=1->e.sv<=1->e.nw<7->zD k e t'->Dw Q mn x c rest H s m w t' (some (n,e)) zE [(0,.z (ptr m 0)),(4,.z (.int .i32 (mwd e)))]:=λn e t' F p r u O af=>by
   have:=ae n e t' F p r u O af;refine V.Ys (d _ _ _) U ?_;exact W.inLoop (.stop this)
  refine V.Zi (d _ _ _) ?_;unfold Dx zF;refine ZA ?_;rcases L with⟨L,rfl⟩|⟨F,p,r,u,rfl⟩
  .by_cases v:a.nw=0
   .rw[v]at i;refine V0 i ?_;exact .stop (Dv b E U)
   have P:¬UX .i32 (mwd a) 7=0:=by rw[l];omega
   have ag:(UX .i32 (mwd a) 7 != 0)=true:=by simpa using P
   refine V0 (Ξ i (Ξ v (Ξ P ag))) ?_;exact .stop (Dv b E U)
  have v:¬a.nw=0:=J
  have ah:¬(a.nw:Int)=0:=J
  have R:mwd a=Wp 0 0 0 a.nw:=by rw[QC,p,r,u]
  have I:=qO a.nw J F;rw[<-R]at I;rw[p,r,u]at l;refine V0 (Ξ i (Ξ v (Ξ ah l))) ?_;refine W.Zs ?_;refine W.part (A:=[]) Τ [0,1,2,3,4] [5] U λS j=>?_;(try simp);(repeat (rw[Ι];simp[I]));(try simp[I]);apply j;refine W.stop ?_;refine V.Ga (d _ _ _).here (UI _) (sp:=sp) b.spec (by rw[Zn];exact id) b.ZR ⟨⟨U,U,by simp[Frame.enter],U⟩,F6,⟨_,U⟩,U,U,U⟩ (λy f B hv=>.inl ?_) (λy f B hv=>?_)
  .have ai:=B.view φ a QD
   have O:y<φ:=by
    rcases MO y φ with h|h
    .exact h
    exact absurd (by rw[ai.2 J]) hv
   unfold VA;rw[Ug];refine V.Zi (d _ _ _) ?_;refine W.ZK ?_;refine Δ U ?_;refine ZA ?_;refine W.Zs ?_;refine XB [0,1,2] [3,4] ?_;refine W.stop ?_;refine V.Kw (d _ _ _).here (sp:=sp) b.spec (by rw[Zn];exact id) ⟨U,U,by simp[Frame.enter],U⟩ U U U Kv U XL mwd (λa w aj ak=>ak.PT (by rw[aj];exact b.ZR)) (λT g K=>?_);have aw:=K.view y f QD;have C:=K.US.R9;have al:=I' b K.spec;have X:=C.YZ;have Y:=C.wk;have Z:=C.sv;have ax:=C.nw;by_cases aa:g.nw=0\/g.YZ=1\/g.wk=1\/g.sv=1
   .refine .inr ⟨.ch k .done .work,by rw[Zn];exact .wI aa,λab am=>?_⟩;rw[Ww];refine V.Zi (d _ _ _) ?_;refine W.part (A:=[]) Τ [4] [] U λS j=>?_;(try simp);(repeat (rw[Ι];simp));(try simp);apply j;refine W.ZK ?_;refine ZA ?_;refine W.forget [(0,.z (ptr m 0)),(4,.z (.int .i32 (mwd g)))] o (.stop ?_);exact M ab g _ J X Y Z J (.inl ⟨aa,U⟩)
   refine .inl ?_;unfold VA;rw[Ug];refine V.Zi (d _ _ _) ?_;refine W.part (A:=[]) Τ [4] [] U λS j=>?_;(try simp);(repeat (rw[Ι];simp));(try simp);apply j;refine W.ZK ?_;refine ZA ?_;refine W.forget [(0,.z (ptr m 0)),(4,.z (.int .i32 (mwd g)))] o (.stop ?_);exact M T g _ J X Y Z J (.inr ⟨J,J,J,J,U⟩)
  have D:=B.US.R9
  have al:=I' b B.spec
  have f1:=D.YZ;have f2:=D.wk;have f3:=D.sv;have f4:=D.nw
  have f5:f.YZ=0/\f.wk=0/\f.sv=0/\f.nw=a.nw:=by
   rw[R]at hv;simp only[mwd,Wp]at hv;omega
  refine⟨{f with nw:=f.nw-1,wk:=1},.ch k .us .work,?_,U,⟨U,U,U⟩,by rw[Zn];exact .wJ J J J J,λT am=>?_⟩
  .simp[QC,f5]
  rw[Ww];refine V.Zi (d _ _ _) ?_;refine W.ZK ?_;refine Β U ?_;refine ZA ?_;refine W.Zs ?_;refine XB [0,1,2] [3] ?_;refine W.stop ?_;refine V.zW (d _ _ _).here (sp:=sp) b.spec (by rw[Zn];exact id) b.ZR (vs:=[ptr m 1,.bool false,.int .i64 2]) U ⟨⟨U,U,by simp[Frame.enter],U⟩,zO,⟨_,U⟩,U,U,U⟩ (λab ad an=>?_);have ao:=an.US.R9;refine⟨by have:=ao.Yr;omega,{ad with Yr:=ad.Yr+1},.ch k .done .work,U,U,⟨U,U,U⟩,by rw[Zn];exact .post,λay az=>?_⟩;rw[Ww];refine V.Zi (d _ _ _) ?_;refine W.ZK (.stop ?_);exact Dv b E U
def qM(e:Vk x s m sp)(i:I7 Q mn x c rest H s k 1){a:Z5}{φ:Nat}(L:a.toSpec=sp)(l:a.YZ=0)(n:a.wk<=1)(p:a.sv<=1)(r:a.nw<7)
  (v:(a.sv=0/\(a.nw=0\/a.wk=1)/\t=.ch k .done .work)\/(a.sv=0/\0<a.nw/\a.wk=0/\t=.ch k .uc .work)\/(a.sv=1/\t=.ch k .us .work)) :
  Zx prog Q mn (ZW x s t (some (φ,a)) 1) (Frame.enter prog 172 #[ptr m 0,.int .i32 (mwd a)] .normal) (c::rest) H:=by
 letI:Z8:=Yg;have f:=e.seq;have g:=qN a.wk J a.sv J a.nw J;have b:=DG 0 J a.wk J a.sv J a.nw J;have w:mwd a=Wp 0 a.wk a.sv a.nw:=by rw[QC,l]
 rw[<-w]at g b;refine V.PR (z:=one _) (vs:=[ptr m 0,.int .i32 (mwd a)]) (S:=WZ) func172 U (I8 H) (by simp[ntmps172]) ?_ _ U;refine V.Zi (f _ _ _) ?_;rcases v with⟨d,j,rfl⟩|⟨d,j,A,rfl⟩|⟨d,rfl⟩
 .rw[d]at b;refine V0 (Ξ g b) ?_;refine W.loop ?_;refine W.forget [(0,.z (ptr m 0)),(4,.z (.int .i32 (mwd a)))] o (.stop ?_);exact zC e i (φ+1) φ a _ (Qf _) J n p r (.inl ⟨j.imp id λh=>.inr (.inl h),U⟩)
 .rw[d]at b;refine V0 (Ξ g b) ?_;refine W.loop ?_;refine W.forget [(0,.z (ptr m 0)),(4,.z (.int .i32 (mwd a)))] o (.stop ?_);exact zC e i (φ+1) φ a _ (Qf _) J n p r (.inr ⟨j,l,A,d,U⟩)
 rw[d]at b;refine V0 (Ξ g b) ?_;refine W.Zs ?_;refine XB [0,1,2] [3] ?_;refine W.stop ?_;refine V.zW (f _ _ _).here (sp:=sp) e.spec (by rw[Zn];exact id) e.ZR (vs:=[ptr m 1,.bool true,.int .i64 2]) U ⟨⟨U,U,by simp[Frame.enter],U⟩,zO,⟨_,U⟩,U,U,U⟩ (λM u B=>?_);have C:=B.US.R9;refine⟨by have:=C.Yr;omega,{u with Yr:=u.Yr+1},.ch k .done .work,U,U,⟨U,U,U⟩,by rw[Zn];exact .post,λN O=>?_⟩;rw[Ww];refine V.Zi (f _ _ _) ?_;refine W.ZK (.stop ?_);refine V.F9 (f _ _ _) U U U U func172 U λD E F I K=>?_;obtain rfl:E=[]:=YY.1 K.len;rintro y rfl;exact i _ D F I.ext
end
noncomputable def I6:Code:=f128.body.getD .skip
def qL:(prog.funcs[128]?).any (·.norace)=true:=by kernel_rfl
section
variable{Q:Value->Prop}{mn:Bool}{x:Z0}{c:Frame}{rest:YM}{S:ζ}{B:ZZ}{σ:Ρ}{H:Φ}{s m k:Nat}{sp:Spec}{v:Option (Nat×Z5)}{t:Tok}
abbrev zB(Q:Value->Prop)(mn:Bool)(x:Z0)(c:Frame)(rest:YM)(H:Φ)(s m:Nat)(t:Tok)(v:Option (Nat×Z5))(d:Nat)(K:Zk)(env:κ):Prop:=
 V prog Q mn (one (ZW x s t v d)) (Frame.enter prog 128 #[ptr m 0] .normal) (c::rest) 21 ⟨WZ,[],H,[],0⟩ K env []
def zA{c:ζ}{H H':Φ}(h:Ext WZ [] H c [] H'):Ext WZ [] H WZ [] H':=
 ⟨λb d v h=>(by cases h),λb a e=>h.XU b a e,λb a=>h.blocks b a,λb d v h=>(by cases h),h.grow⟩
def zz(b:Vk x s m sp)(d:I7 Q mn x c rest H s k 0){env:κ}:zB Q mn x c rest H s m (.ch k .done .work) v 1 [.code (YN [1,1,1] I6)] env:=by
 letI:Z8:=Yg;have a:=b.seq;refine V.Zi (a _ _ _) ?_;unfold I6;refine W.Zs (.stop ?_);refine V.enable (a _ _ _).here (UI _) ⟨⟨U,U,by simp[Frame.enter],U⟩,O2,⟨_,U⟩,U,U,U⟩ ?_;rw[Jf];refine V.Zi (a _ _ _) ?_;refine W.ZK (.stop ?_);refine V.F9 (a _ _ _) U U U U func128 U λe f g h i=>?_;obtain rfl:f=[]:=YY.1 i.len;rintro y rfl;exact d _ e g h.ext
def qK(d:Vk x s m sp)(Z:Holds S B σ H){L:Z6}
  (aa:∀(I:ζ)(H':Φ),Ext S [] H I [] H'->Holds I [] [] H'->∃g E,Split H' g E/\sp.Yd (L++[k]) E/\I7 Q mn x c rest g s k 0) :
  Zx prog Q mn (ZW x s (.ch k (.YG L) .work) v 0) (Frame.enter prog 128 #[ptr m 0] .normal) (c::rest) H:=by
 letI:Z8:=Yg;have e:=d.seq;refine V.PR (z:=one _) (vs:=[ptr m 0]) func128 U Z (by simp[ntmps128]) ?_ _ U;refine V.Zi (e _ _ _) ?_;refine ZA ?_;refine Β U ?_;refine ZA ?_;refine W.Zs ?_;refine XB [0,1,2] [3] ?_;refine W.stop ?_;refine V.Kw (e _ _ _).here (sp:=sp) d.spec (by rw[Zn];exact id) ⟨U,U,by simp[Frame.enter],U⟩ U U U Kv U qL mwd (λK w n p=>p.PT (by rw[n];exact d.ZR)) (λaE aF aG=>.inl ?_);unfold VA;rw[Ug];refine V.Zi (e _ _ _) ?_;refine W.ZK ?_;refine ZA ?_;refine W.forget [(0,.z (ptr m 0))] o ?_;refine W.Zs ?_;refine XB [0] [1,2] ?_;refine W.stop ?_;refine V.conv (e _ _ _).here (sp:=sp) d.spec (by rw[Zn];exact id) ⟨U,U,by simp[Frame.enter],U⟩ U U U Jd O1 Jc U (λK w n p=>⟨_,p.PT (by rw[n];exact d.ZR)⟩) (λφ K aH=>?_);unfold VA;rw[Ug];refine V.EN d.rel U (sp:=sp) (L:=L) d.spec d.ZR Zn ⟨⟨U,U,by simp[Frame.enter],U⟩,DC,⟨_,U⟩,U,U,U⟩ λab ad g t1 ae r=>?_;obtain rfl:ad=[]:=YY.1 r.holds.len;obtain⟨u,E,af,ag,M⟩:=aa ab g ae.ext r.holds;refine⟨u,E,af,ag,?_⟩;rw[Ww];refine V.here (x:=one _) (S:=WZ) (B:=[]) (σ:=[]) (m:=0) (nt:=21) ?_ (r.none o) _ U;refine V.Zi (e _ _ _) ?_;refine W.ZK ?_;refine ZA ?_;refine W.Zs (.stop ?_);refine V.disable (e _ _ _).here ⟨⟨U,U,by simp[Frame.enter],U⟩,LU,⟨_,U⟩,U,U,U⟩ ?_;rw[Jg];refine V.Zi (e _ _ _) ?_;refine W.ZK ?_;refine ZA ?_;refine W.Zs ?_;refine XB [0,1,2] [3,4] ?_;refine W.stop ?_;refine V.z2 (e _ _ _).here (UI _) (sp:=sp) d.spec (by rw[Zn];exact id) d.ZR ⟨⟨U,U,by simp[Frame.enter],U⟩,zS,⟨_,U⟩,U,U,U⟩ (λaI b C=>?_);have f:=C.US.R9;rw[Zn]at f;have ah:=f.hold U;have aJ:=I' d C.spec;have f1:=f.wk;have f2:=f.sv;have f3:=f.nw;have N:mwd {b with YZ:=0}=i32.wrap (mwd b+-1):=by simp only[mwd,IntKind.wrap_i32,ah];omega
 have O:∀(t:Tok)(P:Nat),(b.sv=0/\(b.nw=0\/b.wk=1)/\t=.ch k .done .work)\/(b.sv=0/\0<b.nw/\b.wk=0/\t=.ch k .uc .work)\/(b.sv=1/\t=.ch k .us .work)->
   zB Q mn x c rest u s m t (some (P,{b with YZ:=0})) 1 [.code (YN [1,1,0] I6),.code (YN [1,1,1] I6)] [(0,.z (ptr m 0)),(2,.z (.int .i32 (mwd {b with YZ:=0})))]:=λt P R=>by
  refine V.Zi (e _ _ _) ?_;unfold I6;refine ZA ?_;by_cases i:mwd {b with YZ:=0}=0
  .refine V0 i ?_;have ai:t=.ch k .done .work:=by
    simp only[mwd]at i;rcases R with⟨_,_,h⟩|⟨_,h,_⟩|⟨h,_⟩
    .exact h
    .omega
    omega
   subst ai;exact .stop (zz d M)
  have aj:(mwd {b with YZ:=0} != 0)=true:=by simpa using i
  refine V0 (Ξ i aj) ?_;refine W.Zs ?_;refine XB [0,1] [2] ?_;refine W.stop ?_;refine V.call (e _ _ _) ⟨U,U,by simp[Frame.enter],U⟩ U U U ⟨_,func172,U,U⟩ λaK ak aL t4 aM al T am=>?_;obtain rfl:=V8 (l:=[ptr m 0,.int .i32 (mwd {b with YZ:=0})]) am;obtain rfl:ak=[]:=YY.1 T.holds.len;rintro y rfl;refine qM d (λaN aO an ao=>?_) (by exact C.spec) U f1 f2 (by show b.nw<7;omega) R;rw[VQ U];have ap:Ext WZ [] u WZ [] an:=(zA al.ext).trans (zA ao);refine V.here (x:=one _) (S:=WZ) (B:=[]) (σ:=[]) (m:=0) (nt:=21) ?_ ((T.put (a:=R4) U (.z _)).none o) _ U;refine V.Zi (e _ _ _) ?_;refine W.ZK (.stop ?_);exact zz d λaq ar au av=>M aq ar au (ap.trans av)
 by_cases X:b.sv=1
 .refine⟨{b with YZ:=0},.ch k .us .work,N,U,⟨U,U,U⟩,by rw[Zn];exact .wK X,λD _=>?_⟩;rw[Ww];refine V.Zi (e _ _ _) ?_;refine W.part (A:=[]) Τ [4] [] U λaw F=>?_;(try simp);(repeat (rw[Ι];simp));(try simp);apply F;refine W.ZK ?_
  first|apply We|apply Wd|apply Wc|apply wd
  refine W.forget [(0,.z (ptr m 0)),(2,.z (.int .i32 (mwd {b with YZ:=0})))] o (.stop ?_);exact O _ D (.inr (.inr ⟨X,U⟩))
 have j:b.sv=0:=J
 have step:∀(t:Tok),(b.sv=0/\(b.nw=0\/b.wk=1)/\t=.ch k .done .work)\/(b.sv=0/\0<b.nw/\b.wk=0/\t=.ch k .uc .work)->Act b (.ch k .fin .work) {b with YZ:=0} t->∃o' t',mwd o'=i32.wrap (mwd b+-1)/\o'.Yr=b.Yr/\Kx b o'/\Act b (.ch k .fin .work) o' t'/\((b.sv=0/\(b.nw=0\/b.wk=1)/\t'=.ch k .done .work)\/(b.sv=0/\0<b.nw/\b.wk=0/\t'=.ch k .uc .work))/\o'={b with YZ:=0}:=λt ax ay=>⟨_,t,N,U,⟨U,U,U⟩,ay,ax,U⟩;obtain⟨o',t',az,aA,aB,aC,aD,rfl⟩:∃o' t',mwd o'=i32.wrap (mwd b+-1)/\o'.Yr=b.Yr/\Kx b o'/\Act b (.ch k .fin .work) o' t'/\((b.sv=0/\(b.nw=0\/b.wk=1)/\t'=.ch k .done .work)\/(b.sv=0/\0<b.nw/\b.wk=0/\t'=.ch k .uc .work))/\o'={b with YZ:=0}:=by
  by_cases Y:b.nw=0\/b.wk=1
  .exact step _ (.inl ⟨j,Y,U⟩) (.wM j Y)
  exact step _ (.inr ⟨j,J,J,U⟩) (.wL j J J)
 refine⟨_,t',az,aA,aB,by rw[Zn];exact aC,λD _=>?_⟩;rw[Ww];refine V.Zi (e _ _ _) ?_;refine W.part (A:=[]) Τ [4] [] U λaw F=>?_;(try simp);(repeat (rw[Ι];simp));(try simp);apply F;refine W.ZK ?_
 first|apply We|apply Wd|apply Wc|apply wd
 refine W.forget [(0,.z (ptr m 0)),(2,.z (.int .i32 (mwd {b with YZ:=0})))] o (.stop ?_);exact O _ D (aD.imp id λh=>.inl h)
def Zx.leaveD[Z8]{P:Program}{Q:Value->Prop}{mn:Bool}{x:Z0}{c b:Frame}{rest:YM}{H:Φ}{t:ZP}{ops:Y5}{fn:Func}(a:Seq (one x))(d:b.mode=.run)(e:b.roundOf=none)(f:b.defers=[])(g:b.kind=.deferred)(i:P.funcs[b.fn]?=some fn)(j:fn.results=#[])
  (k:c.mode=.returning) (h:Zx P Q mn x c rest H):Zx P Q mn x (χ b t [.inRegion ops []]) (c::rest) H:=by
 refine η.ZK (x:=one x) a d (.QR a d e (.HI a U f g i ?_)) x U;rw[results_none j];refine Ω.pure' ?_;simp only[k];intro y l;cases l;exact h
def zy(h:Vk x s m sp)(r:Holds S B σ H)(t:c.mode=.returning){L:Z6}
  (u:∀(j:ζ)(H':Φ),Ext S [] H j [] H'->Holds j [] [] H'->∃d E,Split H' d E/\sp.Yd (L++[k]) E/\∀(v:Option (Nat×Z5))(e:ζ)(b:Φ),Ext WZ [] d e [] b->Zx prog Q mn (ZW x s (.ch k .done .work) v 0) c rest b) :
  Zx prog Q mn (ZW x s (.ch k (.YG L) .work) v 0) (Frame.enter prog 79 #[ptr m 0] .deferred) (c::rest) H:=by
 letI:Z8:=Yg;have f:=h.seq;rw[Ty (body:=f79.body.getD .skip) func79 U];refine V.here (x:=one _) (m:=0) (nt:=6) (env:=entry 0 [.z (ptr m 0)]) ?_ (XG.enter r.bare ⟨U,λi a v g n=>?_⟩ (Z3 _) o) _ U
 .refine V.Ys (f _ _ _) U ?_;simp only[f79,Option.getD_some];refine ZA ?_;refine W.Zs ?_;refine XB [0,1,2] [3] ?_;refine W.stop ?_;refine V.call (f _ _ _) ⟨U,U,by simp[Frame.enter],U⟩ U U U ⟨_,func128,U,U⟩ λR w d t1 T A p hv=>?_;obtain rfl:=V8 (l:=[ptr m 0]) hv;obtain rfl:w=[]:=YY.1 p.holds.len;rintro y rfl;refine qK h p.holds (L:=L) λe b C D=>?_;obtain⟨F,E,I,J,K⟩:=u e b (A.ext.trans C) D;refine⟨F,E,I,J,λM N O P=>?_⟩;rw[VQ U];refine Zx.leaveD (f _ _ _) U U U U func79 U t ?_;exact K M N O P
 cases i with
 | zero=>simp at g n;subst g;subst n;exact .z _
 | succ i=>simp at g
end
structure Uw(x:Z0)(s:Nat)(sp:Spec):Prop where
 rel:x.rel=false
 Z9:x.Z9=λ_=>none
 spec:x.spec s=some sp
 top:sp.top<7
 still:∀a,a≠s->SA (x.tok a)
def Uw.seq{x:Z0}{s:Nat}{sp:Spec}(h:Uw x s sp):∀t v d,@Seq Yg (one (ZW x s t v d)):=λt v d=>@Seq.PV Yg _ trivial h.rel h.Z9
abbrev VF(c w:Nat):Int:=(c:Int)*4294967296+w
def F4:∀c<8,∀w<2,UX .u64 (VF c w) 2147483648=0:=by decide +kernel
def F3:∀c<8,∀w<2,i32.wrap ((VF c w).fdiv (2 ^ min 32 u64.bits))=c:=by decide +kernel
def F2:∀c<8,∀w<2,u32.wrap (UX .u64 (VF c w) 2147483647)=w:=by decide +kernel
def qJ:∀c<7,∀w<2,u64.wrap (VF c w+4294967296)=VF (c+1) w:=by decide +kernel
def qI:∀c<8,∀w<2,0<c->u64.wrap (VF c w+18446744069414584320)=VF (c-1) w:=by decide +kernel
def qH:∀c<8,u64.wrap (VF c 0+1)=VF c 1:=by decide +kernel
def zx:u64.wrap 1=1:=θ
def zw:u64.wrap (2 ^ min 32 u64.bits)=4294967296:=θ
def Du:i32.wrap 1=1:=θ
def Nl(a:Z5):YV a=VF a.cnt a.wt:=rfl
section
variable{Q:Value->Prop}{mn:Bool}{x:Z0}{c:Frame}{rest:YM}{S:ζ}{B:ZZ}{σ:Ρ}{H:Φ}{s k:Nat}{sp:Spec}{v:Option (Nat×Z5)}{t:Tok}
def F1(b:Uw x s sp){a:Z5}(h:a.toSpec=sp):a.top<7:=by have:=b.top;rw[show a.top=sp.top by rw[<-h]];exact this
def Ku(Q:Value->Prop)(mn:Bool)(x:Z0)(c:Frame)(rest:YM)(S:ζ)(H:Φ)(r:Value):Prop:=
 ∀(a:ζ)(H':Φ),Ext S [] H a [] H'->Holds a [] [] H'->Zx prog Q mn x (c.finish r) rest H'
def qG(f:Uw x s sp)(h:¬Xp t){d:Int}(i:Holds S B σ H)
  (j:∀φ a,Seen (ZW x s t v 1) s sp φ a->∃o' t',YV o'=u64.wrap (YV a+d)/\o'.YP=a.YP/\O3 a o'/\Act a t o' t'/\∀b,b<φ->Ku Q mn (ZW x s t' (some (b,o')) 1) c rest S H (.int .u64 (YV o'))) :
  Zx prog Q mn (ZW x s t v 1) (Frame.enter prog 117 #[ptr s 0,.int .u64 d] .normal) (c::rest) H:=by
 letI:Z8:=Yg;have e:=f.seq;refine V.PR (z:=one _) (vs:=[ptr s 0,.int .u64 d]) func117 U i (by simp[ntmps117]) ?_ _ U;refine V.Zi (e _ _ _) ?_;refine V1 ?_;refine W.Zs ?_;refine XB [0,1,2,3] [4,5] ?_;refine W.stop ?_;refine V.DN (e _ _ _).here (UI _) (sp:=sp) f.spec (by rw[Zn];exact h) ⟨⟨U,U,by simp[Frame.enter],U⟩,zR,⟨_,U⟩,U,U,U⟩ (λφ a k=>?_);obtain⟨o',t',l,m,n,o,p⟩:=j φ a k;refine⟨o',t',l,m,n,by rw[Zn];exact o,λb r=>?_⟩;rw[Ww];refine V.Zi (e _ _ _) ?_;refine W.part (A:=[]) Τ [5] [] U λF u=>?_;(try simp);(repeat (rw[Ι];simp));(try simp);apply u;refine W.ZK (.stop ?_);refine V.Oc (e _ _ _) U U U U func117 U U λw C D E g=>?_;obtain rfl:C=[]:=YY.1 g.len;rintro y rfl;exact p b r w D E.ext g
def Dt(l:Uw x s sp)(m:¬Xp t)(n:Holds S B σ H)
  (o:∀φ a,Seen (ZW x s t v 1) s sp φ a->Ku Q mn (ZW x s t (some (φ,a)) 1) c rest S H (.int .u64 (YV a))\/∃t',Act a t a t'/\∀e,e<φ->Ku Q mn (ZW x s t' (some (e,a)) 1) c rest S H (.int .u64 (YV a))) :
  Zx prog Q mn (ZW x s t v 1) (Frame.enter prog 119 #[ptr s 0] .normal) (c::rest) H:=by
 letI:Z8:=Yg;have b:=l.seq;refine V.PR (z:=one _) (vs:=[ptr s 0]) func119 U n (by simp[ntmps119]) ?_ _ U;refine V.Zi (b _ _ _) ?_;refine V1 ?_;refine W.Zs ?_;refine XB [0,1,2] [3,4] ?_;refine W.stop ?_;refine V.DO (b _ _ _).here (UI _) (sp:=sp) l.spec (by rw[Zn];exact m) ⟨⟨U,U,by simp[Frame.enter],U⟩,zQ,⟨_,U⟩,U,U,U⟩ (λφ a p=>(o φ a p).imp (λh=>?_) (λ⟨t',r,u⟩=>⟨t',by rw[Zn];exact r,λe w=>?_⟩))
 .unfold VA;rw[Ug];refine V.Zi (b _ _ _) ?_;refine W.part (A:=[]) Τ [4] [] U λC f=>?_;(try simp);(repeat (rw[Ι];simp));(try simp);apply f;refine W.ZK (.stop ?_);refine V.Oc (b _ _ _) U U U U func119 U U λg i j k d=>?_;obtain rfl:i=[]:=YY.1 d.len;rintro y rfl;exact h g j k.ext d
 rw[Ww];refine V.Zi (b _ _ _) ?_;refine W.part (A:=[]) Τ [4] [] U λC f=>?_;(try simp);(repeat (rw[Ι];simp));(try simp);apply f;refine W.ZK (.stop ?_);refine V.Oc (b _ _ _) U U U U func119 U U λg i j k d=>?_;obtain rfl:i=[]:=YY.1 d.len;rintro y rfl;exact u e w g j k.ext d
def qF(o:Uw x s sp)(p:¬Xp t)(r:Holds S B σ H){e g:Int}
  (u:∀φ a,Seen (ZW x s t v 1) s sp φ a->¬YV a=e->Ku Q mn (ZW x s t (some (φ,a)) 1) c rest S H (.bool false))
  (w:∀φ a,Seen (ZW x s t v 1) s sp φ a->YV a=e->∃o' t',YV o'=g/\o'.YP=a.YP/\O3 a o'/\Act a t o' t'/\∀f,f<φ->Ku Q mn (ZW x s t' (some (f,o')) 1) c rest S H (.bool true)) :
  Zx prog Q mn (ZW x s t v 1) (Frame.enter prog 131 #[ptr s 0,.int .u64 e,.int .u64 g] .normal) (c::rest) H:=by
 letI:Z8:=Yg;have b:=o.seq;refine V.PR (z:=one _) (vs:=[ptr s 0,.int .u64 e,.int .u64 g]) func131 U r (by simp[ntmps131]) ?_ _ U;refine V.Zi (b _ _ _) ?_;refine V1 ?_;refine W.Zs ?_;refine XB [0,1,2,3,4] [5,6] ?_;refine W.stop ?_;refine V.ry (b _ _ _).here (UI _) (sp:=sp) o.spec (by rw[Zn];exact p) ⟨⟨U,U,by simp[Frame.enter],U⟩,q5,⟨_,U⟩,U,U,U⟩ (λφ a i hv=>?_) (λφ a i hv=>?_)
 .have h:=u φ a i hv;unfold VA;rw[Ug];refine V.Zi (b _ _ _) ?_;refine W.part (A:=[]) Τ [6] [] U λC j=>?_;(try simp);(repeat (rw[Ι];simp));(try simp);apply j;refine W.ZK (.stop ?_);refine V.Oc (b _ _ _) U U U U func131 U U λk l m n d=>?_;obtain rfl:l=[]:=YY.1 d.len;rintro y rfl;exact h k m n.ext d
 obtain⟨o',t',D,E,F,I,J⟩:=w φ a i hv;refine⟨o',t',D,E,F,by rw[Zn];exact I,λf K=>?_⟩;rw[Ww];refine V.Zi (b _ _ _) ?_;refine W.part (A:=[]) Τ [6] [] U λC j=>?_;(try simp);(repeat (rw[Ι];simp));(try simp);apply j;refine W.ZK (.stop ?_);refine V.Oc (b _ _ _) U U U U func131 U U λk l m n d=>?_;obtain rfl:l=[]:=YY.1 d.len;rintro y rfl;exact J f K k m n.ext d
end
def XG.Nk{m nt:Nat}{S a:ζ}{B:ZZ}{H H':Φ}{env:κ}{t:ZP}(h:XG m nt S B H [] env t)(b:∀p∈env,∃v,p.2=Ψ.z v)(c:Holds a [] [] H'):XG 0 nt a [] H' [] env t:=⟨c,I9 b h.Zt,h.size,Z3 _⟩
def Zx.Ds[Z8]{P:Program}{d:Value->Prop}{mn:Bool}{x:Z0}{c b:Frame}{rest:YM}{H:Φ}{t:ZP}{k:Zk}{fn:Func}{f:FuncId}(e:Seq (one x))(j:Seq (one {x with deaf:=x.deaf-1}))(hd:0<x.deaf)(g:b.mode=.run)(i:b.roundOf=none)(l:b.defers=[Go.Conc.dcall f #[]])(m:b.kind=.normal)(n:P.funcs[b.fn]?=some fn)(o:fn.results=#[])
  (p:Entry P f (λ_=>do mark .enable;pure Extern.Race.none_)) (h:Zx P d mn {x with deaf:=x.deaf-1} (c.finish (.tuple #[])) rest H):Zx P d mn x (χ b t (.code .ret::k)) (c::rest) H:=by
 refine η.ret (x:=one x) e g i (λy a=>?_) x U;cases a;refine Zx.rn e.here hd g i l p ?_;refine η.back (f:={χ {b with defers:=[]} t (.code .ret::k)with mode:=.returning}) (x:=one {x with deaf:=x.deaf-1}) j U U (.inl m) n ?_ _ U;rw[results_none o];refine Ω.pure' (λy a=>?_);cases a;exact h
section
variable{Q:Value->Prop}{mn:Bool}{x:Z0}{c:Frame}{rest:YM}{S:ζ}{B:ZZ}{σ:Ρ}{H:Φ}{s n p:Nat}{sp:Spec}{v:Option (Nat×Z5)}{t:Tok}
def zv(g:Uw x s sp)(M:n<sp.top)(N:Holds S B σ H)
  (O:∀v,Ku Q mn (ZW x s (.par (n+1) (p+1) .add) v 0) c rest S H (.tuple #[])) :
  Zx prog Q mn (ZW x s (.par n p .add) v 0) (Frame.enter prog 72 #[ptr s 0,.int .i64 1] .normal) (c::rest) H:=by
 letI:Z8:=Yg;have e:=g.seq;refine V.PR (z:=one _) (vs:=[ptr s 0,.int .i64 1]) func72 U N (by simp[ntmps72]) ?_ _ U;refine V.Zi (e _ _ _) ?_;refine V1 ?_;refine W.Zs (.stop ?_);refine V.disable (e _ _ _).here ⟨⟨U,U,by simp[Frame.enter],U⟩,LU,⟨_,U⟩,U,U,U⟩ ?_;rw[Jg];refine V.Zi (e _ _ _) ?_;refine W.ZK ?_;refine ZA ?_;refine W.Zs (.stop ?_);refine V.DL (e _ _ _) ⟨U,U,by simp[Frame.enter],U⟩ U U U ?_;refine V.Zi (e _ _ _) ?_;refine W.ZK ?_;refine V1 ?_;refine W.Zs (.stop ?_);refine V.F8 (e _ _ _) (vs:=[]) ⟨⟨U,U,by simp[Frame.enter],U⟩,zT,⟨_,U⟩,U,U,U⟩ ?_;refine V.Zi (e _ _ _) ?_;refine W.ZK ?_;refine V1 ?_;refine W.Zs ?_;refine W.part (A:=[]) Τ [0,1,2,3,4,5] [6,7] U λP k=>?_;(try simp);(repeat (rw[Ι];simp[zx,zw]));(try simp[zx,zw]);apply k;refine W.stop ?_;refine V.call (e _ _ _) ⟨U,U,by simp[Frame.enter],U⟩ U U U ⟨_,func117,U,U⟩ λan R ao t1 ap T r hv=>?_;obtain rfl:=V8 (l:=[ptr s 0,.int .u64 4294967296]) hv;obtain rfl:R=[]:=YY.1 r.holds.len;rintro y rfl;refine qG g id r.holds λφ f j=>?_;have C:=j.US.Oa;rw[Zn]at C;obtain⟨D,aq,ar,au,X⟩:=C.add n p U;have Y:=F1 g j.spec;have E:n<f.top:=by rw[show f.top=sp.top by rw[<-j.spec]];exact M
 have Z:∀a b c d:Nat,a=b+1->b<=c->c<d->d<7->a<8/\b<7/\0<a/\¬a=0:=λa b c d i av aw ax=>J;obtain⟨cc,t⟩:=ν (f.cnt+1);obtain⟨u,aa,ab,ay⟩:=Z cc f.cnt n f.top t X E Y;have F:YV {f with cnt:=cc}=VF cc 0:=by rw[Nl];simp only[D]
 refine⟨{f with cnt:=cc},.par (n+1) (p+1) .add,?_,U,⟨U,U,U⟩,by rw[t];exact .add E,λaz aA ad ae af ag=>?_⟩
 .rw[F,Nl,D,qJ f.cnt aa 0 θ,t]
 have f1:=F4 cc u 0 θ
 have f2:=F3 cc u 0 θ
 have f3:=F2 cc u 0 θ;rw[F];generalize VF cc 0=w at f1 f2 f3;rw[VQ U];refine V.here (x:=one _) (m:=0) (nt:=117) ?_ ((r.put (a:=.z (.int .u64 w)) U (.z _)).Nk o ag) _ U;have I:∀(v:Option (Nat×Z5))(env:κ)(K:Zk),V prog Q mn (one (ZW x s (.par (n+1) (p+1) .add) v 1)) {Frame.enter prog 72 #[ptr s 0,.int .i64 1] .normal with defers:=[Go.Conc.dcall 112 #[]]} (c::rest) 117 ⟨ad,[],ae,[],0⟩ (.code .ret::K) env []:=λv env K ah ai aj t3 ak L=>by
  rintro y rfl;obtain rfl:ai=[]:=YY.1 L.holds.len;exact Zx.Ds (e _ _ _) (e _ _ 0) (UI _) U U U U func72 U O2 (O v ah aj ((T.ext.trans af).trans ak.ext) L.holds)
 refine V.Zi (e _ _ _) ?_;refine W.part (A:=[]) Τ [7] [] U λP k=>?_;(try simp);(repeat (rw[Ι];simp));(try simp);apply k;refine W.ZK ?_;by_cases i:cc=1
 .refine V0 (Ξ f1 (Ξ f2 (Ξ f3 (Ξ @Du i)))) ?_;refine W.Zs ?_;refine XB [0,1,2] [3,4] ?_;refine W.stop ?_;refine V.conv (e _ _ _).here (sp:=sp) g.spec (by rw[Zn];exact id) ⟨U,U,by simp[Frame.enter],U⟩ U U U zN O1 zM U (λf w aB al=>⟨_,al.Gd⟩) (λφ f j=>?_);unfold VA;rw[Ug];refine V.rA g.rel Zn o ⟨⟨U,U,by simp[Frame.enter],U⟩,q7,⟨_,U⟩,U,U,U⟩ ?_;refine V.Zi (e _ _ _) ?_;refine W.ZK ?_;refine V0 (Ξ f1 (Ξ f2 (Ξ f3 (Ξ @Du i)))) ?_;exact .stop (I _ _ _)
 have am:¬(cc:Int)=1:=λh=>i (by exact_mod_cast h);refine V0 (Ξ f1 (Ξ f2 (Ξ f3 (Ξ @Du (Ξ i (Ξ am ab)))))) ?_;exact .stop (I _ _ _)
end
noncomputable def I5:Code:=f80.body.getD .skip
noncomputable def R3:Code:=YN [1,0,0] I5
noncomputable def LS:Zk:=[.inLoop R3,.inBlock 0]
def zu:UX .u64 0 2147483648=0:=θ
def zt:UX .u64 0 2147483647=0:=θ
def F0:u32.wrap 0=0:=θ
def zs:i32.wrap 0=0:=θ
section
variable{Q:Value->Prop}{mn:Bool}{x:Z0}{c:Frame}{rest:YM}{S:ζ}{B:ZZ}{σ:Ρ}{H:Φ}{s n p:Nat}{sp:Spec}{v:Option (Nat×Z5)}{t:Tok}
abbrev Nj(Q:Value->Prop)(mn:Bool)(x:Z0)(c:Frame)(rest:YM)(S:ζ)(H:Φ)(s:Nat)(t:Tok)(v:Option (Nat×Z5))(d:Nat)(K:Zk)(env:κ):Prop:=
 V prog Q mn (one (ZW x s t v d)) (Frame.enter prog 80 #[ptr s 0] .normal) (c::rest) 84 ⟨S,[],H,[],0⟩ K env []
def OZ(Q:Value->Prop)(mn:Bool)(x:Z0)(c:Frame)(rest:YM)(S:ζ)(H:Φ)(s n:Nat)(sp:Spec):Prop:=
 ∀(d)(H')(e f)(b a),Ext S [] H d [] H'->Holds d [] [] H'->e.Perm (List.range n)->Ta sp.D e b->(sp.ZR≠none->f.Perm (List.range n)/\sp.Yd f a)->(sp.ZR=none->a=Φ.empty)->Apart H' b->Apart H' a->Apart b a->(∃w,Fits H' w/\Fits b w/\Fits a w)->
  ∀(v)(h)(g),Ext WZ [] (join (join H' b) a) h [] g->Zx prog Q mn (ZW x s (.par n 0 .Zg) v 0) (c.finish (.tuple #[])) rest g
def OZ.later{a b}(h:OZ Q mn x c rest S H s n sp)(d:Ext S [] H a [] b):OZ Q mn x c rest a b s n sp:=
 λe H' f g i j k l m o p r t u w y v A B C=>h e H' f g i j (d.trans k) l m o p r t u w y v A B C
def zr(b:Uw x s sp)(d:∀(v)(e)(a),Ext WZ [] H e [] a->Zx prog Q mn (ZW x s (.par n 0 .Zg) v 0) (c.finish (.tuple #[])) rest a){K env}:Nj Q mn x c rest WZ H s (.par n 0 .Zg) v 0 (.code .ret::K) env:=by
 letI:Z8:=Yg;have f:=b.seq;refine V.zV (f _ _ _) U U U U func80 U λg h i j k=>?_;obtain rfl:h=[]:=YY.1 k.len;rintro y rfl;exact d v g i j.ext
def zq(a:Uw x s sp)(e:OZ Q mn x c rest S H s n sp):Nj Q mn x c rest S H s (.par n 0 .RL) v 1 (.code (YN [0,1] R3)::.inBlock 1::LS) [(0,.z (ptr s 0)),(2,.z (.int .u64 0))]:=by
 letI:Z8:=Yg;have b:=a.seq;refine V.Zi (b _ _ _) ?_;unfold R3 I5;refine V0 (Ξ @zu (Ξ @zt (Ξ @F0 @zs))) ?_;refine W.Zs (.stop ?_);refine V.enable (b _ _ _).here (UI _) ⟨⟨U,U,by simp[Frame.enter],U⟩,O2,⟨_,U⟩,U,U,U⟩ ?_;rw[Jf];refine V.Zi (b _ _ _) ?_;apply W.ZK;apply W.Zs;refine XB [0] [1,2] ?_;apply W.stop;refine V.conv (b _ _ _).here a.spec (by rw[Zn];exact id) ⟨U,U,by simp[Frame.enter],U⟩ U U U Dz O1 Dy U (λf w I g=>⟨_,g.Un⟩) (λφ f J=>?_);unfold VA;rw[Ug];refine V.HL a.rel U a.spec Zn (.inl U) ⟨⟨U,U,by simp[Frame.enter],U⟩,Je,⟨_,U⟩,U,U,U⟩ λh i j t1 k l m p r d t u y A B C D E=>?_;rw[Ww];obtain rfl:i=[]:=YY.1 d.holds.len;have F:=e h j k l m p r.ext d.holds t u y A B C D E;refine V.here (x:=one _) ?_ (d.none o) _ U;refine V.Zi (b _ _ _) ?_;apply W.ZK;refine V0 (Ξ @zu (Ξ @zt (Ξ @F0 @zs))) ?_;exact .stop (zr a F)
def qE(d:Uw x s sp)(p:OZ Q mn x c rest S H s n sp):Nj Q mn x c rest S H s (.par n 0 .w4) v 1 (.code (YN [0,1,1,1,1,1,0,1,1,1,1] R3)::.inBlock 1::LS) [(0,.z (ptr s 0))]:=by
 letI:Z8:=Yg;have a:=d.seq;refine V.Zi (a _ _ _) ?_;unfold R3 I5;refine ZA ?_;apply W.Zs;refine XB [0,1,2] [3,4,5] ?_;apply W.stop;refine V.call (a _ _ _) ⟨U,U,by simp[Frame.enter],U⟩ U U U ⟨_,func119,U,U⟩ λh e i t1 ab f b hv=>?_;obtain rfl:=V8 (l:=[ptr s 0]) hv;obtain rfl:e=[]:=YY.1 b.holds.len;rintro y rfl;refine Dt d id b.holds λφ g j=>.inl λad ae r t=>?_;have k:=j.US.Oa;rw[Zn]at k;let ⟨u,af,C⟩:=k.fin n 0 (.inr (.inl U));have D:YV g=0:=by simp only[YV,u,C];rfl
 rw[D,VQ U];have E:=p.later (f.ext.trans r);refine V.here (x:=one _) ?_ ((b.put U (.z _)).Nk o t) _ U;refine V.Zi (a _ _ _) ?_;refine W.part (A:=[]) Τ [4,5] [] U λag F=>?_;(try simp);(repeat (rw[Ι];simp));(try simp);apply F;apply W.ZK;refine V1 ?_;refine W.Zs (.stop ?_);refine V.enable (a _ _ _).here (UI _) ⟨⟨U,U,by simp[Frame.enter],U⟩,O2,⟨_,U⟩,U,U,U⟩ ?_;rw[Jf];refine V.Zi (a _ _ _) ?_;apply W.ZK;apply W.Zs;refine XB [0] [1,2] ?_;apply W.stop;refine V.conv (a _ _ _).here d.spec (by rw[Zn];exact id) ⟨U,U,by simp[Frame.enter],U⟩ U U U Dz O1 Dy U (λg w ah I=>⟨_,I.Un⟩) (λφ g j=>?_);unfold VA;rw[Ug];refine V.HL d.rel U d.spec Zn (.inr U) ⟨⟨U,U,by simp[Frame.enter],U⟩,Je,⟨_,U⟩,U,U,U⟩ λh e i t1 J K L M f b N O P R T X Y Z=>?_;rw[Ww];obtain rfl:e=[]:=YY.1 b.holds.len;have aa:=E h i J K L M f.ext b.holds N O P R T X Y Z;refine V.here (x:=one _) (S:=WZ) (B:=[]) (σ:=[]) (m:=0) (nt:=84) ?_ (b.none o) _ U;refine V.Zi (a _ _ _) ?_;apply W.ZK;refine V1 ?_;exact .stop (zr d aa)
def qD{a b d:Nat}(h:a<=b)(c:b<7):a<8/\a<7:=J
def qC{a b}(h:a<b):¬b=0:=J
def qB(b:Uw x s sp)(f:OZ Q mn x c rest S H s n sp){φ a}:Nj Q mn x c rest S H s (.par n 0 .w3) (some (φ,a)) 1 (.code (YN [0,1,1,1,1,1,0,1,1,1,0] R3)::.code (YN [0,1,1,1,1,1,0,1,1,1,1] R3)::.inBlock 1::LS) [(0,.z (ptr s 0)),(5,.z (.bool false))]:=by
 letI:Z8:=Yg;have d:=b.seq;have woken:∀v,Nj Q mn x c rest S H s (.par n 0 .w4) v 1 (.code (YN [0,1,1,1,1,1,0,1,1,1,1] R3)::.inBlock 1::LS) [(0,.z (ptr s 0))]:=λv=>qE b f;refine V.Zi (d _ _ _) ?_;unfold R3 I5;apply W.Zs;refine XB [0,1,2,3] [4] ?_;apply W.stop;refine V.ru (d _ _ _).here b.spec (by rw[Zn];exact id) (vs:=[ptr s 1,.bool false]) U (λg e=>by rw[Nm e];exact b.still g e) ⟨⟨U,U,by simp[Frame.enter],U⟩,q0,⟨_,U⟩,U,U,U⟩ (λi a j h=>by rw[Zn];exact h) (λi a j h=>?_);refine⟨{a with YP:=a.YP-1},.par n 0 .w4,U,U,⟨U,U,U⟩,by rw[Zn];exact .wake h,λk l=>?_⟩;rw[Ww];refine V.Zi (d _ _ _) ?_;apply W.ZK;refine W.forget [(0,.z (ptr s 0))] o (.stop ?_);exact woken _
def qA(f:Uw x s sp):∀(N φ)(b)(S) H,φ<N->b.toSpec=sp->0<b.cnt->b.cnt<=b.top->b.wt=0->OZ Q mn x c rest S H s n sp->
  Nj Q mn x c rest S H s (.par n 0 .add) (some (φ,b)) 1 (.code (YN [0,1] R3)::.inBlock 1::LS) [(0,.z (ptr s 0)),(2,.z (.int .u64 (YV b)))]:=by
 letI:Z8:=Yg;have e:=f.seq;intro N
 induction N with
 | zero=>intro φ b S H h;exact absurd h (Nat.not_lt_zero _)
 | succ N ai=>
  intro φ b S H aj P R ak al g;have am:=F1 f P;let ⟨k,aE⟩:=qD (d:=0) ak am;have f1:=F4 b.cnt k 0 θ;have f2:=F3 b.cnt k 0 θ;have f3:=F2 b.cnt k 0 θ;have f4:=qH b.cnt k;have T:YV b=VF b.cnt 0:=by rw[Nl,al]
  have X:=qC R
  have an:¬b.cnt=0:=λh=>X (by exact_mod_cast h);rw[<-T]at f1 f2 f3 f4;have sleep:∀(S H)(φ)(b),OZ Q mn x c rest S H s n sp->Nj Q mn x c rest S H s (.par n 0 .w3) (some (φ,b)) 1 (.code (YN [0,1,1,1,1,1,0,1,1,1,0] R3)::.code (YN [0,1,1,1,1,1,0,1,1,1,1] R3)::.inBlock 1::LS) [(0,.z (ptr s 0)),(5,.z (.bool false))]:=λS H φ b g=>qB f g;have ao:∀(S H v),OZ Q mn x c rest S H s n sp->Nj Q mn x c rest S H s (.par n 0 .RL) v 1 (.code (YN [0,1] R3)::.inBlock 1::LS) [(0,.z (ptr s 0)),(2,.z (.int .u64 0))]:=λS H v g=>zq f g;refine V.Zi (e _ _ _) ?_;unfold R3 I5;refine V0 (Ξ f2 (Ξ f3 (Ξ X an))) ?_;apply W.Zs;refine W.part (A:=[]) Τ [0,1,2,3,4,5] [6] U λY i=>?_;(try simp);(repeat (rw[Ι];simp[f4]));(try simp[f4]);apply i;apply W.stop;refine V.call (e _ _ _) ⟨U,U,by simp[Frame.enter],U⟩ U U U ⟨_,func131,U,U⟩ λaF ap aG t1 aH Z p hv=>?_;obtain rfl:=V8 (l:=[ptr s 0,.int .u64 (YV b),.int .u64 (VF b.cnt 1)]) hv;obtain rfl:ap=[]:=YY.1 p.holds.len;rintro y rfl;refine qF f id p.holds (λr t u hv aq ar E F=>?_) (λr t u hv=>?_)
  .have aa:=u.view φ b QD
   have au:r<N:=by
    rcases MO r φ with h|h
    .exact J7 h (Nat.le_of_lt_succ aj)
    exact absurd (by rw[aa.2 (Nat.le_antisymm aa.1 h)]) hv
   have B:=g.later (Z.ext.trans E);rw[VQ U];refine V.here (x:=one _) (nt:=84) ?_ ((p.put (a:=.z (.bool false)) U (.z _)).Nk o F) _ U;refine V.Zi (e _ _ _) ?_;apply W.ZK;apply Δ U;refine ZA ?_;apply W.inLoop;apply W.forget [(0,.z (ptr s 0))] o;refine ZA ?_;apply W.Zs;refine XB [0,1,2] [3,4] ?_;apply W.stop;refine V.call (e _ _ _) ⟨U,U,by simp[Frame.enter],U⟩ U U U ⟨_,func119,U,U⟩ λaI av aJ t3 aK ab C aw=>?_;obtain rfl:=V8 (l:=[ptr s 0]) aw;obtain rfl:av=[]:=YY.1 C.holds.len;rintro y rfl;refine Dt f id C.holds λad j I=>?_;have J:=I.US.Oa;rw[Zn]at J;let ⟨D,ax,ay,az,aA⟩:=J.add n 0 U;have aB:=I.view r t QD;by_cases K:j.cnt=0
   .refine .inr ⟨.par n 0 .RL,.thru K,λaL aM ae af L M=>?_⟩;have aC:YV j=0:=by simp only[YV,D,K];rfl
    rw[aC,VQ U];have O:=B.later (ab.ext.trans L);refine V.here (x:=one _) (m:=0) (nt:=84) ?_ ((C.put (a:=.z (.int .u64 0)) U (.z _)).Nk o M) _ U;refine V.Zi (e _ _ _) ?_;refine W.part (A:=[]) Τ [4] [] U λY i=>?_;(try simp);(repeat (rw[Ι];simp));(try simp);apply i;apply W.ZK;refine W.forget [(0,.z (ptr s 0)),(2,.z (.int .u64 0))] o (.stop ?_);exact ao _ _ _ O
   refine .inl λae af L M=>?_;rw[VQ U];have O:=B.later (ab.ext.trans L);refine V.here (x:=one _) (m:=0) (nt:=84) ?_ ((C.put (a:=.z (.int .u64 (YV j))) U (.z _)).Nk o M) _ U;refine V.Zi (e _ _ _) ?_;refine W.part (A:=[]) Τ [4] [] U λY i=>?_;(try simp);(repeat (rw[Ι];simp));(try simp);apply i;apply W.ZK;refine W.forget [(0,.z (ptr s 0)),(2,.z (.int .u64 (YV j)))] o (.stop ?_);exact ai ad j ae af (Ll aB.1 au) I.spec (Nat.pos_of_ne_zero K) J.cnt D O
  have ag:=u.US.Oa;rw[Zn]at ag;let ⟨D,ax,ay,az,aA⟩:=ag.add n 0 U;have ah:t.cnt=b.cnt:=by rw[T,Nl,D]at hv;simp only[VF]at hv;omega
  refine⟨{t with wt:=1},.par n 0 .w3,?_,U,⟨U,U,U⟩,.Cb (by rw[ah];exact R),λad aN aq ar E F=>?_⟩
  .rw[Nl];simp only[ah]
  rw[VQ U];have B:=g.later (Z.ext.trans E);refine V.here (x:=one _) (m:=0) (nt:=84) ?_ ((p.put (a:=.z (.bool true)) U (.z _)).Nk o F) _ U;refine V.Zi (e _ _ _) ?_;apply W.ZK;apply Β U;refine V1 ?_;apply W.Zs;refine XB [0,1,2] [3,4] ?_;apply W.stop;refine V.conv (e _ _ _).here (sp:=sp) f.spec (by rw[Zn];exact id) ⟨U,U,by simp[Frame.enter],U⟩ U U U zN O1 zM U (λb w P aD=>⟨_,aD.Gd⟩) (λφ b u=>?_);unfold VA;rw[Ug];refine V.rz f.rel Zn o ⟨⟨U,U,by simp[Frame.enter],U⟩,q6,⟨_,U⟩,U,U,U⟩ ?_;refine V.Zi (e _ _ _) ?_;apply W.ZK;refine V0 f1 ?_;refine W.forget [(0,.z (ptr s 0)),(5,.z (.bool false))] o (.stop ?_);exact sleep _ _ _ _ B
def Dr(e:Uw x s sp)(F:Holds S B σ H)(r:OZ Q mn x c rest S H s n sp) :
  Zx prog Q mn (ZW x s (.par n 0 .add) v 0) (Frame.enter prog 80 #[ptr s 0] .normal) (c::rest) H:=by
 letI:Z8:=Yg;have b:=e.seq;refine V.PR (z:=one _) func80 U F (by simp[ntmps80]) ?_ _ U;refine V.Zi (b _ _ _) ?_;refine V1 ?_;refine W.Zs (.stop ?_);refine V.disable (b _ _ _).here ⟨⟨U,U,by simp[Frame.enter],U⟩,LU,⟨_,U⟩,U,U,U⟩ ?_;rw[Jg];refine V.Zi (b _ _ _) ?_;apply W.ZK;refine ZA ?_;apply W.loop;refine ZA ?_;apply W.Zs;refine XB [0,1,2] [3,4] ?_;apply W.stop;refine V.call (b _ _ _) ⟨U,U,by simp[Frame.enter],U⟩ U U U ⟨_,func119,U,U⟩ λM I N t3 O t f J=>?_;obtain rfl:=V8 (l:=[ptr s 0]) J;obtain rfl:I=[]:=YY.1 f.holds.len;rintro y rfl;refine Dt e id f.holds λu d w=>?_;have g:=w.US.Oa;rw[Zn]at g;let ⟨C,P,R,T,X⟩:=g.add n 0 U;by_cases h:d.cnt=0
 .refine .inr ⟨.par n 0 .RL,.thru h,λY Z D E i j=>?_⟩;have K:YV d=0:=by simp only[YV,C,h];rfl
  rw[K,VQ U];have k:=r.later (t.ext.trans i);refine V.here (x:=one _) ?_ ((f.put U (.z _)).Nk o j) _ U;refine V.Zi (b _ _ _) ?_;refine W.part (A:=[]) Τ [4] [] U λL p=>?_;(try simp);(repeat (rw[Ι];simp));(try simp);apply p;apply W.ZK;refine W.forget [(0,.z (ptr s 0)),(2,.z (.int .u64 0))] o (.stop ?_);exact zq e k
 refine .inl λD E i j=>?_;rw[VQ U];have k:=r.later (t.ext.trans i);refine V.here (x:=one _) (m:=0) (nt:=84) ?_ ((f.put (a:=.z (.int .u64 (YV d))) U (.z _)).Nk o j) _ U;refine V.Zi (b _ _ _) ?_;refine W.part (A:=[]) Τ [4] [] U λL p=>?_;(try simp);(repeat (rw[Ι];simp));(try simp);apply p;apply W.ZK;refine W.forget [(0,.z (ptr s 0)),(2,.z (.int .u64 (YV d)))] o (.stop ?_);exact qA e (u+1) u d D E (Qf _) w.spec (Nat.pos_of_ne_zero h) g.cnt C k
end
end Go.TL
namespace Go.TL
open Go.IntKind (i32 i64 u32 u64)
open Go.Proofs.Tryz
open Go.Conc Go.Proofs
open Go.ConcN (sumTo upd sumTo_upd upd_ne upd_same sumTo_congr le_sumTo)
variable[Z8]
def Y4.Kt:Y4->Ψ->Prop
 | .ok a,b=>a=b
 | .Zw p r,b=>p/\r.Kt b
 | .bad,_=>False
def UR(P:Program){α}(s:Sem α)(a:α):Prop:=∀w,s.run P w=.ok a w/\∀es,s.events P w es=es
section
variable{P:Program}{T:ZY}{α β:Type}
def UR.pure(a:α):UR P (Pure.pure a) a:=λw=>⟨o,λes=>o⟩
def UR.bind{s}{f:α->Sem β}{a b}(h:UR P s a)(k:UR P (f a) b):UR P (s >>= f) b:=λw=>⟨by simp[(h w).1,(k w).1],λes=>by simp[(h w).1,(h w).2,(k w).2]⟩
def UR.program:UR P Go.program P:=λw=>⟨o,λes=>o⟩
def UR.underlying{t d}(h:P.underlying t=some d):UR P (Go.underlying t) d:=λw=>⟨run_underlying h w,λes=>o⟩
def UR.sizeOf{t i}(hi:P.info? t=some i):UR P (Go.sizeOf t) i.size:=by
 unfold Go.sizeOf Go.typeInfo;refine UR.bind (UR.bind .program ?_) (UR.pure _);rw[hi];exact .pure _
def qz{op ty p q x y v}(h:(Ox op x y).Kt (.z v)):UR P (do eqGuard op ty p q x y;binOp op ty x y) v:=by
 unfold Ox at h;split at h
 case h_25=>exact h.elim
 case h_1=>
  let ⟨a,b⟩:=h;cases b;have c:=MM.2 a;simp[eqGuard,binOp,Op.shift,c,if_false];exact .pure _
 case h_2=>
  let ⟨a,b⟩:=h;cases b;have c:=MM.2 a;simp[eqGuard,binOp,Op.shift,c,if_false];exact .pure _
 case h_6=>
  split at h
  .rename_i e;subst e;let ⟨a,b⟩:=h;cases b;simp[eqGuard,binOp,Op.intDiv,a,if_false,ne_eq,not_true_eq_false];exact .pure _
  exact h.elim
 case h_7=>
  split at h
  .rename_i e;subst e;let ⟨a,b⟩:=h;cases b;simp[eqGuard,binOp,Op.intDiv,a,if_false,ne_eq,not_true_eq_false];exact .pure _
  exact h.elim
 case h_18=>
  let ⟨a,b⟩:=h;cases b;have c:¬(_ > i64.max):=MM.2 a;simp only[eqGuard,binOp,Op.stringOp,c,if_false];exact .pure _
 all_goals first
  |(cases h;exact .pure _)
  |(split at h
    .rename_i e;subst e;cases h;simp only[eqGuard,binOp,Op.intArith,Op.intBits,Op.intCmp,ne_eq,not_true_eq_false,if_false];exact .pure _
    exact h.elim)
def Ks(T:ZY)(env:κ)(e:Oper):Y4:=match e.op with
 | .move x=>.ok (π env x)
 | .assign x=>.ok (π env x)
 | .pick c a b=>KO (π env c) (π env a) (π env b)
 | .binOp g _ x y _=>match π env x,π env y with
  | .z a,.z b=>Ox g a b
  | _,_=>.bad
 | .unOp g _ x=>K5 g (π env x)
 | .convert s d x=>KT T s d (π env x)
 | .nilCheck x=>match π env x with
  | .z (.pointer (some a))=>.ok (.z (.pointer (some a)))
  | _=>.bad
 | .fieldAddr h x f=>match π env x with
  | .z (.pointer (some ⟨b,o',none⟩))=>match Yp T h f with|some (e,_)=>.ok (.z (.pointer (some ⟨b,o'+e,none⟩)))|none=>.bad
  | _=>.bad
 | _=>.bad
def qy(m:ZH P T){env w v}(h:(Ks T env w).Kt (.z v)){ρ}(d:∀y u,π env y=.z u->ρ y=u):UR P (execOp ρ w) (.value v):=by
 have l:∀{s}{u},UR P s u->UR P (do Pure.pure (Next.value (<-s))) (.value u):=λA=>.bind A (.pure _);unfold Ks at h;unfold execOp;split at h<;>rename_i B<;>first|(rw[B];simp only)|exact h.elim
 .rw[d _ _ h];exact .pure _
 .rw[d _ _ h];exact .pure _
 .rename_i c a b;unfold KO at h;split at h
  .rename_i o C;rw[d _ _ C];apply UR.bind (a:=o) (UR.pure _);split at h
   .rename_i y z p D;cases h;rw[d _ _ p,d _ _ D];cases o<;>exact .pure _
   cases o with
   | true=>rw[d a v h];exact .pure _
   | false=>rw[d b v h];exact .pure _
  exact h.elim
 .split at h
  .rename_i x y g p;rw[d _ _ g,d _ _ p];exact l (qz h)
  exact h.elim
 .unfold K5 at h;split at h
  .rename_i o r;rw[d _ _ r];split at h
   .cases h;exact l (.pure _)
   exact h.elim
  .rename_i k n r;rw[d _ _ r];split at h
   .cases h;exact l (.pure _)
   exact h.elim
  exact h.elim
 .unfold KT at h;split at h
  .rename_i i j hi E;split at h
   .rename_i k kk n t g;cases h;rw[d _ _ g];apply l;unfold convert;refine .bind (.underlying (m _ _ hi).1.1) (.bind (.underlying (m _ _ E).1.1) ?_);rw[t];exact .pure _
   exact h.elim
  exact h.elim
 .split at h
  .rename_i a g;cases h;rw[d _ _ g];exact .pure _
  exact h.elim
 split at h
 .rename_i b o' g;rw[d _ _ g];split at h
  .rename_i K L e;cases h;apply l;unfold Yp at e;split at e<;>try cases e
   rename_i i hi;split at e<;>try cases e
   rename_i M t;split at e<;>try cases e
   rename_i x g;split at e<;>try cases e
   rename_i N F;split at e<;>try cases e
   rename_i H;unfold Instr.fieldAt;refine .bind (.underlying (m _ _ hi).1.1) ?_;rw[t];simp[g];refine .bind (.pure _) ?_;let ⟨f,I,J,_⟩:=(m _ _ F).2;refine .bind ?_ (.pure _);unfold fieldPlace;refine .bind (.sizeOf I) ?_;rw[J,if_neg H,Pk];exact .pure _
  exact h.elim
 exact h.elim
end
def qx(vs:List Value){nt}(d:vs.length<=nt):Y' WZ [] [] (entry 0 (vs.map Ψ.z)) (vs.toArray++Array.replicate (nt-vs.length) undef):=by
 have e:XF WZ [] [] (vs.map Ψ.z) vs.toArray:=⟨o,λi a v b c=>by
  simp only[YK,List.getElem?_toArray]at b c;rw[c]at b;cases b;exact .z v⟩
 have:=(XG.enter (I8 Φ.empty) e (Z3 _) (by simpa using d)).Zt;simpa using this
def Dq(P:Program)(mn:Bool)(a:Goroutine->Prop):Prop:=∀g g',Ve g->(∀w,stepG P mn g w=.go g' w #[])->a g'->a g
def Ε(a:Goroutine->Prop)(b:Frame)(cs:YM)(nt:Nat)(k:Zk)(env:κ):Prop:=∀t,t.size=nt->Y' WZ [] [] env t->a (Go.Conc.G (χ b t k) cs)
def Sn(T:ZY)(nt:Nat)(ops:Y5):Z6->κ->(κ->Prop)->Prop
 | [],env,K=>K env
 | i::is,env,K=>WX ops[i]? λa=>WA nt a=true/\WX (XE env ops a) λw=>
   Wh w (Sn T nt ops is (Zr a env .Zl) K) (∃v,(Ks T env a).Kt (.z v)/\Sn T nt ops is (Zr a env (.z v)) K)
def LR{T nt ops env K}:Sn T nt ops [] env K=K env:=X3 rfl rfl
def LQ(T:ZY)(nt:Nat)(ops:Y5)(is:Z6)(a:Oper)(env:κ)(K:κ->Prop):Y4->Prop
 | .ok (.z v)=>Sn T nt ops is (Zr a env (.z v)) K
 | .Zw p (.ok (.z v))=>p/\Sn T nt ops is (Zr a env (.z v)) K
 | _=>False
def qw{T nt ops is a env K v}:LQ T nt ops is a env K (.ok (.z v))=Sn T nt ops is (Zr a env (.z v)) K:=X3 rfl rfl
def qv{T nt ops is a env K v p}:LQ T nt ops is a env K (.Zw p (.ok (.z v)))=(p/\Sn T nt ops is (Zr a env (.z v)) K):=X3 rfl rfl
def qu{T:ZY}{nt:Nat}{ops:Y5}{is:Z6}{a:Oper}{env:κ}{K:κ->Prop}{r r':Y4}(h:r=r'):LQ T nt ops is a env K r=LQ T nt ops is a env K r':=by rw[h]
def qt{T nt ops is a env K r}(h:LQ T nt ops is a env K r):∃v,r.Kt (.z v)/\Sn T nt ops is (Zr a env (.z v)) K:=by
 unfold LQ at h;split at h
 .exact⟨_,U,h⟩
 .exact⟨_,⟨h.1,U⟩,h.2⟩
 exact h.elim
def Wo{T nt ops i is env K}(h:WX ops[i]? λa=>WA nt a=true/\WX (XE env ops a) λw=>Wh w (Sn T nt ops is (Zr a env .Zl) K) (LQ T nt ops is a env K (Ks T env a))):Sn T nt ops (i::is) env K:=by
 unfold Sn;unfold WX at h ⊢;split at h
 .exact h.elim
 rename_i a b;refine⟨h.1,?_⟩
 replace h:=h.2
 split at h
 .exact h.elim
 rename_i w c;exact⟨h.1,λe=>qt (h.2 e)⟩
section
variable{P:Program}{T:ZY}{mn:Bool}{Yb:Goroutine->Prop}{b:Frame}{cs:YM}{nt:Nat}{k:Zk}{env:κ}{ops:Y5}{i:Nat}{rest:Z6}{op:Oper}
variable(WO:Dq P mn Yb)(hb:b.mode=.run)
include WO hb
theorem Ε.to{a}(c:∀t w,stepG.exec P mn true (χ b t k) cs none w=.go (Go.Conc.G (χ b t a) cs) w #[])(h:Ε Yb b cs nt a env):Ε Yb b cs nt k env:=
 λt d e=>WO _ _ ⟨U,U⟩ (λw=>(UZ hb w).trans (c t w)) (h t d e)
theorem Ε.skip(h:Ε Yb b cs nt k env):Ε Yb b cs nt (.code .skip::k) env:=.to WO hb (λ_ _=>rfl) h
theorem Ε.inBlock{l}(h:Ε Yb b cs nt k env):Ε Yb b cs nt (.inBlock l::k) env:=.to WO hb (λ_ _=>rfl) h
theorem Ε.seq{a c}(h:Ε Yb b cs nt (.code a::.code c::k) env):Ε Yb b cs nt (.code (.seq a c)::k) env:=.to WO hb (λ_ _=>rfl) h
theorem Ε.block{l c}(h:Ε Yb b cs nt (.code c::.inBlock l::k) env):Ε Yb b cs nt (.code (.block l c)::k) env:=.to WO hb (λ_ _=>rfl) h
theorem Ε.loop{c}(h:Ε Yb b cs nt (.code c::.inLoop c::k) env):Ε Yb b cs nt (.code (.loop c)::k) env:=.to WO hb (λ_ _=>rfl) h
theorem Ε.inLoop{c}(h:Ε Yb b cs nt (.code c::.inLoop c::k) env):Ε Yb b cs nt (.inLoop c::k) env:=.to WO hb (λ_ _=>rfl) h
theorem Ε.Zs{id ops}(h:Ε Yb b cs nt (.inRegion ops (idx ops.size [])::k) env):Ε Yb b cs nt (.code (.region id ops false)::k) env:=.to WO hb (λ_ _=>by rw[idx_eq];rfl) h
theorem Ε.ZK{ops}(h:Ε Yb b cs nt k env):Ε Yb b cs nt (.inRegion ops []::k) env:=.to WO hb (λ_ _=>rfl) h
theorem Ε.exit{l a}(c:exitTo l k=some a)(h:Ε Yb b cs nt a env):Ε Yb b cs nt (.code (.exit l)::k) env:=by
 refine .to WO hb (λt w=>?_) h;unfold stepG.exec;simp[χ,c];rfl
theorem Ε.cond{c a e v}(g:π env c=.z (.bool v))(h:Ε Yb b cs nt (.code (if v then a else e)::k) env):Ε Yb b cs nt (.code (.cond c a e)::k) env:=by
 intro t i d;refine WO _ _ ⟨U,U⟩ (λw=>?_) (h t i d);rw[UZ hb w];have f:(χ b t (.code (.cond c a e)::k)).eval c=.bool v:=by rw[JM];exact Ji d g
 unfold stepG.exec;simp[χ]at f ⊢;rw[f];rfl
theorem Ε.Sm{c a e}(d:π env c=.z (.bool true))(h:Ε Yb b cs nt (.code a::k) env):Ε Yb b cs nt (.code (.cond c a e)::k) env:=.cond WO hb d h
theorem Ε.Sl{c a e}(d:π env c=.z (.bool false))(h:Ε Yb b cs nt (.code e::k) env):Ε Yb b cs nt (.code (.cond c a e)::k) env:=.cond WO hb d h
theorem Dp{t}(h:Y' WZ [] [] env t)(hd:WA nt op=true)(b:t.size=nt){a v}(c:Θ WZ [] [] a v):(put op t v).size=nt/\Y' WZ [] [] (Zr op env a) (put op t v):=⟨(Pb h hd b c).2,(Pb h hd b c).1⟩
theorem Ε.unwanted(a:ops[i]?=some op)(d:XE env ops op=some false)(hd:WA nt op=true)(h:Ε Yb b cs nt (.inRegion ops rest::k) (Zr op env .Zl)):Ε Yb b cs nt (.inRegion ops (i::rest)::k) env:=by
 intro t e c;let ⟨f,g⟩:=Dp WO hb c hd e (v:=undef) (.Zl _);refine WO _ _ ⟨U,U⟩ (λw=>?_) (h _ f g);rw[UZ hb,<-VQ a];have j:((ops[i]?).map (Region.wanted · (yielded ops t))).getD false=false:=by simp[a,Uk c d]
 unfold stepG.exec;simp[χ,j];rfl
theorem Ε.opn(f:ZH P T)(d:b.roundOf=none)(g:b.kind≠.early)(j:ops[i]?=some op)(l:XE env ops op=some true)(hd:WA nt op=true){v}(hv:(Ks T env op).Kt (.z v))(h:Ε Yb b cs nt (.inRegion ops rest::k) (Zr op env (.z v))):Ε Yb b cs nt (.inRegion ops (i::rest)::k) env:=by
 intro t m c;let ⟨n,o⟩:=Dp WO hb c hd m (.z v);refine WO _ _ ⟨U,U⟩ (λw=>?_) (h _ n o);have e:=qy f hv λy u p=>Ji c p;rw[Xa hb d,Xa hb d,<-Od,stepG_value (a:=⟨t,b.defers⟩) j (Uk c l) g (by rw[Uy];exact(e w).1)];unfold listed;rw[Uy,(e w).2,seen_none]
theorem Ε.part(g:ZH P T)(j:b.roundOf=none)(m:b.kind≠.early)(is a){l}(n:l=is++a)(h:∀c,(∀env,Ε Yb b cs nt (.inRegion ops a::k) env->c env)->Sn T nt ops is env c):Ε Yb b cs nt (.inRegion ops l::k) env:=by
 subst n;have o:∀(is)(env),Sn T nt ops is env (λenv=>Ε Yb b cs nt (.inRegion ops a::k) env)->Ε Yb b cs nt (.inRegion ops (is++a)::k) env:=by
  intro is
  induction is with
  | nil=>intro env h;exact h
  | cons i is d=>
   intro env h;unfold Sn WX at h;split at h
   .exact h.elim
   rename_i s e;let ⟨hd,h⟩:=h;split at h
   .exact h.elim
   rename_i w f;cases w with
   | false=>exact .unwanted WO hb e f hd (d _ (h.1 rfl))
   | true=>
    let ⟨v,p,r⟩:=h.2 U;exact .opn WO hb g j m e f hd p (d _ r)
 exact o is env (h _ λ_ h=>h)
theorem Ε.region(c:ZH P T)(d:b.roundOf=none)(e:b.kind≠.early){id}(h:∀a,(∀env,Ε Yb b cs nt k env->a env)->Sn T nt ops (idx ops.size []) env a):Ε Yb b cs nt (.code (.region id ops false)::k) env:=by
 refine .Zs WO hb (.part WO hb c d e (idx ops.size []) [] o λa f=>h a λenv g=>f env (.ZK WO hb g))
theorem Ε.F8(c:SV b ops i op)(d:XE env ops op=some true)(hd:WA nt op=true){f args e}(g:op.op=.call ⟨.value (.func f),args,e⟩){v}(j:Entry P f (λ_=>pure v))(h:Ε Yb b cs nt (.inRegion ops rest::k) (Zr op env (.z v))):Ε Yb b cs nt (.inRegion ops (i::rest)::k) env:=by
 intro t l a;let ⟨m,n⟩:=Dp WO hb a hd l (.z v);exact WO _ _ ⟨U,U⟩ (λw=>Gg j c (Uk a d) g U o o o) (h _ m n)
theorem Ε.DL(c:SV b ops i op)(e:XE env ops op=some true)(g:op.dst=none){f j}(l:op.op=.defer ⟨.value (.func f),#[],j⟩)
  (h:Ε Yb {b with defers:=Go.Conc.dcall f #[]::b.defers} cs nt (.inRegion ops rest::k) env):Ε Yb b cs nt (.inRegion ops (i::rest)::k) env:=by
 intro t m d;refine WO _ (Go.Conc.G (χ {b with defers:=Go.Conc.dcall f #[]::b.defers} t (.inRegion ops rest::k)) cs) ⟨U,U⟩ (λw=>?_) (h t m d);rw[Xa c.run c.ro,stepG_defer (a:=⟨t,b.defers⟩) c.op (Uk d e) c.kd l];have:(⟨t,Go.Conc.dcall f #[]::b.defers⟩:_root_.Go.Act).put op.dst undef=⟨t,Go.Conc.dcall f #[]::b.defers⟩:=by rw[g];rfl
 simp[List.map_toArray];rw[this,Xa (b:={b with defers:=Go.Conc.dcall f #[]::b.defers}) c.run c.ro];rfl
theorem Ε.call(a:SV b ops i op)(n:XE env ops op=some true){args o g}(p:op.op=.call ⟨.value (.func g),args,o⟩){vs}(r:Jj env args vs){fn body}(j:P.funcs[g]?=some fn)(s:(fn.name == "runtime.NumGoroutine")=false)(c:fn.body=some body)(u:vs.length<=fn.ntmps)
  (h:∀t,t.size=nt->Y' WZ [] [] env t->Ε Yb (Frame.enter P g vs.toArray .normal) (χ b t (.inRegion ops (i::rest)::k)::cs) fn.ntmps [.code body] (entry 0 (vs.map Ψ.z))):Ε Yb b cs nt (.inRegion ops (i::rest)::k) env:=by
 intro t d f;have l:=h t d f (vs.toArray++Array.replicate (fn.ntmps-vs.length) undef) (by simp;omega) (qx vs u);rw[show vs.toArray++Array.replicate (fn.ntmps-vs.length) undef=vs.toArray++Array.replicate (fn.ntmps-vs.toArray.size) undef by simp,<-Ty j c]at l;refine WO _ _ ⟨U,U⟩ (λw=>?_) l;have v:=s;have x:fn.body.isNone=false:=by rw[c];rfl
 have m:(execOp (ZX t) op).run P w=.ok (.enter g vs.toArray) w/\(execOp (ZX t) op).events P w #[]=#[]:=by
  have e:execOp (ZX t) op=callFunc g vs.toArray:=by
   unfold execOp;rw[p];have:=r.ZX f;simp[resolve];rw[this];simp[Deferred.ofValue,Go.TL.ZX,invoke]
  rw[e];unfold callFunc;have d:¬fn.name = "runtime.NumGoroutine" := by simpa using v
  simp[j,d,c]
 rw[Xa a.run a.ro,stepG_enter a.op (Uk f n) a.kd (by rw[Uy];exact m.1)];unfold listed;rw[Uy,m.2,seen_none]
theorem Ε.Oc(a:b.roundOf=none)(f:b.defers=[])(g:b.kind=.normal){fn}(i:P.funcs[b.fn]?=some fn){d:Nat}(e:fn.results=#[.tmp d]){v}(hv:ε env d=.z v){c}
  (h:Yb (Go.Conc.G (c.finish v) cs)):Ε Yb b (c::cs) nt (.code .ret::k) env:=by
 intro t m j;have l:t.getD d undef=v:=by
  have:=j d;rw[hv]at this;generalize t.getD d undef=u at this;cases this;rfl
 refine WO _ (Go.Conc.G {χ b t (.code .ret::k)with mode:=.returning} (c::cs)) ⟨U,U⟩ (λw=>?_) (WO _ _ ⟨U,U⟩ (λw=>?_) h)
 .rw[UZ hb];unfold stepG.exec;simp[χ,a];rfl
 rw[Xa hb a,stepG_leave g f i (results_tmp e _ P w) (events_results_tmp e _ _),l]
theorem Ε.F9(a:b.roundOf=none)(e:b.defers=[])(f:b.kind=.normal){fn}(g:P.funcs[b.fn]?=some fn)(d:fn.results=#[]){c}
  (h:Yb (Go.Conc.G (c.finish (.tuple #[])) cs)):Ε Yb b (c::cs) nt [] env:=by
 intro t i j;refine WO _ (Go.Conc.G {χ b t []with mode:=.returning} (c::cs)) ⟨U,U⟩ (λw=>?_) (WO _ _ ⟨U,U⟩ (λw=>?_) h)
 .rw[UZ hb];unfold stepG.exec;simp[χ,a];rfl
 rw[Xa hb a,stepG_leave f e g (Go.results_none d _ P w) (Go.Conc.events_results_none d _ _)]
end
attribute [congr] qu
attribute [simp] LR qw qv Ks
def Uf(P:Program)(a:Value->Prop)(mn:Bool)(y:Z0)(g:Goroutine):Prop:=Ve g/\Goes P a mn g {y with G:=Φ.empty}
def Tu(P:Program)(d:Nat)(g:Goroutine):Prop:=∃n,QuitsD P n d g
def ZI{P:Program}{c:Value->Prop}{mn:Bool}{y:Z0}(d:XY y):Dq P mn (Uf P c mn y):=λg g' a e b=>⟨a,Quiet.goes (.cons a e (.nil _)) d b.1 b.2⟩
def Yc{P:Program}{d:Nat}:Dq P false (Tu P d):=λg g' a b ⟨n,c⟩=>⟨n+1,.ctl a.1 b c⟩
section
variable{P:Program}{Q:Value->Prop}{mn:Bool}{y:Z0}{b:Frame}{cs:YM}{nt:Nat}{k:Zk}{env:κ}
variable{ops:Y5}{i:Nat}{rest:Z6}{op:Oper}{f:FuncId}{e:ZP->Sem Value}{args:Array Operand}{vs:List Value}
def Ε.leaves{d:Nat}(a:y.rel=true)(c:∀s,Gone (y.tok s))(hd:y.deaf=d)(h:Ε (Tu P d) b cs nt k env):Ε (Uf P Q false y) b cs nt k env:=λt e f=>by
 obtain⟨n,g⟩:=h t e f;subst hd;exact⟨⟨U,U⟩,Goes.quits n a c g⟩
def Ε.disable(d:XY y)(h:Wx P b ops i op f (λ_=>do mark .disable;pure Extern.Race.none_) args env [] nt)(e:Ε (Uf P Q mn {y with deaf:=y.deaf+1}) b cs nt (.inRegion ops rest::k) (Zr op env R4)):Ε (Uf P Q mn y) b cs nt (.inRegion ops (i::rest)::k) env:=λt g c=>by
 obtain⟨j,l⟩:=Pb c h.dst g (a:=R4) (v:=.tuple #[]) (.z _);exact⟨⟨U,U⟩,Goes.step d.ok (.inr ⟨⟨U,U⟩,.inr (.inl ⟨Go.Conc.G (χ b (put op t (.tuple #[])) (.inRegion ops rest::k)) cs,⟨U,U⟩,.inl λw _=>
  ⟨h.step c (Gf .disable) (Ge .disable _) (PU o),(e _ l j).2⟩⟩)⟩)⟩
def Dn(P:Program)(Q:Value->Prop)(mn:Bool)(y:Z0)(b:Frame)(cs:YM)(nt:Nat)(ops:Y5)(rest:Z6)(k:Zk)(op:Oper)(env:κ)(s φ:Nat)(a:Z5)(v:Value):Prop:=
 Ε (Uf P Q mn {y with view:=upd y.view s (some (φ,a))}) b cs nt (.inRegion ops rest::k) (Zr op env (.z v))
def FZ(P:Program)(Q:Value->Prop)(mn:Bool)(y:Z0)(b:Frame)(cs:YM)(nt:Nat)(ops:Y5)(rest:Z6)(k:Zk)(op:Oper)(env:κ)(s φ:Nat)(c:Z5)(v:Value)(o':Z5)(t':Tok):Prop:=
 Act c (y.tok s) o' t'/\∀a,a<φ->Ε (Uf P Q mn {y with tok:=upd y.tok s t',view:=upd y.view s (some (a,o'))}) b cs nt (.inRegion ops rest::k) (Zr op env (.z v))
def Ε.ext(r:XY y){s:Nat}{sp:Spec}(u:y.spec s=some sp)(x:¬Xp (y.tok s))(h:Wx P b ops i op f e args env vs nt)
  (A:∀(w:World)(φ:Nat)(c:Z5),Seen y s sp φ c->At s c w->
   (∃v w' d,(e vs.toArray).run P w=.ok v w'/\(e vs.toArray).events P w #[⟨.mark (Mark.extern f),false,true⟩]=#[⟨.mark (Mark.extern f),false,true⟩]++d/\(∀y∈d,y.sync=true/\∀g,y.loc≠.mark (Mark.extern g))/\
    Xe (λB _=>X6 s sp B) (λ_=>False) w w'/\QZ s sp y.deaf d/\
    ((At s c w'/\Dn P Q mn y b cs nt ops rest k op env s φ c v)\/∃o' t',At s o' w'/\FZ P Q mn y b cs nt ops rest k op env s φ c v o' t'))) :
  Ε (Uf P Q mn y) b cs nt (.inRegion ops (i::rest)::k) env:=by
 obtain⟨V,n⟩:=h.call;intro t C j;refine⟨⟨U,U⟩,Goes.step r.ok (.inr ⟨⟨U,U⟩,.inr (.inr (.inr (.inl ⟨s,sp,u,x,λw φ c W hv D E F H=>?_⟩)))⟩)⟩;obtain⟨v,w',d,I,J,K,L,M,N⟩:=A w φ c ⟨D,F,H⟩ E;have O:=Gg (mn:=mn) (cs:=cs) (rest:=rest) (k:=k) h.SZ h.at_ (Uk j h.want) n (h.Jh.ZX j) I J K;refine .inl ?_;rw[O];obtain⟨o,p⟩:=Pb j h.dst C (a:=.z v) (v:=v) (.z _);refine⟨⟨U,U⟩,L,M,?_⟩;rcases N with⟨l,m⟩|⟨o',t',l,m,R⟩
 .exact .inl ⟨l,(m _ p o).2⟩
 exact .inr ⟨o',t',m,l,.inl (z7 h.SZ h.at_ n),λS T=>(R S T _ p o).2⟩
section
variable{s:Nat}{sp:Spec}(XN:XY y)(hd:0<y.deaf)(Vm:y.spec s=some sp)(Vl:¬Xp (y.tok s))
include XN hd Vm Vl
theorem Ε.DO(h:Wx P b ops i op f (Extern.Atomic.loadT (.int .u64)) args env [.pointer (some ⟨s,0,none⟩)] nt)
  (e:∀φ a,Seen y s sp φ a->Dn P Q mn y b cs nt ops rest k op env s φ a (.int .u64 (YV a))):Ε (Uf P Q mn y) b cs nt (.inRegion ops (i::rest)::k) env:=by
 refine .ext XN Vm Vl h λw φ a g c=>?_;have d:=c.Un;refine⟨.int .u64 (YV a),w,#[⟨.cell ⟨s,0,none⟩,false,true⟩],?_,?_,O4 (O5 _ false),Xe.refl _ _ _,O7 (.inl U) hd (O5 _ false),.inl ⟨c,e φ a g⟩⟩
 .change Sem.run P (do Extern.Atomic.read (.int .u64) (<-asAddr (.pointer (some _)))) w=_;simp[Extern.Atomic.read,asAddr,d]
 change Sem.events P (do Extern.Atomic.read (.int .u64) (<-asAddr (.pointer (some _)))) w _=_;simp[Extern.Atomic.read,asAddr,d,events_load]
theorem Ε.DN{d:Int}(h:Wx P b ops i op f (Extern.Atomic.update (Op.intArith .add) .u64 true) args env [.pointer (some ⟨s,0,none⟩),.int .u64 d] nt)
  (o:∀φ a,Seen y s sp φ a->∃o' t',YV o'=u64.wrap (YV a+d)/\o'.YP=a.YP/\O3 a o'/\FZ P Q mn y b cs nt ops rest k op env s φ a (.int .u64 (YV o')) o' t') :
  Ε (Uf P Q mn y) b cs nt (.inRegion ops (i::rest)::k) env:=by
 refine .ext XN Vm Vl h λw φ a p c=>?_;have j:=c.Un;have l:=c.Nn 0;obtain⟨o',t',m,r,e,n⟩:=o φ a p;rw[m]at n;refine⟨_,_,_,run_add_entry j l,(events_add_entry j l _).trans U,O4 (O6 ⟨s,0,none⟩),c.Ky _,O7 (.inl U) hd (O6 ⟨s,0,none⟩),.inr ⟨o',t',c.Kz e.ZR e.g e.w ?_,n⟩⟩;rw[m,r];rfl
theorem Ε.qs{d:Int}(h:Wx P b ops i op f Extern.Atomic.storeT args env [.pointer (some ⟨s,0,none⟩),.int .u64 d] nt)
  (m:∀φ a,Seen y s sp φ a->∃o' t',YV o'=d/\o'.YP=a.YP/\O3 a o'/\FZ P Q mn y b cs nt ops rest k op env s φ a (.tuple #[]) o' t') :
  Ε (Uf P Q mn y) b cs nt (.inRegion ops (i::rest)::k) env:=by
 refine .ext XN Vm Vl h λw φ a n c=>?_;have j:=c.Un;have l:=c.Nn 0;obtain⟨o',t',o,p,e,r⟩:=m φ a n;refine⟨.tuple #[],w.setCell ⟨s,0,none⟩ (.int .u64 d),#[⟨.cell ⟨s,0,none⟩,true,true⟩],?_,?_,O4 (O5 _ true),c.Ky _,O7 (.inl U) hd (O5 _ true),.inr ⟨o',t',c.Kz e.ZR e.g e.w (by rw[o,p];rfl),r⟩⟩
 .change Sem.run P (do
   store (<-asAddr (.pointer (some _))) (.int .u64 d) .atomic
   pure Extern.Atomic.none_) w=_
  simp[asAddr,j,l,run_store P w _ (.int .u64 d) .atomic U,Result.andThen,Extern.Atomic.none_]
 change Sem.events P (do
  store (<-asAddr (.pointer (some _))) (.int .u64 d) .atomic
  pure Extern.Atomic.none_) w _=_
 simp[asAddr,j,l,events_store P w _ _ (.int .u64 d) .atomic U]
end
section
variable{s:Nat}{sp:Spec}(XN:XY y)(Vm:y.spec s=some sp)(Vl:¬Xp (y.tok s))
include XN Vm Vl
theorem Ε.qq(e:vs[0]?=some (.pointer (some ⟨s,1,none⟩)))(h:Wx P b ops i op f Extern.Sync.semrelease args env vs nt)
  (l:∀φ a,Seen y s sp φ a->a.YP<1000/\∃o' t',YV o'=YV a/\o'.YP=a.YP+1/\O3 a o'/\FZ P Q mn y b cs nt ops rest k op env s φ a (.tuple #[]) o' t') :
  Ε (Uf P Q mn y) b cs nt (.inRegion ops (i::rest)::k) env:=by
 refine .ext XN Vm Vl h λw φ a m c=>?_;have j:=c.Gd;obtain⟨r,o',t',n,o,d,p⟩:=l φ a m;refine⟨_,_,_,zY e j (c.Nn 1),zX e j (c.Nn 1) _,semEvents_sync _,c.Ky _,F' (.inl U),.inr ⟨o',t',c.Kz d.ZR d.g d.w ?_,p⟩⟩;rw[n,o,show u32.wrap (((a.YP:Nat):Int)+1)=((a.YP+1:Nat):Int) by simp only[IntKind.wrap_u32];omega];rfl
end
def zp{t:ZP}(e:b.mode=.run)(g:b.roundOf=none)(i:b.defers=[Go.Conc.dcall f #[]])(j:b.kind=.normal){fn:Func}(l:P.funcs[b.fn]?=some fn)(d:fn.results=#[])(m:Entry P f (λ_=>do mark .enable;pure Extern.Race.none_)){c:Frame}
  (h:Tu P 0 (Go.Conc.G (c.finish (.tuple #[])) cs)):Tu P 1 (Go.Conc.G {χ b t k with mode:=.returning} (c::cs)):=by
 obtain⟨x,p,Υ,r,s,u⟩:=m;obtain⟨n,v⟩:=h;rw[Xa e g];refine⟨n+1+1,QuitsD.unwind_mark (a:=⟨t,b.defers⟩) (ds:=[]) .enable U o i p Υ r s u ?_⟩;exact .ctl U (λw=>stepG_leave (a:=⟨t,[]⟩) j U l (Go.results_none d _ P w) (Go.Conc.events_results_none d _ _)) v
def Ε.Ds(a:b.mode=.run)(d:b.roundOf=none)(e:b.defers=[Go.Conc.dcall f #[]])(g:b.kind=.normal){fn:Func}(i:P.funcs[b.fn]?=some fn)(j:fn.results=#[])(l:Entry P f (λ_=>do mark .enable;pure Extern.Race.none_)){c:Frame}
  (h:Tu P 0 (Go.Conc.G (c.finish (.tuple #[])) cs)):Ε (Tu P 1) b (c::cs) nt (.code .ret::k) env:=λt _ _=>by
 refine Yc _ (Go.Conc.G {χ b t (.code .ret::k)with mode:=.returning} (c::cs)) ⟨U,U⟩ (λw=>?_) (zp a d e g i j l h);rw[UZ a];unfold stepG.exec;simp only[χ,d];rfl
def Ε.qp(a:b.mode=.run)(d:b.roundOf=none)(e:b.defers=[Go.Conc.dcall f #[]])(g:b.kind=.normal){fn:Func}(i:P.funcs[b.fn]?=some fn)(j:fn.results=#[])(k:Entry P f (λ_=>do mark .enable;pure Extern.Race.none_)){c:Frame}
  (h:Tu P 0 (Go.Conc.G (c.finish (.tuple #[])) cs)):Ε (Tu P 1) b (c::cs) nt [] env:=λt _ _=>by
 refine Yc _ (Go.Conc.G {χ b t []with mode:=.returning} (c::cs)) ⟨U,U⟩ (λw=>?_) (zp a d e g i j k h);rw[UZ a];unfold stepG.exec;simp only[χ,d];rfl
end
def Kr(x:Z0):Z0:={x with Z9:=λ_=>none,rel:=true}
def V.EM{P:Program}{m:Value->Prop}{x:Z0}{b:Frame}{cs:YM}{nt:Nat}{r:Base}{k:Zk}{env:κ}{ops:Y5}{i:Nat}{rest:Z6}{l:Oper}{f:FuncId}{args:Array Operand}(u:x.rel=false){s n:Nat}{sp:Spec}{c:Tf}{v:Option (Nat×Z5)}(F:x.spec s=some sp)(I:c=.done\/(c=.idle/\sp.ZR=none))(J:∀g,g≠s->Xp (x.tok g))(K:sp.D n Φ.empty)
  (h:Wx P b ops i l f (Extern.Race.marked .releaseMerge) args env [.pointer (some ⟨s,0,none⟩)] nt) (L:∀p∈Zr l env R4,∃v,p.2=Ψ.z v)
  (M:Ε (Uf P m false (ZW (Kr x) s (.ch n c .rel) none 0)) b cs nt (.inRegion ops rest::k) (Zr l env R4)):V P m false (one (ZW x s (.ch n c .work) v 0)) b cs nt r (.inRegion ops (i::rest)::k) env []:=by
 intro S B H t Q A y N;cases N;have C:=A.put h.dst (a:=R4) (v:=.tuple #[]) (.z _);have O:=(M _ C.size (I9 L C.Zt)).2;refine Goes.step (XY.ok (.inl u)) (.inr ⟨⟨U,U⟩,.inr (.inr (.inr (.inr (.inr (.inr (.inl ⟨s,sp,n,c,Go.Conc.G (χ b (put l t (.tuple #[])) (.inRegion ops rest::k)) cs,Φ.empty,F,Zn (v:=v) (d:=0),I,λg E=>by
  rw[show({ZW x s (.ch n c .work) v 0 with G:=H}:Z0).tok g=(ZW x s (.ch n c .work) v 0).tok g from rfl,Nm E];exact J g E,U,⟨U,U⟩,u,λw _=>
  h.step A.Zt (LW .releaseMerge _) (LV .releaseMerge _ _) (PU o),⟨λb r v p j=>(by cases j),λb y j=>(by cases j),λb y j=>(by cases j)⟩,K,?_⟩))))))⟩)
 have e:({({ZW x s (.ch n c .work) v 0 with G:=H}:Z0)with G:=Φ.empty,Z9:=λ_=>none,tok:=upd ({ZW x s (.ch n c .work) v 0 with G:=H}:Z0).tok s (.ch n c .rel),view:=upd ({ZW x s (.ch n c .work) v 0 with G:=H}:Z0).view s none,rel:=true}:Z0)={ZW (Kr x) s (.ch n c .rel) none 0 with G:=Φ.empty}:=by
  unfold ZW Kr;simp only[DJ]
 exact e▸O
end Go.TL
namespace Go.TL
open Go.IntKind (i32 i64 u32 u64)
open Go.Proofs.Tryz
open Go.Conc Go.Proofs
open Go.ConcN (sumTo upd sumTo_upd upd_ne upd_same sumTo_congr le_sumTo)
noncomputable def FY:Code:=f72.body.getD .skip
noncomputable abbrev Dm(s:Nat):Frame:={Frame.enter prog 72 #[ptr s 0,.int .i64 (-1)] .normal with defers:=[Go.Conc.dcall 112 #[]]}
def qo:u64.wrap (u64.wrap (-1)*2 ^ min 32 u64.bits)=18446744069414584320:=θ
def qn:u64.wrap (18446744073709551615*2 ^ min 32 u64.bits)=18446744069414584320:=θ
def qm:u64.wrap (-1)=18446744073709551615:=θ
def FX:i32.wrap (-1)=-1:=θ
section
variable{Q:Value->Prop}{c:Frame}{rest:YM}{s k:Nat}{sp:Spec}{v:Option (Nat×Z5)}
def ql[Z8](n:Tu prog 0 (Go.Conc.G (c.finish (.tuple #[])) rest)){cc w0}(e:cc<8)(f:w0<2)(o:0<cc\/w0=0){env}(g:ε env 0=.z (ptr s 0))(h:ε env 1=.z (.int .i64 (-1)))(i:ε env 4=.z (.bool false))(d:ε env 6=.z (.int .u64 (VF cc w0))) :
  Ε (Tu prog 1) (Dm s) (c::rest) 117 [.code (YN [1,1,1,1] FY)] env:=by
 have j:∀(K)(env),Ε (Tu prog 1) (Dm s) (c::rest) 117 (.code .ret::K) env:=λK env=>Ε.Ds U U U U func72 U O2 n
 have k:¬(cc:Int)<0:=MM.2 (Int.natCast_nonneg _)
 have p:w0=0\/w0=1:=J
 have f1:=F4 cc e w0 f
 have f2:=F3 cc e w0 f
 have f3:=F2 cc e w0 f;generalize VF cc w0=w at f1 f2 f3 d;unfold FY;by_cases a:0<cc
 .have l:0<cc:=by exact_mod_cast a
  rcases p with rfl|rfl
  ·(repeat (first|refine Ε.seq Yc rfl ?_|refine Ε.block Yc rfl ?_|refine Ε.inBlock Yc rfl ?_|refine Ε.skip Yc rfl ?_|refine Ε.Sm Yc rfl rfl ?_|refine Ε.Sl Yc rfl rfl ?_|(refine Ε.region Yc rfl Τ rfl (by simp[Frame.enter]) λm b=>?_;(try simp);(repeat (apply Wo;simp[g,h,i,d,f1,f2,f3,FX,k,a,l]));apply b _)));exact j _ _
  ·(repeat (first|refine Ε.seq Yc rfl ?_|refine Ε.block Yc rfl ?_|refine Ε.inBlock Yc rfl ?_|refine Ε.skip Yc rfl ?_|refine Ε.Sm Yc rfl rfl ?_|refine Ε.Sl Yc rfl rfl ?_|(refine Ε.region Yc rfl Τ rfl (by simp[Frame.enter]) λm b=>?_;(try simp);(repeat (apply Wo;simp[g,h,i,d,f1,f2,f3,FX,k,a,l]));apply b _)));exact j _ _
 have r:=o.resolve_left a
 have t:=Nat.eq_zero_of_not_pos a;subst r;subst t;(repeat (first|refine Ε.seq Yc rfl ?_|refine Ε.block Yc rfl ?_|refine Ε.inBlock Yc rfl ?_|refine Ε.skip Yc rfl ?_|refine Ε.Sm Yc rfl rfl ?_|refine Ε.Sl Yc rfl rfl ?_|(refine Ε.region Yc rfl Τ rfl (by simp[Frame.enter]) λm b=>?_;(try simp);(repeat (apply Wo;simp[g,h,i,d,f1,f2,f3,FX]));apply b _)));exact j _ _
structure PN(x:Z0)(s:Nat) sp:Prop where
 rel:x.rel=true
 spec:x.spec s=some sp
 top:sp.top<7
 shut:∀a,a≠s->Xp (x.tok a)
def PN.here{x}(h:PN x s sp){g d}(a:g≠.gone):XY (ZW x s (.ch k .done g) v d):=.inr ⟨s,by rw[Zn];cases g<;>simp_all [Gone]⟩
def PN.gone{x}(h:PN x s sp){d}:∀a,Gone ((ZW x s (.ch k .done .gone) v d).tok a):=λa=>by
 by_cases e:a=s
 .subst e;rw[Zn];trivial
 rw[Nm e];have:=h.shut a e;revert this;cases x.tok a with
 | nil=>exact λ_=>trivial
 | par n p b=>cases b<;>exact λh=>h
 | ch k m g=>exact λh=>h.elim
def PN.F1{x}(b:PN x s sp){a:Z5}(h:a.toSpec=sp):a.top<7:=by have:=b.top;rw[show a.top=sp.top by rw[<-h]];exact this
def Ε.back[Z8]{a b cs nt k env ops i rest op t v}(c:ops[i]?=some op)(hd:WA nt op=true)(d:t.size=nt)(e:Y' WZ [] [] env t)
  (h:Ε a b cs nt (.inRegion ops rest::k) (Zr op env (.z v))):a (Go.Conc.G ((χ b t (.inRegion ops (i::rest)::k)).finish v) cs):=by
 rw[VQ c];let ⟨f,g⟩:=Pb e hd d (v:=v) (.z _);exact h _ g f
def Ε.zo[Z8]{P b cs nt env}(a:b.mode=.run)(d:b.roundOf=none)(e:b.defers=[])(f:b.kind=.deferred){fn}(g:P.funcs[b.fn]?=some fn)(i:fn.results=#[]){c}(j:c.mode=.returning)
  (h:Tu P 0 (Go.Conc.G c cs)):Ε (Tu P 0) b (c::cs) nt [] env:=λt _ _=>by
 let ⟨n,k⟩:=h;refine Yc _ (Go.Conc.G {χ b t []with mode:=.returning} (c::cs)) ⟨U,U⟩ (λw=>?_) ⟨n+1,?_⟩
 .rw[UZ a];unfold stepG.exec;simp[χ,d];rfl
 rw[Xa a d];exact QuitsD.leaveD f e g i j k
def qk[Z8]{x}(g:PN x s sp){t}(a:∀v,XY (ZW x s t v 1))(e:¬Xp t){cs}(h:∀φ b,Seen (ZW x s t v 1) s sp φ b->Uf prog Q false (ZW x s t (some (φ,b)) 1) (Go.Conc.G (c.finish (.int .u64 (YV b))) cs)) :
  Ε (Uf prog Q false (ZW x s t v 1)) (Frame.enter prog 119 #[ptr s 0] .normal) (c::cs) 7 [.code (f119.body.getD .skip)] (entry 0 [.z (ptr s 0)]):=by
 simp;(repeat (first|refine Ε.seq (ZI (a _)) rfl ?_|refine Ε.block (ZI (a _)) rfl ?_|refine Ε.inBlock (ZI (a _)) rfl ?_|refine Ε.skip (ZI (a _)) rfl ?_|refine Ε.Sm (ZI (a _)) rfl rfl ?_|refine Ε.Sl (ZI (a _)) rfl rfl ?_|(refine Ε.region (ZI (a _)) rfl Τ rfl (by simp[Frame.enter]) λf d=>?_;(try simp);(repeat (apply Wo;simp[e]));apply d _)));apply Ε.Zs (ZI (a _)) U;refine Ε.part (ZI (a _)) U Τ U (by simp[Frame.enter]) [0,1,2] [3,4] U λf d=>?_;(try simp[-LR]);(repeat (apply Wo;simp));apply d _;refine Ε.DO (a _) (UI _) g.spec (by rw[Zn];exact e) ⟨⟨U,U,by simp[Frame.enter],U⟩,zQ,⟨_,U⟩,U,U,U⟩ λφ b i=>?_;unfold Dn;rw[Ug];refine Ε.part (ZI (a _)) U Τ U (by simp[Frame.enter]) [4] [] U λf d=>?_;(try simp[-LR]);(repeat (apply Wo;simp));apply d _;apply Ε.ZK (ZI (a _)) U;exact Ε.Oc (ZI (a _)) U U U U func119 U U (h φ b i)
def qj[Z8]{x}(i:PN x s sp){t t' d}(a:∀v,XY (ZW x s t v 1))(g:∀v,XY (ZW x s t' v 1))(h:¬Xp t){cs}(j:∀φ b,Seen (ZW x s t v 1) s sp φ b->∃o',YV o'=d/\o'.YP=b.YP/\O3 b o'/\Act b t o' t'/\∀e,e<φ->Uf prog Q false (ZW x s t' (some (e,o')) 1) (Go.Conc.G (c.finish (.tuple #[])) cs)) :
  Ε (Uf prog Q false (ZW x s t v 1)) (Frame.enter prog 120 #[ptr s 0,.int .u64 d] .normal) (c::cs) 9 [.code (f120.body.getD .skip)] (entry 0 [.z (ptr s 0),.z (.int .u64 d)]):=by
 simp;(repeat (first|refine Ε.seq (ZI (a _)) rfl ?_|refine Ε.block (ZI (a _)) rfl ?_|refine Ε.inBlock (ZI (a _)) rfl ?_|refine Ε.skip (ZI (a _)) rfl ?_|refine Ε.Sm (ZI (a _)) rfl rfl ?_|refine Ε.Sl (ZI (a _)) rfl rfl ?_|(refine Ε.region (ZI (a _)) rfl Τ rfl (by simp[Frame.enter]) λk f=>?_;(try simp);(repeat (apply Wo;simp[h]));apply f _)));apply Ε.Zs (ZI (a _)) U;refine Ε.part (ZI (a _)) U Τ U (by simp[Frame.enter]) [0,1,2,3] [4] U λk f=>?_;(try simp[-LR]);(repeat (apply Wo;simp));apply f _;refine Ε.qs (a _) (UI _) i.spec (by rw[Zn];exact h) ⟨⟨U,U,by simp[Frame.enter],U⟩,q4,⟨_,U⟩,U,U,U⟩ λφ b l=>?_;let ⟨o',m,n,o,p,r⟩:=j φ b l;refine⟨o',t',m,n,o,by rw[Zn];exact p,λe u=>?_⟩;rw[Ww];apply Ε.ZK (ZI (g _)) U;exact Ε.F9 (ZI (g _)) U U U U func120 U (r e u)
def qi[Z8]{x}(j:PN x s sp){t d}(a:∀v,XY (ZW x s t v 1))(k:¬Xp t){cs}
  (l:∀φ b,Seen (ZW x s t v 1) s sp φ b->∃o' t',YV o'=u64.wrap (YV b+d)/\o'.YP=b.YP/\O3 b o'/\Act b t o' t'/\∀f,f<φ->(((∀v,XY (ZW x s t' v 1))/\Uf prog Q false (ZW x s t' (some (f,o')) 1) (Go.Conc.G (c.finish (.int .u64 (YV o'))) cs))\/((∀m,Gone ((ZW x s t' (some (f,o')) 1).tok m))/\Tu prog 1 (Go.Conc.G (c.finish (.int .u64 (YV o'))) cs)))) :
  Ε (Uf prog Q false (ZW x s t v 1)) (Frame.enter prog 117 #[ptr s 0,.int .u64 d] .normal) (c::cs) 10 [.code (f117.body.getD .skip)] (entry 0 [.z (ptr s 0),.z (.int .u64 d)]):=by
 simp;(repeat (first|refine Ε.seq (ZI (a _)) rfl ?_|refine Ε.block (ZI (a _)) rfl ?_|refine Ε.inBlock (ZI (a _)) rfl ?_|refine Ε.skip (ZI (a _)) rfl ?_|refine Ε.Sm (ZI (a _)) rfl rfl ?_|refine Ε.Sl (ZI (a _)) rfl rfl ?_|(refine Ε.region (ZI (a _)) rfl Τ rfl (by simp[Frame.enter]) λh e=>?_;(try simp);(repeat (apply Wo;simp[k]));apply e _)));apply Ε.Zs (ZI (a _)) U;refine Ε.part (ZI (a _)) U Τ U (by simp[Frame.enter]) [0,1,2,3] [4,5] U λh e=>?_;(try simp[-LR]);(repeat (apply Wo;simp));apply e _;refine Ε.DN (a _) (UI _) j.spec (by rw[Zn];exact k) ⟨⟨U,U,by simp[Frame.enter],U⟩,zR,⟨_,U⟩,U,U,U⟩ λφ b n=>?_;let ⟨o',t',o,p,r,u,w⟩:=l φ b n;refine⟨o',t',o,p,r,by rw[Zn];exact u,λf y=>?_⟩;rw[Ww];rcases w f y with⟨g,i⟩|⟨g,i⟩
 .refine Ε.part (ZI (g _)) U Τ U (by simp[Frame.enter]) [5] [] U λh e=>?_;(try simp[-LR]);(repeat (apply Wo;simp));apply e _;apply Ε.ZK (ZI (g _)) U;exact Ε.Oc (ZI (g _)) U U U U func117 U U i
 refine Ε.leaves j.rel g U ?_;refine Ε.part Yc U Τ U (by simp[Frame.enter]) [5] [] U λh e=>?_;(try simp[-LR]);(repeat (apply Wo;simp));apply e _;apply Ε.ZK Yc U;exact Ε.Oc Yc U U U U func117 U U i
def qh[Z8]{x}(j:PN x s sp)(y:Tu prog 0 (Go.Conc.G (c.finish (.tuple #[])) rest)){env}(h:ε env 0=.z (ptr s 0))(A:ε env 1=.z (.int .i64 (-1)))(l:ε env 4=.z (.bool false))(m:ε env 6=.z (.int .u64 (VF 0 1))) :
  Ε (Uf prog Q false (ZW x s (.ch k .done .l2) v 1)) (Dm s) (c::rest) 117 [.code (YN [1,1,1,1] FY)] env:=by
 have f1:=F4 0 θ 1 θ
 have f2:=F3 0 θ 1 θ
 have f3:=F2 0 θ 1 θ
 have R:VF 0 1=1:=θ;generalize B:VF 0 1=w at f1 f2 f3 m;have f:=j.here (k:=k) (v:=v) (d:=1) (g:=.l2) o;unfold FY;(repeat (first|refine Ε.seq (ZI f) rfl ?_|refine Ε.block (ZI f) rfl ?_|refine Ε.inBlock (ZI f) rfl ?_|refine Ε.skip (ZI f) rfl ?_|refine Ε.Sm (ZI f) rfl rfl ?_|refine Ε.Sl (ZI f) rfl rfl ?_|(refine Ε.region (ZI f) rfl Τ rfl (by simp[Frame.enter]) λi b=>?_;(try simp);(repeat (apply Wo;simp[h,A,l,m,f1,f2,f3,FX]));apply b _)));apply Ε.Zs (ZI f) U;refine Ε.part (ZI f) U Τ U (by simp[Frame.enter]) [0,1,2] [3,4,5] U λi b=>?_;(repeat (apply Wo;simp[h]));apply b _;refine Ε.call (ZI f) U ⟨U,U,by simp[Frame.enter],U⟩ U U (vs:=[ptr s 0]) U func119 U U (by simp[ntmps119]) λt C D=>?_;have e:∀v,XY (ZW x s (.ch k .done .l2) v 1):=λv=>j.here o;have a:∀v,XY (ZW x s (.ch k .done .Qd) v 1):=λv=>j.here o;refine qk j e id λφ E F=>?_;have n:=F.US.Oa;rw[Zn]at n;let ⟨H,I⟩:=n.l2 k _ U;have J:YV E=w:=by rw[<-B];simp only[YV,H,I]
 rw[J];apply Ε.back U U C D;refine Ε.part (ZI (e _)) U Τ U (by simp[Frame.enter]) [4,5] [] U λi b=>?_;(repeat (apply Wo;simp[m]));apply b _;apply Ε.ZK (ZI (e _)) U;(repeat (first|refine Ε.seq (ZI (e _)) rfl ?_|refine Ε.block (ZI (e _)) rfl ?_|refine Ε.inBlock (ZI (e _)) rfl ?_|refine Ε.skip (ZI (e _)) rfl ?_|refine Ε.Sm (ZI (e _)) rfl rfl ?_|refine Ε.Sl (ZI (e _)) rfl rfl ?_|(refine Ε.region (ZI (e _)) rfl Τ rfl (by simp[Frame.enter]) λi b=>?_;(try simp);(repeat (apply Wo;simp[h]));apply b _)));apply Ε.Zs (ZI (e _)) U;refine Ε.part (ZI (e _)) U Τ U (by simp[Frame.enter]) [0,1,2] [3] U λi b=>?_;(repeat (apply Wo;simp[h]));apply b _;refine Ε.call (ZI (e _)) U ⟨U,U,by simp[Frame.enter],U⟩ U U (vs:=[ptr s 0,.int .u64 0]) U func120 U U (by simp[ntmps120]) λt3 K L=>?_;refine qj j (t':=.ch k .done .Qd) e a id λS M N=>?_;have p:=N.US.Oa;rw[Zn]at p;let ⟨T,O⟩:=p.l2 k _ U;refine⟨{M with wt:=0},by simp only[YV,O];rfl,U,⟨U,U,U⟩,.wF,λV W=>?_⟩;apply Ε.back U U K L;apply Ε.ZK (ZI (a _)) U;(repeat (first|refine Ε.seq (ZI (a _)) rfl ?_|refine Ε.block (ZI (a _)) rfl ?_|refine Ε.inBlock (ZI (a _)) rfl ?_|refine Ε.skip (ZI (a _)) rfl ?_|refine Ε.Sm (ZI (a _)) rfl rfl ?_|refine Ε.Sl (ZI (a _)) rfl rfl ?_|(refine Ε.region (ZI (a _)) rfl Τ rfl (by simp[Frame.enter]) λi b=>?_;(try simp);(repeat (apply Wo;simp[h,l]));apply b _)));apply Ε.loop (ZI (a _)) U;(repeat (first|refine Ε.seq (ZI (a _)) rfl ?_|refine Ε.block (ZI (a _)) rfl ?_|refine Ε.inBlock (ZI (a _)) rfl ?_|refine Ε.skip (ZI (a _)) rfl ?_|refine Ε.Sm (ZI (a _)) rfl rfl ?_|refine Ε.Sl (ZI (a _)) rfl rfl ?_|(refine Ε.region (ZI (a _)) rfl Τ rfl (by simp[Frame.enter]) λi b=>?_;(try simp);(repeat (apply Wo;simp[h,l]));apply b _)));apply Ε.Zs (ZI (a _)) U;refine Ε.part (ZI (a _)) U Τ U (by simp[Frame.enter]) [0,1,2] [3] U λi b=>?_;(repeat (apply Wo;simp[h]));apply b _;refine Ε.qq (a _) (sp:=sp) j.spec (by rw[Zn];exact id) (vs:=[ptr s 1,.bool false,.int .i64 0]) U ⟨⟨U,U,by simp[Frame.enter],U⟩,qZ,⟨_,U⟩,U,U,U⟩ λX r P=>?_;have u:=P.US.Oa;rw[Zn]at u;refine⟨by have:=u.YP;omega,{r with YP:=r.YP+1},.ch k .done .gone,U,U,⟨U,U,U⟩,by rw[Zn];exact .wE,λY Z=>?_⟩;rw[Ww];refine Ε.leaves (d:=1) j.rel j.gone U ?_;apply Ε.ZK Yc U;(repeat (first|refine Ε.seq Yc rfl ?_|refine Ε.block Yc rfl ?_|refine Ε.inBlock Yc rfl ?_|refine Ε.skip Yc rfl ?_|refine Ε.Sm Yc rfl rfl ?_|refine Ε.Sl Yc rfl rfl ?_|(refine Ε.region Yc rfl Τ rfl (by simp[Frame.enter]) λi b=>?_;(try simp);(repeat (apply Wo;simp[h,F0]));apply b _)));apply Ε.inLoop Yc U;(repeat (first|refine Ε.seq Yc rfl ?_|refine Ε.block Yc rfl ?_|refine Ε.inBlock Yc rfl ?_|refine Ε.skip Yc rfl ?_|refine Ε.Sm Yc rfl rfl ?_|refine Ε.Sl Yc rfl rfl ?_|(refine Ε.region Yc rfl Τ rfl (by simp[Frame.enter]) λi b=>?_;(try simp);(repeat (apply Wo;simp[h,F0]));refine b _ ?_)));refine Ε.exit Yc U U ?_;exact Ε.qp U U U U func72 U O2 y
structure I4(x:Z0)(s:Nat) sp:Prop where
 rel:x.rel=false
 Z9:x.Z9=λ_=>none
 spec:x.spec s=some sp
 top:sp.top<7
 shut:∀a,a≠s->Xp (x.tok a)
def zn{x H}(g:I4 x s sp)(T:sp.D k Φ.empty)(n:c.mode=.returning)(L:Tu prog 0 (Go.Conc.G c rest)) :
  Zx prog Q false (ZW x s (.ch k .done .work) v 0) (Frame.enter prog 74 #[ptr s 0] .deferred) (c::rest) H:=by
 letI:Z8:=Yg;have u:∀t v d,Seq (one (ZW x s t v d)):=λt v d=>Seq.PV trivial g.rel g.Z9;have h:PN (Kr x) s sp:=⟨U,g.spec,g.top,g.shut⟩;have b:∀v d,XY (ZW (Kr x) s (.ch k .done .rel) v d):=λv d=>h.here o;have C:∀v d,XY (ZW (Kr x) s (.ch k .done .l2) v d):=λv d=>h.here o;rw[Ty (body:=f74.body.getD .skip) func74 U];refine V.here (x:=one _) (m:=0) (nt:=4) (S:=WZ) (B:=[]) (σ:=[]) (env:=entry 0 [.z (ptr s 0)]) ?_ (XG.enter (I8 H) ⟨U,λi a v E M=>?_⟩ (Z3 _) o) _ U
 .apply V.Ys (u _ _ _) U;simp only[f74,Option.getD_some];refine ZA ?_;apply W.Zs;refine XB [0] [1] ?_;apply W.stop;refine V.call (u _ _ _) ⟨U,U,by simp[Frame.enter],U⟩ U U U ⟨_,func72,U,U⟩ λad X ae t1 af ag j hv=>?_;obtain rfl:=V8 (l:=[ptr s 0,.int .i64 (-1)]) hv;obtain rfl:X=[]:=YY.1 j.holds.len;rintro y rfl;refine V.PR (z:=one _) (vs:=[ptr s 0,.int .i64 (-1)]) func72 U j.holds (by simp[ntmps72]) ?_ _ U;apply V.Ys (u _ _ _) U;refine V1 ?_;apply W.Zs;refine XB [0] [1,2] ?_;apply W.stop;refine V.conv (u _ _ _).here (sp:=sp) g.spec (by rw[Zn];exact id) ⟨U,U,by simp[Frame.enter],U⟩ U U U Dz O1 Dy U (λe w ah Y=>⟨_,Y.Un⟩) (λφ e ai=>?_);unfold VA;rw[Ug];refine V.EM g.rel (sp:=sp) g.spec (.inl U) g.shut T ⟨⟨U,U,by simp[Frame.enter],U⟩,DC,⟨_,U⟩,U,U,U⟩ o ?_;apply Ε.ZK (ZI (b _ _)) U;(repeat (first|refine Ε.seq (ZI (b _ _)) rfl ?_|refine Ε.block (ZI (b _ _)) rfl ?_|refine Ε.inBlock (ZI (b _ _)) rfl ?_|refine Ε.skip (ZI (b _ _)) rfl ?_|refine Ε.Sm (ZI (b _ _)) rfl rfl ?_|refine Ε.Sl (ZI (b _ _)) rfl rfl ?_|(refine Ε.region (ZI (b _ _)) rfl Τ rfl (by simp[Frame.enter]) λp f=>?_;(try simp);(repeat (apply Wo;simp[n]));apply f _)));apply Ε.Zs (ZI (b _ _)) U;refine Ε.disable (b _ _) ⟨⟨U,U,by simp[Frame.enter],U⟩,LU,⟨_,U⟩,U,U,U⟩ ?_;rw[Jg];apply Ε.ZK (ZI (b _ _)) U;apply Ε.Zs (ZI (b _ _)) U;apply Ε.DL (ZI (b _ _)) U ⟨U,U,by simp[Frame.enter],U⟩ U U U;apply Ε.ZK (ZI (b _ _)) U;(repeat (first|refine Ε.seq (ZI (b _ _)) rfl ?_|refine Ε.block (ZI (b _ _)) rfl ?_|refine Ε.inBlock (ZI (b _ _)) rfl ?_|refine Ε.skip (ZI (b _ _)) rfl ?_|refine Ε.Sm (ZI (b _ _)) rfl rfl ?_|refine Ε.Sl (ZI (b _ _)) rfl rfl ?_|(refine Ε.region (ZI (b _ _)) rfl Τ rfl (by simp[Frame.enter]) λp f=>?_;(try simp);(repeat (apply Wo;simp[n]));apply f _)));apply Ε.Zs (ZI (b _ _)) U;apply Ε.F8 (ZI (b _ _)) U ⟨U,U,by simp[Frame.enter],U⟩ U U U zT;apply Ε.ZK (ZI (b _ _)) U;(repeat (first|refine Ε.seq (ZI (b _ _)) rfl ?_|refine Ε.block (ZI (b _ _)) rfl ?_|refine Ε.inBlock (ZI (b _ _)) rfl ?_|refine Ε.skip (ZI (b _ _)) rfl ?_|refine Ε.Sm (ZI (b _ _)) rfl rfl ?_|refine Ε.Sl (ZI (b _ _)) rfl rfl ?_|(refine Ε.region (ZI (b _ _)) rfl Τ rfl (by simp[Frame.enter]) λp f=>?_;(try simp);(repeat (apply Wo;simp[n]));apply f _)));apply Ε.Zs (ZI (b _ _)) U;refine Ε.part (ZI (b _ _)) U Τ U (by simp[Frame.enter]) [0,1,2,3,4,5] [6,7] U λp f=>?_;(repeat (apply Wo;simp[qm,qo,qn]));apply f _;refine Ε.call (ZI (b _ _)) U ⟨U,U,by simp[Frame.enter],U⟩ U U (vs:=[ptr s 0,.int .u64 18446744069414584320]) U func117 U U (by simp[ntmps117]) λt2 N O=>?_;refine qi h (λv=>b v 1) id λφ e P=>?_;have A:=P.US.Oa;rw[Zn]at A;have aj:1<=e.cnt:=A.live;have ak:=h.F1 P.spec;have al:=A.cnt;have am:=A.wt;let ⟨cc,F⟩:=ν (e.cnt-1);have r:e.cnt<8/\0<e.cnt/\cc<8/\e.wt<2:=J;have R:YV {e with cnt:=cc}=u64.wrap (YV e+18446744069414584320):=by
   rw[Nl,Nl,qI e.cnt r.1 e.wt r.2.2.2 r.2.1,F]
  by_cases I:e.cnt=1/\e.wt=1
  .have Z:cc=0:=J
   refine⟨{e with cnt:=cc},.ch k .done .l2,R,U,⟨U,U,U⟩,by rw[F];exact .wH I.1 I.2,λaa ab=>.inl ⟨λv=>C v 1,?_⟩⟩;have K:YV {e with cnt:=cc}=VF 0 1:=by rw[Nl,Z];simp only[I.2]
   rw[K];apply Ε.back U U N O;refine Ε.part (ZI (C _ _)) U Τ U (by simp[Frame.enter]) [7] [] U λp f=>?_;(repeat (apply Wo;simp));apply f _;apply Ε.ZK (ZI (C _ _)) U;refine qh h ?_ U U U U;exact Ε.back (nt:=4) U U j.size (I9 o j.Zt) (Ε.ZK Yc U (Ε.zo U U U U func74 U n L))
  refine⟨{e with cnt:=cc},.ch k .done .gone,R,U,⟨U,U,U⟩,by rw[F];exact .wG J,λaa ab=>.inr ⟨h.gone,?_⟩⟩;have K:YV {e with cnt:=cc}=VF cc e.wt:=rfl;rw[K];apply Ε.back U U N O;refine Ε.part Yc U Τ U (by simp[Frame.enter]) [7] [] U λp f=>?_;(repeat (apply Wo;simp));apply f _;apply Ε.ZK Yc U;refine ql ?_ (cc:=cc) (w0:=e.wt) r.2.2.1 r.2.2.2 J U U U U;exact Ε.back (nt:=4) U U j.size (I9 o j.Zt) (Ε.ZK Yc U (Ε.zo U U U U func74 U n L))
 cases i with
 | zero=>simp at E M;subst E;subst M;exact .z _
 | succ i=>simp at E
end
end Go.TL
namespace Go.TL
open Go.IntKind (i32 i64 u32 u64)
open Go.Proofs.Tryz
open Go.Conc
open Go.ConcN (upd)
def R2(S:ζ)(H:Φ):Φ:={H with Α:=λb a=>match S b a with|some v=>some (v,false)|none=>H.Α b a}
def Ue(S:ζ):Φ:=⟨λb a=>(S b a).map (·,false),λ_=>none,λ_=>none⟩
def ζ.plus(S T:ζ):ζ:=λb a=>match S b a with|some v=>some v|none=>T b a
structure Tt(a:Nat)(d:ζ)(E:Φ):Prop where
 Α:∀b c x,E.Α b c=some x->d b c≠none\/a<b
 row:∀b x,E.row b=some x->a<b
 obj:∀b x,E.obj b=some x->a<b
def Ts(r:Row):Prop:=∃t k l,r=.cells t k l
section
variable{S YE VL Uv Y2:ζ}{B B':ZZ}{σ σ':Ρ}{H H' WV E G:Φ}{β:Nat}
def Ni{b a:Nat}{v:Value}(h:S b a=some v):(R2 S H).Α b a=some (v,false):=by simp only[R2,h]
def Nh{b a:Nat}(h:S b a=none):(R2 S H).Α b a=H.Α b a:=by simp only[R2,h]
def I3{b a:Nat}{v:Value}(h:S b a=some v):(Ue S).Α b a=some (v,false):=by simp only[Ue,h];rfl
def LP{b a:Nat}{x:Value×Bool}(h:(Ue S).Α b a=some x):∃v,S b a=some v/\x=(v,false):=by
 cases c:S b a with
 | none=>simp[Ue,c]at h
 | some v=>exact⟨v,rfl,by simp[Ue,c]at h;exact h.symm⟩
def LO{b a:Nat}{v:Value}(h:S b a=some v):S.plus VL b a=some v:=by simp only[ζ.plus,h]
def I2{b a:Nat}(h:S b a=none):S.plus VL b a=VL b a:=by simp only[ζ.plus,h]
def join_some{b a:Nat}{x:Value×Bool}(h:H.Α b a=some x):(join H E).Α b a=some x:=by simp only[join,h]
def join_none{b a:Nat}(h:H.Α b a=none):(join H E).Α b a=E.Α b a:=by simp only[join,h]
def qg{b:Nat}{x:TypeId×Nat}(h:(join H E).row b=some x):H.row b=some x\/E.row b=some x:=by
 cases a:H.row b with
 | none=>simp only[join,a]at h;exact .inr h
 | some y=>simp only[join,a]at h;exact .inl h
def qf{b:Nat}{x:Obj}(h:(join H E).obj b=some x):H.obj b=some x\/E.obj b=some x:=by
 cases a:H.obj b with
 | none=>simp only[join,a]at h;exact .inr h
 | some y=>simp only[join,a]at h;exact .inl h
def qe(g:Holds S [] [] H):Split H (R2 S H) (Ue S):=by
 refine⟨⟨λb c v p h=>?_,λb x h=>h,λb x h=>h⟩,⟨λb c v p h=>?_,λb x h=>(by cases h),λb x h=>(by cases h)⟩,⟨λb c ⟨v,h⟩ ⟨x,k⟩=>?_,λb c ⟨v,h⟩ _=>?_,λb _ ⟨x,h⟩=>(by cases h)⟩⟩
 .cases a:S b c with
  | some u=>
   rw[Ni a]at h;cases h;obtain⟨d,f⟩:=g.Za b c _ a;exact⟨d,f,λe=>by cases e⟩
  | none=>rw[Nh a]at h;exact⟨p,h,id⟩
 .obtain⟨u,a,e⟩:=LP h;cases e;obtain⟨d,f⟩:=g.Za b c _ a;exact⟨d,f,λe=>by cases e⟩
 .obtain⟨u,a,e⟩:=LP k;rw[Ni a]at h;cases h
 obtain⟨u,a,e⟩:=LP h;cases e
def qd(a:Holds S [] [] H):Holds S [] [] (R2 S H):=
 ⟨λb c v h=>⟨false,Ni h⟩,U,λid r bo h=>by simp at h,λi j d e b f g _ h=>by simp at h,λid r b N h=>by simp at h⟩
def qc:Holds S [] [] (Ue S):=
 ⟨λb a v h=>⟨false,I3 h⟩,U,λid r bo h=>by simp at h,λi j c d b e f _ h=>by simp at h,λid r b N h=>by simp at h⟩
def zm(g:Holds S [] [] H):Ext S [] H S [] (R2 S H):=by
 refine⟨λ_ _ _ h=>h,λb _ _=>⟨λa=>?_,U,U⟩,λb h=>.inl h,λb a v h=>.inl h,λb h=>?_⟩
 .cases c:S b a with
  | none=>exact .inl (Nh c)
  | some v=>
   obtain⟨p,i⟩:=g.Za b a v c;exact .inr ⟨v,p,U,i,Ni c⟩
 have e:∀b a,(R2 S H).Α b a=none->H.Α b a=none:=λb a h=>by
  cases c:S b a with
  | none=>rw[Nh c]at h;exact h
  | some v=>rw[Ni c]at h;cases h
 exact⟨λa=>e b a (h.1 a),h.2.1,h.2.2.1,λd f=>⟨λa=>e d a ((h.2.2.2 d f).1 a),(h.2.2.2 d f).2⟩⟩
def Holds.P8(a:Holds S B σ H)(d:∀b,¬H.fresh b->UY H H' b)(l:∀b,H'.fresh b->H.fresh b):Holds S B σ H'/\Ext S B H S B H':=by
 have n:∀b c x,H.Α b c=some x->¬H.fresh b:=λb c x h f=>by rw[f.1 c]at h;cases h
 refine⟨⟨λb c v h=>?_,a.len,λid r bo g i=>?_,a.inj,a.sep⟩,⟨λ_ _ _ h=>h,λb _ f=>S7.of (d b f),λb h=>.inl h,λb c v h=>.inl h,l⟩⟩
 .obtain⟨p,j⟩:=a.Za b c v h;exact⟨p,by rw[(d b (n b c _ j)).1];exact j⟩
 by_cases k:r.live
 .refine(a.row id r bo g i).later (ZC.refl S B σ) (λb N e=>d b (a.RE g k (by rw[i,e]))) λm left t e=>?_;subst e;obtain⟨_,_,u,w,xs,y,seen,_,A,⟨es,o⟩,_⟩:=a.row id _ bo g i;exact⟨U,U,λb N s=>d b (a.RE o trivial s)⟩
 cases r<;>first|exact absurd trivial k|trivial
def Ext.P8(h:Ext WZ [] H YE [] H'){b:Nat}(a:¬H.fresh b):UY H H' b:=(h.XU b (λ⟨N,x⟩=>by simp at x) a).P8 λ_=>rfl
def zl{w:World}(d:Fits H w)(e:Fits E w){b a:Nat}{u v:Value}{p q:Bool}(h:H.Α b a=some (u,p))(k:E.Α b a=some (v,q)):u=v:=by
 have c:=d.Α b a u p h;rw[e.Α b a v q k]at c;exact(Xq c).symm
def Dl{w:World}(f:Fits H w)(m:Fits E w)(n:Apart H E){b N:Nat}{t:TypeId}(h:E.row b=some (t,N))(o:∀a,a<N->∃v,E.Α b a=some (v,true)):(∀a,H.Α b a=none)/\UY E (join H E) b:=by
 obtain⟨c,_,g,p⟩:=m.row b t N h;have i:∀a,H.Α b a=none:=λa=>by
  cases d:H.Α b a with
  | none=>rfl
  | some x=>
   have j:=f.Α b a x.1 x.2 d;by_cases k:a<N
   .exact absurd ⟨x,d⟩ (n.Qe b a (o a k))
   simp only[World.cell?,g]at j;simp[p,k]at j
 refine⟨i,λa=>join_none (i a),?_,?_⟩
 .cases d:H.row b with
  | none=>simp only[join,d]
  | some x=>
   obtain⟨c',_,e,l⟩:=f.row b x.1 x.2 d;rw[g]at e;cases e;simp only[join,d,h];obtain⟨r,s⟩:=x
   simp_all
 cases d:H.obj b with
 | none=>simp only[join,d]
 | some x=>
  obtain⟨e,l⟩:=f.obj b x d;rw[g]at e;cases e;simp[Obj.OD]at l
def Dk(j:Holds S [] [] H)(g:Holds VL B σ E)(C:Apart H E)(D:∃w,Fits H w/\Fits E w)(y:∀r∈σ,Ts r) :
  Holds (S.plus VL) B σ (join H E)/\ZC S (S.plus VL) [] B [] σ/\ZC VL (S.plus VL) B B σ σ:=by
 obtain⟨w,n,o⟩:=D;have F:∀b a v,VL b a=some v->S.plus VL b a=some v:=λb a v h=>by
  cases c:S b a with
  | none=>rw[I2 c];exact h
  | some u=>
   obtain⟨p,d⟩:=j.Za b a u c;obtain⟨q,I⟩:=g.Za b a v h;rw[LO c,zl n o d I]
 have l1:ZC S (S.plus VL) [] B [] σ:=⟨λb a v h=>LO h,λid r h=>by simp at h⟩
 have l2:ZC VL (S.plus VL) B B σ σ:=⟨F,λid r h=>⟨r,h,r.Sv _⟩⟩
 have A:∀(id:Nat)(r:Row)(b N:Nat),σ[id]?=some r->B[id]?=some (some (b,N))->(∀a,H.Α b a=none)/\UY E (join H E) b:=λid r b N f J=>by
  obtain⟨t,k,l,rfl⟩:=y r (ZD f);obtain⟨K,_,Υ,_⟩:=g.row id _ _ f J;exact Dl n o C K Υ
 refine⟨⟨λb a v h=>?_,g.len,λid r bo f i=>?_,g.inj,λid r b N f L i a=>?_⟩,l1,l2⟩
 .cases c:S b a with
  | some u=>
   rw[LO c]at h;cases h;obtain⟨p,d⟩:=j.Za b a _ c;exact⟨p,join_some d⟩
  | none=>
   rw[I2 c]at h;obtain⟨p,d⟩:=g.Za b a v h;cases s:H.Α b a with
   | none=>exact⟨p,by rw[join_none s];exact d⟩
   | some x=>
    obtain⟨u,q⟩:=x;have:=zl n o s d;subst this;exact⟨q,join_some s⟩
 .refine(g.row id r bo f i).later l2 (λb N e=>(A id r b N f (by rw[i,e])).2) λm left O e=>?_;subst e;obtain⟨t,k,l,e⟩:=y _ (ZD f);cases e
 have M:=(A id r b N f i).1 a;cases c:S b a with
 | some u=>
  obtain⟨p,d⟩:=j.Za b a u c;rw[M]at d;cases d
 | none=>rw[I2 c];exact g.sep id r b N f L i a
def Kq{a:Nat}{x:Value×Bool}(c:G.Α β a=some x){b:Nat}(d:G.fresh b):β<b:=by
 by_cases e:β<b
 .exact e
 rcases MO b β with h|h
 .have:=(d.2.2.2 β h).1 a;rw[c]at this;cases this
 obtain rfl:β=b:=J
 rw[d.1 a]at c;cases c
def Dj{b:Nat}(a:G.fresh β)(h:β<b):G.fresh b:=
 ⟨(a.2.2.2 b h).1,(a.2.2.2 b h).2.1,(a.2.2.2 b h).2.2,λc d=>a.2.2.2 c (Tg h d)⟩
def zk(c:∀b a v,S b a=some v->Y2 b a≠none\/β<b):Tt β Y2 (Ue S):=
 ⟨λb a x h=>let ⟨v,d,_⟩:=LP h;c b a v d,λb x h=>(by cases h),λb x h=>(by cases h)⟩
def Tt.join(h:Tt β Y2 G)(k:Tt β Y2 E):Tt β Y2 (join G E):=by
 refine⟨λb c x a=>?_,λb x a=>(qg a).elim (h.row b x) (k.row b x),λb x a=>(qf a).elim (h.obj b x) (k.obj b x)⟩;cases d:G.Α b c with
 | none=>rw[join_none d]at a;exact k.Α b c x a
 | some y=>exact h.Α b c y d
def Tt.ext(h:Tt β Y2 G){G':Φ}(g:Ext S B G YE B' G')(i:∀b,B.has b->β<b){d:Nat}{x:Value×Bool}(j:G.Α β d=some x):Tt β Y2 G':=by
 have f:∀b,¬β<b->S7 S G G' b:=λb a=>g.XU b (λk=>a (i b k)) λk=>a (Kq j k);refine⟨λb d x c=>?_,λb x c=>?_,λb x c=>?_⟩
 .by_cases a:β<b
  .exact .inr a
  rcases(f b a).1 d with e|⟨v,p,_,e,_⟩
  .rw[e]at c;exact h.Α b d x c
  exact h.Α b d _ e
 .by_cases a:β<b
  .exact a
  rw[(f b a).2.1]at c;exact h.row b x c
 by_cases a:β<b
 .exact a
 rw[(f b a).2.2]at c;exact h.obj b x c
def FW{G':Φ}(c:Ext S B G YE B' G')(d:¬B.has β)(f:∃a x,G.Α β a=some x):∃a x,G'.Α β a=some x:=by
 obtain⟨a,x,b⟩:=f;rcases(c.XU β d (λg=>by rw[g.1 a]at b;cases b)).1 a with e|⟨v,p,_,_,e⟩
 .exact⟨a,x,by rw[e];exact b⟩
 exact⟨a,_,e⟩
def Tt.blocks(h:Tt β Y2 E)(c:Holds VL B σ E)(f:∀r∈σ,Ts r){b:Nat}(g:B.has b):β<b:=by
 obtain⟨N,i⟩:=g;obtain⟨id,d⟩:=Tl i;have j:id<σ.length:=by rw[<-c.len];exact(ZT.1 d).1
 have a:=ξ j;obtain⟨t,k,l,e⟩:=f _ (ZD a);rw[e]at a;exact h.row b _ (c.row id _ _ a d).1
def zj(i:Ext Uv [] WV S [] H)(m:∀b a v,Y2 b a=some v->S b a=some v)(l:WV.fresh β)(hi:Tt β Y2 E)(t:Holds S [] [] H)(n:Holds VL B σ E)(w:∀r∈σ,Ts r) :
  Ext Uv [] WV (S.plus VL) B (join H E):=by
 have A:∀b,¬ZZ.has ([]:ZZ) b:=λb ⟨N,h⟩=>by simp at h
 have C:∀b,¬WV.fresh b->¬β<b:=λb h k=>h (Dj l k)
 have D:∀b,¬β<b->∀a,(join H E).Α b a=H.Α b a:=λb e a=>by
  cases d:H.Α b a with
  | some x=>rw[join_some d]
  | none=>
   rw[join_none d];cases F:E.Α b a with
   | none=>rfl
   | some y=>
    rcases hi.Α b a y F with k|k
    .cases f:Y2 b a with
     | none=>exact absurd f k
     | some v=>
      obtain⟨p,j⟩:=t.Za b a v (m b a v f);rw[d]at j;cases j
    exact absurd k e
 refine⟨λb a v h=>LO (i.Za b a v h),λb _ o=>?_,λb e=>.inr (Dj l (hi.blocks n w e)),λb a v h=>?_,λb h=>i.grow b ?_⟩
 .have e:=C b o;obtain⟨I,J,K⟩:=i.XU b (A b) o;refine⟨λa=>by rw[D b e a];exact I a,?_,?_⟩
  .cases d:E.row b with
   | none=>rw[<-J];simp only[join,d];cases H.row b<;>rfl
   | some x=>exact absurd (hi.row b x d) e
  cases d:E.obj b with
  | none=>rw[<-K];simp only[join,d];cases H.obj b<;>rfl
  | some x=>exact absurd (hi.obj b x d) e
 .cases f:S b a with
  | some u=>rw[LO f]at h;cases h;exact i.S6 b a _ f
  | none=>
   rw[I2 f]at h;obtain⟨p,j⟩:=n.Za b a v h;rcases hi.Α b a _ j with k|k
   .cases s:Y2 b a with
    | none=>exact absurd s k
    | some u=>rw[m b a u s]at f;cases f
   exact .inr (.inr (Dj l k))
 have c:∀b a,(join H E).Α b a=none->H.Α b a=none:=λb a h=>by
  cases d:H.Α b a with
  | none=>rfl
  | some x=>rw[join_some d]at h;cases h
 have r:∀b,(join H E).row b=none->H.row b=none:=λb h=>by
  cases d:H.row b with
  | none=>rfl
  | some x=>simp only[join,d]at h;cases h
 have a:∀b,(join H E).obj b=none->H.obj b=none:=λb h=>by
  cases d:H.obj b with
  | none=>rfl
  | some x=>simp only[join,d]at h;cases h
 exact⟨λo'=>c b o' (h.1 o'),r b h.2.1,a b h.2.2.1,λg e=>⟨λo'=>c g o' ((h.2.2.2 g e).1 o'),r g (h.2.2.2 g e).2.1,a g (h.2.2.2 g e).2.2⟩⟩
end
end Go.TL
namespace Go.TL
open Go.IntKind (i32 i64 u32 u64)
open Go.Proofs.Tryz
open Go.Conc Go.Proofs
open Go.ConcN (sumTo upd sumTo_upd upd_ne upd_same sumTo_congr le_sumTo)
noncomputable def under(P:Program):Frame:={(default:Frame)with fn:=P.funcs.size,defers:=[],mode:=.panicking [goexitEntry]}
def zi{P:Program}{g:FuncId}{cap:ZP}(b:Plain P g)(w:World):stepG P false (born P ⟨.fn (.func g) cap,#[]⟩) w=.go (Go.Conc.G (Frame.enter P g cap .deferred) [under P]) w #[]:=by
 obtain⟨fn,c,d,a⟩:=b;have f:¬fn.name = "runtime.NumGoroutine" := by simpa using d
 have h:¬fn.body=none:=by intro e;rw[e]at a;cases a
 simp[born,stepG,unwind,callDeferred,invoke,callFunc,c,f,h,seen,GStep.after,Go.Conc.G,under]
def zh{P:Program}{b:Frame}{fn:Func}(a:P.funcs[b.fn]?=some fn)(c:fn.results=#[])(d:b.defers=[])(e:b.mode=.returning)(f:b.kind=.deferred):Tu P 0 (Go.Conc.G b [under P]):=by
 refine⟨2,QuitsD.ctl (g':=Go.Conc.G (under P) []) U (λw=>?_) ?_⟩
 .simp[Go.Conc.G,stepG,unwind,e,d,a,doReturn,results,c,f,under,seen,GStep.after,goexitEntry]
 refine QuitsD.ctl (g':={Go.Conc.G (under P) []with status:=.finished}) U (λw=>?_) ⟨U,U⟩;simp[Go.Conc.G,stepG,unwind,under,goexitEntry,Frame.catches];rfl
def N9(l:μ):Ψ:=if l.isEmpty then .sl true 0 [] else .ms 1 l.length 0 l.length
def Wv(l:μ):Ρ:=.cells 166 1 [N9 l]::X1 173 3 l
def Di:N9 []=.sl true 0 []:=rfl
def FV{l:μ}(h:l≠[]):N9 l=.ms 1 l.length 0 l.length:=by unfold N9;rw[if_neg (by simpa using h)]
def zg{l:μ}{x:Ψ}:N9 (l++[x])=.ms 1 (l.length+1) 0 (l.length+1):=by rw[FV o];simp
def FU(l:μ):∀r∈Wv l,Ts r:=by
 intro r h;unfold Wv X1 at h;rcases YU.1 h with rfl|h
 .exact⟨_,_,_,U⟩
 split at h
 .cases h
 simp at h;subst h;exact⟨_,_,_,U⟩
def LN(a:Nat)(b:ζ)(c:Nat)(fd:Nat->Option Found)(L:Z6)(E:Φ):Prop:=
 Tt a b E/\∃S B,Holds S B (Wv ((L.filterMap fd).map YB)) E/\B[0]?=some (some (c,1))
def qb{S c:ζ}{B B':ZZ}{l b:μ}{m:Nat}(h:ZC S c (B.take m) B' ((Wv l).take m) (Wv b))(f:0<m):B'[0]?=B[0]?:=by
 obtain⟨m,rfl⟩:∃k,m=k+1:=⟨m-1,J⟩;obtain⟨r',d,e⟩:=h.rows 0 (.cells 166 1 [N9 l]) (by simp[Wv]);have:r'=.cells 166 1 [N9 b]:=by simpa[Wv] using d.symm
 subst this;rcases e with⟨l2,_,_,a⟩|a
 .simpa[Q4] using a
 have:=a 1 o;simp[Row.W3]at this
section
variable{β s m Η k:Nat}{S Y2:ζ}{fd:Nat->Option Found}{sp:Spec}{WU:Zm}{a b:Int}{v1 v2 I1:Value}{f:Found}{n:Nat}
abbrev Ud(s:Nat)(sp:Spec):Z0:=⟨Φ.empty,λ_=>none,λ_=>.nil,upd (λ_=>none) s (some sp),λ_=>none,0,false⟩
abbrev Dh(s m Η:Nat)(v1 v2 I1:Value):ZP:=#[ptr s 0,v1,v2,I1,ptr m 0,ptr Η 0]
abbrev zf(s m Η:Nat)(WU:Zm)(a b:Int):μ:=[.z (ptr s 0),XC WU,.Κ [I a],.Κ [I b],.z (ptr m 0),.z (ptr Η 0)]
def Dg:(Ud s sp).spec s=some sp:=upd_same (λ_=>(none:Option Spec)) s (some sp)
def ze(a:sp.ZR=some m)(b:sp.top<7):Vk (Ud s sp) s m sp:=⟨rfl,rfl,Dg,a,b,λ_ _=>trivial⟩
def qa(a:sp.top<7):I4 (Ud s sp) s sp:=⟨rfl,rfl,Dg,a,λ_ _=>trivial⟩
def p'(n:sp.ZR=some m)(d:sp.top<7)(e:sp.D k Φ.empty){f:Value->Prop}{c:Frame}{H:Φ}{v:Option (Nat×Z5)}{d1:Deferred}(a:O9 prog d1 74 #[ptr s 0])
  (b:c.mode=.returning) (g:c.defers=[d1]) (h:c.kind=.deferred) (i:c.fn=181):Zx prog f false (ZW (Ud s sp) s (.ch k .done .work) v 0) c [under prog] H:=by
 letI:Z8:=Yg;have j:Seq (one (ZW (Ud s sp) s (.ch k .done .work) v 0)):=Seq.PV trivial U U;refine η.deferred (x:=one _) j (by rw[b];simp) g a.t1 a.t2 a.run (λy l=>?_) _ U;cases l;refine zn (qa d) e b ?_;exact zh (fn:=f181) (by rw[i];exact func181) U U b h
def p9(g:sp.ZR=some m)(i:sp.top<7)(n:sp.Yd=LN β Y2 Η fd)(o:sp.D k Φ.empty){p:Value->Prop}{c:Frame}{r:ζ}{d:ZZ}{a:Φ}{L:Z6}{v:Option (Nat×Z5)}{d1 d2:Deferred}
  (t:O9 prog d1 74 #[ptr s 0]) (e:O9 prog d2 79 #[ptr m 0]) (f:c.mode=.returning) (u:c.defers=[d2,d1]) (w:c.kind=.deferred) (A:c.fn=181)
  (j:Holds r d (Wv (((L++[k]).filterMap fd).map YB)) a) (B:d[0]?=some (some (Η,1))) (hi:Tt β Y2 a) (C:∃q x,a.Α β q=some x) :
  Zx prog p false (ZW (Ud s sp) s (.ch k (.YG L) .work) v 0) c [under prog] a:=by
 letI:Z8:=Yg;have E:Seq (one (ZW (Ud s sp) s (.ch k (.YG L) .work) v 0)):=Seq.PV trivial U U;refine η.deferred (x:=one _) E (by rw[f];simp) u e.t1 e.t2 e.run (λy F=>?_) _ U;cases F;refine zy (x:=Ud s sp) (s:=s) (c:={c with defers:=[d1]}) (ze g i) j f λH I l J=>⟨Φ.empty,I,⟨Sub.empty _,Sub.refl _,(Apart.Po _).symm⟩,?_,λv2 O P _=>?_⟩
 .rw[n];obtain⟨K,Q,R⟩:=j.back l J;obtain⟨q,x,M⟩:=C;exact⟨hi.ext l (λb ⟨N,h⟩=>by simp at h) M,H,d,K,B⟩
 exact p' g i o t f U w A
end
section
variable{β s m Η k:Nat}{S Y2:ζ}{fd:Nat->Option Found}{sp:Spec}{WU:Zm}{a b:Int}{v1 v2 I1:Value}{f:Found}{n:Nat}
noncomputable abbrev p8(vs:ZP)(ds:List Deferred):Frame:={Frame.enter prog 181 vs .deferred with defers:=ds}
noncomputable def Df:Code:=f181.body.getD .skip
def p7(al:sp.ZR=some m)(am:sp.top<7)(Z:sp.Yd=LN β Y2 Η fd)(an:sp.D k Φ.empty)(ao:∀c,@Μ c prog 183 [YB f,I (-1)] (I n))(aa:fd k=if 0<n then some f else none){Q}
  {p H' E L} (ap:Holds p [] [] H') (ab:sp.Yd L E) (aq:Apart H' E) (ar:∃w,Fits H' w/\Fits E w) (au:((L.filterMap fd).map YB).length<=4294967295) (av:Tt β Y2 H') (aw:∃q x,H'.Α β q=some x)
  {t} (ad:Y' p [] [] [(4,.z (ptr m 0)),(5,.z (ptr Η 0)),(6,.Κ (YB f).cells)] t) (ax:t.size=20) {vs d1} (ay:O9 prog d1 74 #[ptr s 0]) {ops} :
  Zx prog Q false (ZW (Ud s sp) s (.ch k (.YG L) .work) none 0) (χ (p8 vs [d1]) t [.inRegion ops [],.code (YN [1,1,1] Df)]) [under prog] (join H' E):=by
 letI:Z8:=Yg;have r:Seq (one (ZW (Ud s sp) s (.ch k (.YG L) .work) none 0)):=Seq.PV trivial U U;rw[Z]at ab;let ⟨hi,C,F,O,ae⟩:=ab;let ⟨l,H⟩:=ν ((L.filterMap fd).map YB);have az:=H▸au;rw[<-H]at O;let ⟨aA,l1,l2⟩:=Dk ap O aq ar (FU l);have af:∀b,F.has b->β<b:=λb=>hi.blocks O (FU l);have aB:∃q x,(join H' E).Α β q=some x:=let ⟨q,x,h⟩:=aw;⟨q,x,join_some h⟩;have aC:t.getD 5 undef=ptr Η 0:=by
  have:=ad 5;generalize t.getD 5 undef=u at this;cases this;rfl
 have aD:Y' (p.plus C) F (Wv l) [(4,.z (ptr m 0)),(5,.Ο 0 1 0 0),(6,.Κ (YB f).cells)] t:=λi=>by
  have P:=(ad i).later l1;simp only[ε]at P ⊢;by_cases ag:4=i
  .simpa[ag] using P
  by_cases ah:5=i
  .subst ah;simp only[show ¬4=5 by decide,if_false,if_true];rw[aC];have:=Θ.Ο (S:=p.plus C) (σ:=Wv l) (i:=0) (j:=0) (k:=1) (t:=166) (l:=[N9 l]) (b:=Η) (N:=1) (by simp[Wv]) U ae;simpa using this
  simpa[ag,ah] using P
 have ai:∀(K)(g)(o)(a)(c)(d2),K=((L++[k]).filterMap fd).map YB->Xi 1 (p.plus C) F (join H' E) (Wv l) g o a (Wv K)->Holds g o (Wv K) a->O9 prog d2 79 #[ptr m 0]->
   c.mode=.returning->c.defers=[d2,d1]->c.kind=.deferred->c.fn=181->Zx prog Q false (ZW (Ud s sp) s (.ch k (.YG L) .work) none 0) c [under prog] a:=λK g o a c d2 e R aE M aF aG aH aI=>by
  subst e;let ⟨q,x,aj⟩:=aB;exact p9 al am Z an ay M aF aG aH aI aE (by rw[qb R.later J];exact ae) ((av.join hi).ext R.ext af aj) (FW R.ext (λh=>Nat.lt_irrefl _ (af β h)) ⟨q,x,aj⟩)
 refine V.here (x:=one _) (m:=1) (nt:=20) (S:=p.plus C) (B:=F) (σ:=Wv l) (env:=[(4,.z (ptr m 0)),(5,.Ο 0 1 0 0),(6,.Κ (YB f).cells)]) ?_ ⟨aA,aD,ax,by simp[Wv]⟩ _ U;apply V.Ys r U;apply W.ZK;simp only[Df,f181,Option.getD_some,YN];refine ZA ?_;refine W.Zs (.stop ?_);refine V.defer r U U U U U U U ⟨_,func79,U,U⟩ λaM aN aO t3 d2 aP ak aJ aK M=>?_;obtain rfl:=V8 (l:=[ptr m 0]) aK;rintro y rfl;refine V.here (x:=one _) (m:=1) (nt:=20) ?_ aJ _ U;apply V.Ys r U;apply W.ZK;refine ο λaQ aL=>?_;refine Μ.d (ao _) (ς ?_);apply aL;by_cases T:0<n
 .apply Β (by simp[T]);refine W.Wr (A:=[19]) Τ [] (Wv (l++[YB f])) (.stop ?_) (by
   by_cases v:l=[]
   .subst v;(try simp);(repeat (rw[Ι];simp[Wv,Di,R6]));(try simp[Wv,Di,R6]);exact⟨U,U⟩
   ·(try simp);(repeat (rw[Ι];simp[Wv,FV v,UT v,zg,KC]));(try simp[Wv,FV v,UT v,zg,KC]);exact az)
  intro g o a t5 X Y;apply η.QR r U U;rintro y rfl;exact ai _ g o a _ d2 (by rw[List.filterMap_append,WT,<-H];simp[aa,T]) (ak.trans X) Y.holds M U U U U
 apply Δ (by simp;omega);refine ZA ?_;apply W.stop;intro g o a t5 X Y;apply η.QR r U U;rintro y rfl;exact ai _ g o a _ d2 (by rw[List.filterMap_append,WT,<-H];simp[aa,T]) (ak.trans X) Y.holds M U U U U
def Rk{S B σ env env' t}(h:Y' S B σ env t)(a:∀p∈env',ε env p.1=p.2):Y' S B σ env' t:=by
 induction env' with
 | nil=>exact λi=>.Zl _
 | cons p l b=>
  intro i;simp only[ε];split
  .rename_i e;have:=a p o;rw[<-this,e];exact h i
  exact b (λq c=>a q (by simp[c])) i
def p6(i:sp.ZR=some m)(j:sp.top<7)(F:sp.Yd=LN β Y2 Η fd)(H:sp.D k Φ.empty)(J:∀c,@Μ c prog 182 [Wa WU,Y6 (a,b)] (YB f))
  (K:∀c,@Μ c prog 183 [YB f,I (-1)] (I n)) (M:fd k=if 0<n then some f else none) (O:∀L:Z6,L.Nodup->((L.filterMap fd).map YB).length<=4294967295)
  (P:∃q v,S β q=some v) (R:∀b q v,S b q=some v->Y2 b q≠none\/β<b) (T:XF S [] [] (zf s m Η WU a b) (Dh s m Η v1 v2 I1)) {Q} :
  Goes prog Q false (born prog ⟨.fn (.func 181) (Dh s m Η v1 v2 I1),#[]⟩) {ZW (Ud s sp) s (.ch k .idle .work) none 0 with G:=Ue S}:=by
 letI:Z8:=Yg;have e:Seq (one (ZW (Ud s sp) s (.ch k .idle .work) none 0)):=Seq.PV trivial U U;apply Quiet.goes (.cons ⟨U,U⟩ (λw=>zi ⟨_,func181,U,U⟩ w) (.nil _)) (.inl U) ⟨U,U⟩;rw[Ty func181 U];refine V.here (x:=one _) ?_ (XG.enter qc T (Z3 _) o) _ U;apply V.Ys e U;simp only[Df,f181,Option.getD_some];refine ZA ?_;refine W.Zs (.stop ?_);refine V.defer e U U U U U U U ⟨_,func74,U,U⟩ λam X an t3 d1 ao Y p Z aa=>?_;obtain rfl:=V8 (l:=[ptr s 0]) Z;obtain rfl:X=[]:=YY.1 p.holds.len;rintro y rfl;refine V.here (x:=one _) ?_ p _ U;apply V.Ys e U;apply W.ZK;refine ZA ?_;refine ZB (A:=[6]) Τ λap ab=>ς ?_;refine Μ.d (J _) (ς ?_);apply ab;apply W.fix (id:=0) (σ':=[]) (Γ _) U o o U [(4,.z (ptr m 0)),(5,.z (ptr Η 0)),(6,.Κ (YB f).cells)] (by simp[entry]);refine ZA ?_;refine W.Zs (.stop ?_);refine V.call e ⟨U,U,by simp[Frame.enter],U⟩ U U U ⟨_,func78,U,U⟩ λaq ad ar t4 au ae g af=>?_;obtain rfl:=V8 (l:=[ptr m 0]) af;obtain rfl:ad=[]:=YY.1 g.holds.len;rintro y rfl;refine zG (ze i j) g.holds λav aw L E t ag ah ai ⟨aj,ax,ak⟩=>?_;rw[VQ U];have u:=Y.ext.trans (ae.ext.trans t);let ⟨al,ay,B⟩:=P;have C:∀b,¬ZZ.has ([]:ZZ) b:=λb ⟨N,h⟩=>by simp at h
 exact p7 i j F H K M ag ah ai ak (O L aj) ((zk R).ext u (λb h=>absurd h (C b)) (I3 B)) (FW u (C β) ⟨al,_,I3 B⟩)
  (by
   refine Y'.later (Rk (g.put U (.z _)).Zt (by simp[Zr])) ⟨t.Za,λid r h=>by simp at h⟩) (g.put (a:=.z (.tuple #[])) U (.z _)).size aa
end
end Go.TL
namespace Go.TL
open Go.IntKind (i32 i64 u32 u64)
open Go.Proofs.Tryz
open Go.Conc Go.Proofs
variable[Z8]
def Ext.p5{S:ζ}{B:ZZ}{H:Φ}{r:Nat}{y:Obj}(a:H.fresh r):Ext S B H S B (H.Zp r y):=
 ⟨λ_ _ _ h=>h,λb _ c=>by
  have:b≠r:=λe=>c (e▸a);exact S7.of ⟨λ_=>rfl,U,by simp[Φ.Zp,this]⟩,λb h=>.inl h,λb d v h=>.inl h,Φ.JN⟩
def Holds.p1{S:ζ}{B:ZZ}{σ:Ρ}{H:Φ}(c:Holds S B σ H)(f:∀r∈σ,Ts r){b:Nat}(g:H.fresh b):¬B.has b:=λ⟨N,h⟩=>by
 obtain⟨id,d⟩:=Tl h;have i:id<σ.length:=by rw[<-c.len];exact(ZT.1 d).1
 have a:=ξ i;obtain⟨t,k,l,e⟩:=f _ (ZD a);rw[e]at a;exact c.RE a trivial d g
def p0{s:Zm}{F:Wz}{a:Int}(h:(Sq s a F).2.2=0):0<=a/\a<s.cells.length/\Sq s a F=(s,F,0):=by
 unfold Sq at h ⊢;split at h
 .rename_i b;simp at h;exact absurd h b
 split at h
 .simp at h
 rename_i b c;rw[if_neg b,if_neg c];refine⟨J,J,?_⟩;unfold Tx at h ⊢;rw[if_neg b]at h ⊢;split at h
 .simp at h
 rename_i d;rw[if_neg d]
end Go.TL
namespace Go.TL
open Go.IntKind (i32 i64 u32 u64)
open Go.Proofs.Tryz
open Go.Conc Go.Proofs
open Go.ConcN (sumTo upd sumTo_upd upd_ne upd_same sumTo_congr le_sumTo)
variable[Z8]
section
variable{P:Program}{Q:Value->Prop}{mn:Bool}{y:Z0}{f f' b:Frame}{cs cs':YM}{H:Φ}{t:ZP}{k:Zk}{ops:Y5}{i:Nat}{rest:Z6}{op:Oper}
def Zx.quiet(a:XY y)(b:∀w,stepG P mn (Go.Conc.G f cs) w=.go (Go.Conc.G f' cs') w #[])(h:Zx P Q mn y f' cs' H):Zx P Q mn y f cs H:=
 Quiet.goes (.cons ⟨U,U⟩ b (.nil _)) a ⟨U,U⟩ h
def Zx.next(a:XY y)(d:b.mode=.run){id:Nat}{e:Y5}{c:Code}(h:Zx P Q mn y (χ b t (.inRegion e (List.range e.size)::.code c::k)) cs H):Zx P Q mn y (χ b t (.inRegion ops []::.code (.seq (.region id e false) c)::k)) cs H:=
 .quiet a (λw=>(UZ d w).trans U) (.quiet a (λw=>(UZ d w).trans U) (.quiet a (λw=>(UZ d w).trans U) h))
def pZ{a:TypeId}{b:TypeInfo}{z:Value}(hi:P.info? a=some b)(c:b.zero=some z)(w:World) :
  (Instr.alloc a true (.tuple #[])).run P w=.ok (ptr w.heap.size 0) (w.alloc (.cells z.cells a (0,0)))/\∀es,(Instr.alloc a true (.tuple #[])).events P w es=es:=by
 constructor
 .simp[Instr.alloc,zeroValue,typeInfo,newVar,newRow,hi,c,Result.andThen]
 intro es;simp[Instr.alloc,zeroValue,typeInfo,newVar,newRow,hi,c,Result.andThen,Result.evThen]
def Zx.I0{d:TypeId}{n:TypeInfo}{z:Value}(D:y.rel=false)(f:SV b ops i op)(E:op.op=.alloc d)(F:op.guard=none)(hi:P.info? d=some n)(I:n.zero=some z)
  (h:∀r,H.fresh r->(∀c v,y.Z9 c=some v->c<r)->Zx P Q mn {y with Z9:=upd y.Z9 r (some (z.cells,d))} (χ b (put op t (ptr r 0)) (.inRegion ops rest::k)) cs H):Zx P Q mn y (χ b t (.inRegion ops (i::rest)::k)) cs H:=by
 refine Goes.step (XY.ok (.inl D)) (.inr ⟨⟨U,U⟩,.inl λw o hv=>?_⟩);obtain⟨s,J⟩:=pZ (P:=P) hi I w;have K:Region.wanted op (yielded ops t)=true:=by unfold Region.wanted;rw[F]
 have L:stepG P mn (Go.Conc.G (χ b t (.inRegion ops (i::rest)::k)) cs) w=.go (Go.Conc.G (χ b (put op t (ptr w.heap.size 0)) (.inRegion ops rest::k)) cs) (w.alloc (.cells z.cells d (0,0))) #[]:=by
  have e:execOp (ZX t) op=(do pure (.value (<-Instr.alloc d true (.tuple #[])))):=by unfold execOp;rw[E]
  rw[Xa f.run f.ro,Xa f.run f.ro,<-Od];have M:(execOp (⟨t,b.defers⟩:_root_.Go.Act).eval op).run P w=.ok (.value (ptr w.heap.size 0)) (w.alloc (.cells z.cells d (0,0))):=by rw[Uy,e];simp[s,Result.andThen]
  have g:(execOp (⟨t,b.defers⟩:_root_.Go.Act).eval op).events P w #[]=#[]:=by rw[Uy,e];simp[s,J,Result.evThen]
  rw[stepG_value f.op K f.kd M];unfold listed;rw[g,seen_none]
 rw[L];have u:=(Yq.start o).row z.cells d;have j:Φ.fresh H w.heap.size:=o.fresh;have N:Sub H (H.YF w.heap.size z.cells d):=by
  refine⟨λc m v p a=>⟨p,?_,id⟩,λc x a=>?_,λc x a=>a⟩
  .have:c≠w.heap.size:=λe=>by rw[e,j.1 m]at a;cases a
   simpa[Φ.YF,this] using a
  have:c≠w.heap.size:=λe=>by rw[e,j.2.1]at a;cases a
  simpa[Φ.YF,this] using a
 have A:∀c v,y.Z9 c=some v->c<w.heap.size:=λc v a=>by
  have:=hv c v.1 v.2 a;exact(Sd.1 this).1
 refine⟨H,upd y.Z9 w.heap.size (some (z.cells,d)),⟨U,U⟩,u.keeps,N.fits u.fit,λc c' t' a=>?_,⟨λc m v p a=>.inr ⟨v,p,a,id⟩,λc a=>.inr a⟩,λc c' a=>?_,λe g=>by simp at g,λc c' _ _ e g=>by simp at g,h _ j A⟩
 .by_cases e:c=w.heap.size
  .subst e;rw[upd_same]at a;cases a;exact HJ
  rw[upd_ne _ _ e]at a;have B:=hv c c' t' a;have C:=A c _ a;show(w.heap.push _)[c]?=_;rw[Array.getElem?_push_lt C];rw[XV C]at B;exact B
 by_cases e:c=w.heap.size
 .exact .inr ⟨Nat.le_of_eq e.symm,⟨λm ⟨x,l⟩=>(by rw[e,j.1 m]at l;cases l),λ⟨x,l⟩=>(by rw[e,j.2.2.1]at l;cases l)⟩⟩
 rw[upd_ne _ _ e]at a;exact .inl a
def zd{B:Type}{s:Nat}:upd (λ_=>(none:Option B)) s none=λ_=>none:=by
 funext i
 by_cases e:i=s
 .subst e;exact upd_same ..
 exact upd_ne _ _ e
def Zx.group{sp:Spec}{s m b:Nat}{l n i:TypeId}{c:ZP}(o:y.rel=false)(D:y.Z9=λ_=>none)(E:m<s)(F:s<b)(t:sp.ZR=some m)(k:H.fresh b)(I:sp.Yd [] (Φ.empty.YF b c i))
  (h:y.tok s=.nil->Zx P Q mn {y with tok:=upd y.tok s (.par 0 0 .add),spec:=upd y.spec s (some sp),view:=upd y.view s none} f cs H) :
  Zx P Q mn {y with Z9:=upd (upd (upd y.Z9 m (some (#[.int .i32 0,.int .u32 0],n))) s (some (#[.int .u64 0,.int .u32 0],l))) b (some (c,i))} f cs H:=by
 have u:s≠b:=Nat.ne_of_lt F
 have w:m≠b:=J
 have A:m≠s:=Nat.ne_of_lt E;refine Goes.step (XY.ok (.inl o)) (.inr ⟨⟨U,U⟩,.inr (.inr (.inr (.inr (.inr (.inr (.inr (.inr (.inr (.inr (.inl ⟨b,c,i,upd_same ..,?_⟩))))))))))⟩);refine Goes.step (XY.ok (.inl o)) (.inr ⟨⟨U,U⟩,.inr (.inr (.inr (.inr (.inr (.inr (.inr (.inr (.inr (.inr (.inr ⟨s,sp,l,H,Φ.empty.YF b c i,?_,λM B=>?_,o,?_,λ_=>I,λK=>?_⟩))))))))))⟩)
 .show upd (upd _ b _) b none s=_;rw[upd_ne _ _ u,upd_ne _ _ u,upd_same]
 .rw[t]at B;cases B;refine⟨A,n,?_⟩;show upd (upd _ b _) b none m=_;rw[upd_ne _ _ w,upd_ne _ _ w,upd_ne _ _ A,upd_same]
 .refine⟨⟨λa q v p d=>⟨p,?_,id⟩,λa x d=>?_,λa x d=>d⟩,⟨λa q v p d=>⟨p,?_,id⟩,λa x d=>?_,λa x d=>(by cases d)⟩,⟨λa q ⟨v,hv⟩ ⟨x,g⟩=>?_,λa q ⟨v,hv⟩ ⟨x,g⟩=>?_,λa _ ⟨x,g⟩=>(by cases g)⟩⟩
  .have:a≠b:=λe=>by rw[e,k.1 q]at d;cases d
   simpa[this] using d
  .have:a≠b:=λe=>by rw[e,k.2.1]at d;cases d
   simpa[this] using d
  .by_cases e:a=b
   .simpa[Φ.YF,e] using d
   simp[Φ.YF,e,Φ.empty]at d
  .by_cases e:a=b
   .simpa[Φ.YF,e] using d
   simp[Φ.YF,e,Φ.empty]at d
  .by_cases e:a=b
   .rw[e,k.1 q]at hv;cases hv
   simp[Φ.YF,e,Φ.empty]at g
  by_cases e:a=b
  .rw[e,k.1 q]at g;cases g
  simp[Φ.YF,e,Φ.empty]at hv
 have e:(λa=>if a=s\/sp.ZR=some a then none else upd (upd (upd (upd y.Z9 m (some (#[.int .i32 0,.int .u32 0],n))) s (some (#[.int .u64 0,.int .u32 0],l))) b (some (c,i))) b none a)=y.Z9:=by
  funext a
  rw[D];by_cases j:a=s\/sp.ZR=some a
  .rw[if_pos j]
  rw[if_neg j];rw[t]at j;have Υ:a≠s:=λe=>j (.inl e);have L:a≠m:=λe=>j (.inr (by rw[e]));by_cases r:a=b
  .rw[r,upd_same]
  rw[upd_ne _ _ r,upd_ne _ _ r,upd_ne _ _ Υ,upd_ne _ _ L]
 have C:Goes P Q mn (Go.Conc.G f cs) {y with G:=H,Z9:=y.Z9,tok:=upd y.tok s (.par 0 0 .add),spec:=upd y.spec s (some sp),view:=upd y.view s none}:=h K;rw[<-e]at C;exact C
def Zx.EL{s n p:Nat}{sp:Spec}{g:FuncId}{d:ZP}(h:y.rel=false)(j:y.deaf=0)(l:y.spec s=some sp)(m:y.tok s=.par n (p+1) .add)(c:SV b ops i op)(o:op.guard=none){f:Operand}{r:Array TypeId}(u:op.op=.go ⟨.value f,#[],r⟩)(v:op.dst=none)
  (hv:ZX t f=.func (.func g) #[] d) {S:ζ} (x:Holds S [] [] H) (A:Zx P Q mn {y with tok:=upd y.tok s (.par n p .add),view:=upd y.view s none} (χ b t (.inRegion ops rest::k)) cs (R2 S H))
  (B:Goes P Q false (born P ⟨.fn (.func g) d,#[]⟩) {ZW (Ud s sp) s (.ch (n-(p+1)) .idle .work) none 0 with G:=Ue S}):Zx P Q mn y (χ b t (.inRegion ops (i::rest)::k)) cs H:=by
 have C:Region.wanted op (yielded ops t)=true:=by unfold Region.wanted;rw[o]
 have D:∀w,stepG P mn (Go.Conc.G (χ b t (.inRegion ops (i::rest)::k)) cs) w=.spawn (Go.Conc.G (χ b t (.inRegion ops rest::k)) cs) (born P ⟨.fn (.func g) d,#[]⟩) w #[]:=λw=>by
  have e:execOp (ZX t) op=(do pure (.spawn (<-Deferred.ofValue (ZX t f) (#[].map (ZX t))))):=by unfold execOp;rw[u];rfl
  rw[Xa c.run c.ro,Xa c.run c.ro];have E:(execOp (⟨t,b.defers⟩:_root_.Go.Act).eval op).run P w=.ok (.spawn ⟨.fn (.func g) d,#[]⟩) w:=by rw[Uy,e,hv];simp[Deferred.ofValue,Result.andThen]
  have F:(execOp (⟨t,b.defers⟩:_root_.Go.Act).eval op).events P w #[]=#[]:=by rw[Uy,e,hv];simp[Deferred.ofValue,Result.andThen,Result.evThen]
  rw[stepG_spawn (a:=⟨t,b.defers⟩) c.op C c.kd E U];have:(⟨t,b.defers⟩:_root_.Go.Act).put op.dst undef=⟨t,b.defers⟩:=by rw[v];rfl
  rw[this];unfold listed;rw[F,seen_none]
 refine Goes.step (XY.ok (.inl h)) (.inr ⟨⟨U,U⟩,.inr (.inr (.inr (.inr (.inr (.inr (.inr (.inr (.inl ⟨s,sp,n,p,Go.Conc.G (χ b t (.inRegion ops rest::k)) cs,born P ⟨.fn (.func g) d,#[]⟩,R2 S H,Ue S,l,m,j,⟨U,U⟩,⟨U,U⟩,h,λw _=>D w,qe x,A,?_⟩))))))))⟩);have e:({ZW (Ud s sp) s (.ch (n-(p+1)) .idle .work) none 0 with G:=Ue S}:Z0)=⟨Ue S,λ_=>none,upd (λ_=>.nil) s (.ch (n-(p+1)) .idle .work),upd (λ_=>none) s (some sp),λ_=>none,0,false⟩:=by
  unfold ZW;simp only[zd]
 rw[<-e];exact B
end
end Go.TL
