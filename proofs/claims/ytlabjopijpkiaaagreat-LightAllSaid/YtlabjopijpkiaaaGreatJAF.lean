import Derived.Test.YtlabjopijpkiaaaGreatJAE
set_option maxHeartbeats 16000000
set_option maxRecDepth 20000
set_option linter.unusedSectionVars false
set_option linter.unusedSimpArgs false
set_option linter.unusedVariables false
namespace Go.TL
open Go.Conc
def UL (H H':Χ) (b:Nat):Prop:=(∀o,H'.θ b o=H.θ b o)/\H'.row b=H.row b/\H'.obj b=H.obj b
theorem Tf.RG {a:μ} {c H:Χ} {b:Nat} (h:Tf a c H b) (e:∀o,a b o=none):UL c H b:=
 ⟨λo=>(h.1 o).elim id λ⟨v,p,d,_⟩=>(by rw[e o] at d;cases d),h.2⟩
section
variable {S YA:μ} {B B':Z8} {σ σ':Ο} {H H':Χ}
theorem P7.later (c:Zx S YA B B' σ σ') {es:List (Ω×Ω)} {xs:Array MapEntry} {d:Nat} (h:P7 S B σ es xs d):P7 YA B' σ' es xs d:=
 ⟨h.1,λi e y a b=>⟨(h.2.1 i e y a b).1.later c,(h.2.1 i e y a b).2.1.later c,(h.2.1 i e y a b).2.2⟩,h.2.2⟩
theorem J3.later (f:Zx S YA B B' σ σ') {left:List (Ω×Ω)} {g:Option (Ω×Ω)} {xs:Array MapEntry} {j:Nat} {seen:Array Nat} (h:J3 S B σ left g xs j seen):J3 YA B' σ' left g xs j seen:=by
 obtain⟨⟨l,m,n,k⟩,o,p⟩:=h;refine⟨⟨l,m,n,λi e y a b=>⟨(k i e y a b).1.later f,(k i e y a b).2.later f⟩⟩,o,λe r=>?_⟩;obtain⟨st,y,a,b,c,d⟩:=p e r;exact⟨st,y,a,b,c.later f,d.later f⟩
theorem Vd.later (g:Zx S YA B B' σ σ') {r:Row} {bo:Option (Nat×Nat)} (h:Vd S B σ H r bo) (n:∀b N,bo=some (b,N)->UL H H' b)
  (C:∀m left p,r=.iter m left p->σ'[m]?=σ[m]?/\B'[m]?=B[m]?/\∀b N,B[m]?=some (some (b,N))->UL H H' b):Vd YA B' σ' H' r bo:=by
 cases r with
 | cells t k l=>
  cases bo with
  | none=>exact h
  | some x=>
   obtain⟨b,N⟩:=x;obtain⟨v,D,_⟩:=n b N rfl;obtain⟨c,d,s,w,f⟩:=h;refine⟨by rw[D];exact c,d,λo E=>by rw[v];exact s o E,w,λi e hi=>⟨(f i e hi).1,λj a F=>?_⟩⟩;obtain⟨I,J,K⟩:=(f i e hi).2 j a F;exact⟨by rw[v];exact I,J.later g,K⟩
 | map es=>
  obtain⟨b,N,xs,u,rfl,c,d⟩:=h;exact⟨b,N,xs,u,rfl,by rw[(n b N rfl).2.2];exact c,d.later g⟩
 | iter m left p=>
  obtain⟨b,N,y,A,xs,u,seen,rfl,c,d,s,f,L⟩:=h;obtain⟨M,O,P⟩:=C m left p rfl;exact⟨b,N,y,A,xs,u,seen,rfl,by rw[O];exact c,by rw[M];exact d,by rw[(n b N rfl).2.2];exact s,by rw[(P y A c).2.2];exact f,L.later g⟩
 | dead=>trivial
theorem Sd {id:Nat} {b N:Nat} (h:B[id]?=some (some (b,N))):B.has b:=⟨N,Zi h⟩
theorem Holds.SP (d:Holds S B σ H) {id b N:Nat} {r:Row} (f:σ[id]?=some r) (g:r.live) (i:B[id]?=some (some (b,N))):¬H.fresh b:=λc=>by
 have h:=d.row id r _ f i;cases r with
 | cells t k l=>have:=h.1;rw[c.2.1] at this;cases this
 | map es=>
  obtain⟨j,n,xs,o,e,a,_⟩:=h;cases e;rw[c.2.2.1] at a;cases a
 | iter m left p=>
  obtain⟨j,n,s,u,xs,o,seen,e,_,_,a,_⟩:=h;cases e;rw[c.2.2.1] at a;cases a
 | dead=>exact g
theorem zy {id:Nat} {r r':Row} {bo bo':Option (Nat×Nat)} (b:σ[id]?=some r) (c:B[id]?=some bo) (f:r.to r' (some bo) (some bo')):Zx S S B (B.set id bo') σ (σ.set id r'):=by
 have g:id<σ.length:=(ZA.1 b).1
 have i:id<B.length:=(ZA.1 c).1;refine⟨λ_ _ _ h=>h,λj d a=>?_⟩;by_cases e:id=j
 .subst e;rw[b] at a;cases a;refine⟨r',by rw[Xa g],?_⟩;rw[c,Xa i];exact f
 .exact⟨d,by rw[WR e];exact a,by rw[WR e];exact d.P8 _⟩
theorem Holds.Ns (g:Holds S B σ H) {id:Nat} {r r':Row} {bo bo':Option (Nat×Nat)} (w:σ[id]?=some r) (C:r.live) (t:B[id]?=some bo) (ag:r.to r' (some bo) (some bo'))
  (A:∀b u,bo'=some (b,u)->(∃N,bo=some (b,N))\/H.fresh b) (L:∀b,(∀N,bo≠some (b,N))->(∀N,bo'≠some (b,N))->UL H H' b) (ah:∀b,H'.fresh b->H.fresh b)
  (ai:∀(j:Nat) left M,σ[j]?≠some (Row.iter id left M)) (aj:Zx S S B (B.set id bo') σ (σ.set id r')->Vd S (B.set id bo') (σ.set id r') H' r' bo') :
  Holds S (B.set id bo') (σ.set id r') H'/\Ext S B H S (B.set id bo') H'/\Zx S S B (B.set id bo') σ (σ.set id r'):=by
 have O:=zy (S:=S) w t ag
 have ak:id<σ.length:=(ZA.1 w).1
 have D:id<B.length:=(ZA.1 t).1
 have Y:∀(j:Nat) (f:Row) (b N:Nat),j≠id->σ[j]?=some f->f.live->B[j]?=some (some (b,N))->UL H H' b:=λj f b N c P k d=>by
  refine L b (λu e=>?_) (λu e=>?_)
  .exact g.inj j id f r b N u c P w k C d (by rw[t,e])
  .rcases A b u e with⟨n,a⟩|a
   .exact g.inj j id f r b N n c P w k C d (by rw[t,a])
   .exact g.SP P k d a
 refine⟨⟨λb o v hv=>?_,by simp[g.len],λj f Z c d=>?_,λi j l f b I E J hi c Q k R d=>?_,λj f b N c k d o=>?_⟩,⟨λ_ _ _ h=>h,λb K al=>?_,λb K=>?_,λb o v hv=>.inl hv,ah⟩,O⟩
 .have aa:=g.YO b o v hv
  have ab:∀N,bo≠some (b,N):=λN e=>by
   have:=g.sep id r b N w C (by rw[t,e]) o;rw[hv] at this;cases this
  have am:∀N,bo'≠some (b,N):=λN e=>by
   rcases A b N e with⟨n,a⟩|a
   .exact ab n a
   .obtain⟨p,F⟩:=aa;rw[a.1 o] at F;cases F
  rw[(L b ab am).1];exact aa
 .by_cases e:id=j
  .subst e;rw[Xa ak] at c;rw[Xa D] at d;cases c;cases d;exact aj O
  .rw[WR e] at c d;by_cases k:f.live
   .refine(g.row j f Z c d).later O (λb N an=>Y j f b N (YR e) c k (by rw[d,an])) λm left M ao=>?_;subst ao;have T:id≠m:=λx=>by subst x;exact ai j left M c
    refine⟨by rw[WR T],by rw[WR T],λb N ap=>?_⟩;obtain⟨_,_,au,av,xs,aw,seen,_,s,⟨es,a⟩,_⟩:=g.row j _ Z c d;exact Y m _ b N (YR T) a trivial ap
   .cases f<;>first|exact absurd trivial k|trivial
 .have U:∀(i:Nat) (l:Row) (N:Nat),(σ.set id r')[i]?=some l->l.live->(B.set id bo')[i]?=some (some (b,N))->i≠id->(σ[i]?=some l/\B[i]?=some (some (b,N))):=λi l N s _ y V=>by
   rw[WR (YR V)] at s y;exact⟨s,y⟩
  have ad:∀(i:Nat) (l:Row) (N u:Nat),i≠id->σ[i]?=some l->l.live->B[i]?=some (some (b,N))->bo'=some (b,u)->False:=λi l N u V s a y W=>by
   rcases A b u W with⟨n,X⟩|X
   .exact g.inj i id l r b N n V s w a C y (by rw[t,X])
   .exact g.SP s a y X
  by_cases ae:i=id
  .subst ae;rw[Xa D] at R;obtain⟨s,a⟩:=U j f E c k d (YR J);exact ad j f E I (YR J) s k a (by simpa using R)
  .obtain⟨s,a⟩:=U i l I hi Q R ae;by_cases af:j=id
   .subst af;rw[Xa D] at d;exact ad i l I E J s Q a (by simpa using d)
   .obtain⟨y,W⟩:=U j f E c k d af;exact g.inj i j l f b I E J s y Q k a W
 .by_cases e:id=j
  .subst e;rw[Xa D] at d;have aq:bo'=some (b,N):=by simpa using d
   rcases A b N aq with⟨n,a⟩|a
   .exact g.sep id r b n w C (by rw[t,a]) o
   .cases hv:S b o with
    | none=>rfl
    | some v=>obtain⟨p,F⟩:=g.YO b o v hv;rw[a.1 o] at F;cases F
  .rw[WR e] at c d;exact g.sep j f b N c k d o
 .refine Tf.of (L b (λN e=>K (Sd (id:=id) (N:=N) (by rw[t,e]))) λN e=>?_);rcases A b N e with⟨n,a⟩|a
  .exact K (Sd (id:=id) (N:=n) (by rw[t,a]))
  .exact al a
 .obtain⟨N,ar⟩:=K;obtain⟨j,c⟩:=St ar;by_cases e:id=j
  .subst e;rw[Xa D] at c;rcases A b N (by simpa using c) with⟨n,a⟩|a
   .exact .inl (Sd (id:=id) (N:=n) (by rw[t,a]))
   .exact .inr a
  .rw[WR e] at c;exact .inl (Sd c)
theorem zx {r:Row} {bo:Option (Nat×Nat)} (d:B.length=σ.length):Zx S S B (B++[bo]) σ (σ++[r]):=by
 refine⟨λ_ _ _ h=>h,λj a b=>?_⟩;have c:=(ZA.1 b).1;exact⟨a,by rw[YK c];exact b,by rw[YK U];exact a.P8 _⟩
theorem Holds.push (d:Holds S B σ H) {r:Row} {bo:Option (Nat×Nat)} (g:∀b N,bo=some (b,N)->H.fresh b) (F:∀b,(∀N,bo≠some (b,N))->UL H H' b)
  (Y:Zx S S B (B++[bo]) σ (σ++[r])->Vd S (B++[bo]) (σ++[r]) H' r bo) :
  Holds S (B++[bo]) (σ++[r]) H'/\Ext S B H S (B++[bo]) H'/\Zx S S B (B++[bo]) σ (σ++[r]):=by
 have J:=zx (S:=S) (r:=r) (bo:=bo) d.len
 have C:=d.len
 have Z:∀b,H'.fresh b->H.fresh b:=by
  have u:∀b,((∀o,H'.θ b o=none)->∀o,H.θ b o=none)/\(H'.row b=none->H.row b=none)/\(H'.obj b=none->H.obj b=none):=λb=>by
   by_cases e:∀N,bo≠some (b,N)
   .obtain⟨aa,ab,ad⟩:=F b e;exact⟨λh o=>by rw[<-aa o];exact h o,λh=>by rw[<-ab];exact h,λh=>by rw[<-ad];exact h⟩
   .obtain⟨N,K⟩:=Classical.not_forall.1 e;have D:=g b N (Classical.not_not.1 K);exact⟨λ_=>D.1,λ_=>D.2.1,λ_=>D.2.2.1⟩
  exact λb w=>⟨(u b).1 w.1,(u b).2.1 w.2.1,(u b).2.2 w.2.2.1,λA L=>⟨(u A).1 (w.2.2.2 A L).1,(u A).2.1 (w.2.2.2 A L).2.1,(u A).2.2 (w.2.2.2 A L).2.2⟩⟩
 have M:∀(j:Nat) (c:Row) (b N:Nat),σ[j]?=some c->c.live->B[j]?=some (some (b,N))->UL H H' b:=λj c b N ae f a=>
  F b λaf e=>d.SP ae f a (g b af e)
 have I:∀{α:Type} (l:List α) (x:α) (j:Nat) (y:α),(l++[x])[j]?=some y->(j<l.length/\l[j]?=some y)\/(j=l.length/\x=y):=λl x j y h=>by
  by_cases k:j<l.length
  .rw[YK k] at h;exact .inl ⟨k,h⟩
  .rw[W8 U] at h;have:j-l.length=0:=by
    have:=(ZA.1 h).1;simp at this;omega
   rw[this] at h;simp at h;exact .inr ⟨U,h⟩
 refine⟨⟨λb o v hv=>?_,by simp[C],λj c O k a=>?_,λi j P c b Q R ag hi k T f t a=>?_,λj c b N k f a o=>?_⟩,⟨λ_ _ _ h=>h,λb V D=>?_,λb V=>?_,λb o v hv=>.inl hv,Z⟩,J⟩
 .obtain⟨p,E⟩:=d.YO b o v hv;rw[(F b λN e=>by have:=(g b N e).1 o;rw[E] at this;cases this).1];exact⟨p,E⟩
 .rcases I σ r j c k with⟨n,s⟩|⟨n,rfl⟩
  .rw[YK U] at a;by_cases f:c.live
   .refine(d.row j c O s a).later J (λb N ah=>M j c b N s f (by rw[a,ah])) λm left al ai=>?_;subst ai;obtain⟨_,_,am,an,xs,ao,seen,_,ap,⟨es,Φ⟩,_⟩:=d.row j _ O s a;have aj:=(ZA.1 Φ).1;exact⟨by rw[YK aj],by rw[YK U],λb N ak=>M m _ b N Φ trivial ak⟩
   .cases c<;>first|exact absurd trivial f|trivial
  .rw[n,<-C] at a;simp at a;subst a;exact Y J
 .rcases I σ r i P hi with⟨n,s⟩|⟨n,rfl⟩<;>rcases I σ r j c k with⟨W,X⟩|⟨W,rfl⟩
  .rw[YK U] at t a;exact d.inj i j P c b Q R ag s X T f t a
  .rw[YK U] at t;rw[W,<-C] at a;simp at a;exact d.SP s T t (g b R a)
  .rw[YK U] at a;rw[n,<-C] at t;simp at t;exact d.SP X f a (g b Q t)
  .omega
 .rcases I σ r j c k with⟨n,s⟩|⟨n,rfl⟩
  .rw[YK U] at a;exact d.sep j c b N s f a o
  .rw[n,<-C] at a;simp at a;cases hv:S b o with
   | none=>rfl
   | some v=>obtain⟨p,E⟩:=d.YO b o v hv;rw[(g b N a).1 o] at E;cases E
 .exact Tf.of (F b λN e=>D (g b N e))
 .obtain⟨N,K⟩:=V;rcases Wd.1 K with h|h
  .exact .inl ⟨N,h⟩
  .simp at h;exact .inr (g b N h.symm)
def μ.lay (S:μ) (r:Nat) (c:Array Value):μ:=λb o=>if b=r then c[o]? else S b o
theorem Holds.lay (d:Holds S B σ H) {r:Nat} {c:Array Value} {t:TypeId} (f:H.fresh r) :
  Holds (S.lay r c) B σ (H.YB r c t)/\Ext S B H (S.lay r c) B (H.YB r c t)/\Zx S (S.lay r c) B B σ σ:=by
 have A:∀o,S r o=none:=λo=>by
  cases hv:S r o with
  | none=>rfl
  | some v=>obtain⟨p,s⟩:=d.YO r o v hv;rw[f.1 o] at s;cases s
 have u:∀b o v,S b o=some v->S.lay r c b o=some v:=λb o v h=>by
  unfold μ.lay;rw[if_neg (λe=>by subst e;rw[A] at h;cases h)];exact h
 have w:Zx S (S.lay r c) B B σ σ:=⟨u,λ_ a h=>⟨a,h,a.P8 _⟩⟩
 have l:∀b,b≠r->UL H (H.YB r c t) b:=λb n=>⟨λo=>by simp[Χ.YB,n],by simp[Χ.YB,n],rfl⟩;refine⟨⟨λb o v hv=>?_,d.len,λj a x g i=>?_,d.inj,λj a b N g k i o=>?_⟩,⟨u,λb _ C=>Tf.of (l b λe=>C (e▸f)),λb n=>.inl n,λb o v hv=>?_,Χ.Ey f c t⟩,w⟩
 .unfold μ.lay at hv;split at hv
  .rename_i e;subst e;exact⟨true,by simp[Χ.YB,hv]⟩
  .rename_i e;rw[(l b e).1];exact d.YO b o v hv
 .by_cases k:a.live
  .have y:∀(j:Nat) (a:Row) (b N:Nat),σ[j]?=some a->a.live->B[j]?=some (some (b,N))->b≠r:=λj a b N D E F e=>d.SP D E F (e▸f);refine(d.row j a x g i).later w (λb N I=>l b (y j a b N g k (by rw[i,I]))) λm left L J=>?_;subst J;obtain⟨_,_,M,O,xs,P,seen,_,Q,⟨es,Φ⟩,_⟩:=d.row j _ x g i;exact⟨rfl,rfl,λb N K=>l b (y m _ b N Φ trivial K)⟩
  .cases a<;>first|exact absurd trivial k|trivial
 .unfold μ.lay;rw[if_neg (λe:b=r=>d.SP g k i (e▸f))];exact d.sep j a b N g k i o
 .unfold μ.lay at hv;split at hv
  .rename_i e;subst e;exact .inr (.inr f)
  .exact .inl hv
end
def L4:Value->Ω
 | .slice none 0 0=>.sl true 0 []
 | v=>.z v
def Wm:Value->Ω
 | .agg vs=>.ZT (vs.toList.map L4)
 | v=>L4 v
def ζ (env:ω):Operand->Ω
 | .tmp n=>Z7 env n
 | .const v=>Wm v
 | .global _=>.Zl
 | .func f=>.fn (.func f) [] []
theorem Ev {S:μ} {B:Z8} {σ:Ο} (v:Value):π S B σ (L4 v) v:=by
 unfold L4;split
 .exact .Wo none 0 λ_=>rfl
 .exact .z v
theorem RF {S:μ} {B:Z8} {σ:Ο} (v:Value):π S B σ (Wm v) v:=by
 unfold Wm;split
 .rename_i vs;refine .ZT vs I λi a w b c=>?_;rw[YU,Wv,c] at b;cases b;exact Ev w
 .exact Ev _
theorem Ud {S:μ} {B:Z8} {σ:Ο} {env:ω} {t:Array Value} (h:YT S B σ env t) (o:Operand):π S B σ (ζ env o) (ZN t o):=by
 cases o with
 | tmp n=>exact h n
 | const v=>exact RF v
 | global g=>exact .Zl _
 | func f=>exact .fn #[] #[] rfl rfl (λi a v hi=>by simp at hi) (λi a v hi=>by simp at hi)
inductive Y2 where
 | ok (a:Ω) (σ:Ο)
 | Y' (p:Prop) (r:Y2)
 | all (n:Nat) (f:Nat->Y2)
 | bad
def Y2.holds (K:Ω->Ο->Prop):Y2->Prop
 | .ok a σ=>K a σ
 | .Y' p r=>p/\r.holds K
 | .all n f=>∀i,i<n->(f i).holds K
 | .bad=>False
def Eu:Next->Option Value
 | .value v=>some v
 | .skip=>some undef
 | _=>none
def VF:TypeDesc->Bool
 | .int _|.string|.bool=>true
 | _=>false
def Hm (P:Program) (t:TypeId):Option (List (TypeDesc×Nat))->Prop
 | none=>True
 | some a=>P.eqGuardType P.depth t=false/\a.map (·.2)=List.range a.length/\
  ((∃b,P.underlying t=some (.struct b)/\P.stoodInHeld t=false/\a=b.toList.map (λf=>((P.underlying f.type).getD .invalid,f.offset))/\∀f∈b.toList,f.name≠ "_" /\ ∃d,P.underlying f.type=some d/\VF d=true)\/
   ∃n e d f,P.underlying t=some (.array n e)/\P.underlying e=some d/\VF d=true/\P.info? e=some f/\f.size=1/\a=(List.range n).map λi=>(d,i))
structure V5 where
 size:Nat
 ZE:TypeDesc
 zero:Value
 bytes:Nat
 eqs:Option (List (TypeDesc×Nat))
def V5.agg (i:V5):Bool:=Ue i.ZE
abbrev ZR:=TypeId->Option V5
def ZB (P:Program) (T:ZR):Prop:=∀t i,T t=some i->(P.underlying t=some i.ZE/\Hm P t i.eqs)/\∃f,P.info? t=some f/\f.size=i.size/\f.zero=some i.zero/\f.bytes=i.bytes
def VE (S:μ) (B:Z8) (H:Χ) (σ:Ο) (K:Ω->Ο->Prop) (v:Value) (H':Χ):Prop:=
 ∃b B' σ' a,K a σ'/\Ext S B H b B' H'/\Holds b B' σ' H'/\Zx S b B B' σ σ'/\π b B' σ' a v
def Y3 (P:Program) (s:Sem Value) (S:μ) (B:Z8) (H:Χ) (σ:Ο) (r:Y2):Prop:=
 ∀K:Ω->Ο->Prop,r.holds K->Ψ P s H (VE S B H σ K) (λ_ _=>False)
def Does (P:Program) (s:Sem Next) (S:μ) (B:Z8) (H:Χ) (σ:Ο) (r:Y2):Prop:=
 ∀K:Ω->Ο->Prop,r.holds K->Ψ P s H (λa H'=>∃v,Eu a=some v/\VE S B H σ K v H') (λ_ _=>False)
section
variable {P:Program} {T:ZR} {S:μ} {B:Z8} {H:Χ} {σ:Ο} {env:ω} {t:Array Value}
theorem Y3.next {s:Sem Value} {r:Y2} (h:Y3 P s S B H σ r):Does P (do pure (.value (<-s))) S B H σ r:=λK a=>
 Ψ.bind' (Ψ.mono (λv G b=>Ψ.pure' ⟨v,rfl,b⟩) (λ_ _ h=>h) _ (h K a))
theorem VE.same {K:Ω->Ο->Prop} {a:Ω} {v:Value} (b:Holds S B σ H) (c:K a σ) (d:π S B σ a v):VE S B H σ K v H:=⟨S,B,σ,a,c,.refl _ _ _,b,.refl _ _ _,d⟩
theorem Y3.pure {a:Ω} {v:Value} (b:Holds S B σ H) (c:π S B σ a v):Y3 P (pure v) S B H σ (.ok a σ):=λK d=>
 Ψ.pure' (.same b d c)
theorem Y3.bad {s:Sem Value}:Y3 P s S B H σ .bad:=λK a=>a.elim
theorem Y3.Y' {s:Sem Value} {p:Prop} {r:Y2} (h:p->Y3 P s S B H σ r):Y3 P s S B H σ (.Y' p r):=λK a=>h a.1 K a.2
theorem Does.val {a:Ω} {v:Value} (b:Holds S B σ H) (c:π S B σ a v):Does P (pure (.value v)) S B H σ (.ok a σ):=λK d=>
 Ψ.pure' ⟨v,rfl,.same b d c⟩
theorem Does.bad {s:Sem Next}:Does P s S B H σ .bad:=λK a=>a.elim
theorem ZB.size (b:ZB P T) {a:TypeId} {i:V5} (h:T a=some i) {G:Χ} {K:Nat->Χ->Prop} {E:Value->Χ->Prop} (c:K i.size G):Ψ P (sizeOf a) G K E:=by
 obtain⟨_,f,d,e,_⟩:=b a i h;exact Ψ.sizeOf d (by rw[e];exact c)
theorem ZB.ZE (b:ZB P T) {a:TypeId} {i:V5} (h:T a=some i) {G:Χ} {K:TypeDesc->Χ->Prop} {E:Value->Χ->Prop} (c:K i.ZE G):Ψ P (underlying a) G K E:=
 Ψ.underlying (b a i h).1.1 c
theorem ZB.agg (b:ZB P T) {a:TypeId} {i:V5} (h:T a=some i) {G:Χ} {K:Bool->Χ->Prop} {E:Value->Χ->Prop} (c:K i.agg G):Ψ P (isAgg a) G K E:=
 Ψ.isAgg (b a i h).1.1 c
theorem ZB.zero (b:ZB P T) {a:TypeId} {i:V5} (h:T a=some i) {G:Χ} {K:Value->Χ->Prop} {E:Value->Χ->Prop} (c:K i.zero G):Ψ P (zeroValue a) G K E:=by
 obtain⟨_,f,d,_,e,_⟩:=b a i h;exact Ψ.zeroValue d e c
theorem ZB.info (b:ZB P T) {a:TypeId} {i:V5} (h:T a=some i) {G:Χ} {K:TypeInfo->Χ->Prop} {E:Value->Χ->Prop} (c:∀f:TypeInfo,f.bytes=i.bytes->K f G):Ψ P (typeInfo a) G K E:=by
 obtain⟨_,f,d,_,_,e⟩:=b a i h;exact Ψ.typeInfo d (c f e)
end
inductive Zf where
 | ok (a:Ω)
 | Y' (p:Prop) (r:Zf)
 | bad
def Zf.YD (σ:Ο):Zf->Y2
 | .ok a=>.ok a σ
 | .Y' p r=>.Y' p (r.YD σ)
 | .bad=>.bad
section
variable {P:Program} {T:ZR} {S:μ} {B:Z8} {H:Χ} {σ:Ο} {env:ω} {t:Array Value}
def XY (k:IntKind) (a b:Int):Int:=k.wrap (BitVec.ofInt k.bits a&&&BitVec.ofInt k.bits b).toNat
def QS (k:IntKind) (a b:Int):Int:=k.wrap (BitVec.ofInt k.bits a|||BitVec.ofInt k.bits b).toNat
def L3 (k:IntKind) (a b:Int):Int:=k.wrap (BitVec.ofInt k.bits a^^^BitVec.ofInt k.bits b).toNat
def UK (k:IntKind) (a b:Int):Int:=k.wrap (BitVec.ofInt k.bits a&&&~~~BitVec.ofInt k.bits b).toNat
def J2 (a b:ByteArray):Bool:=Op.bytesLess a.toList b.toList
def P6 (a b:ByteArray):Bool:=Op.bytesLess a.toList b.toList||a.toList==b.toList
def P5 (d:BinOp) (x y:Value):Zf:=
 match d,x,y with
 | .shl,.int k a,.int _ b=>.Y' (0<=b) (.ok (.z (.int k (k.wrap (a*2 ^ (min b.toNat k.bits))))))
 | .shr,.int k a,.int _ b=>.Y' (0<=b) (.ok (.z (.int k (a.fdiv (2 ^ (min b.toNat k.bits))))))
 | .add,.int k a,.int c b=>if k=c then .ok (.z (.int k (k.wrap (a+b)))) else .bad
 | .sub,.int k a,.int c b=>if k=c then .ok (.z (.int k (k.wrap (a-b)))) else .bad
 | .mul,.int k a,.int c b=>if k=c then .ok (.z (.int k (k.wrap (a*b)))) else .bad
 | .quo,.int k a,.int c b=>if k=c then .Y' (b≠0) (.ok (.z (.int k (k.wrap (a.tdiv b))))) else .bad
 | .rem,.int k a,.int c b=>if k=c then .Y' (b≠0) (.ok (.z (.int k (a.tmod b)))) else .bad
 | .and,.int k a,.int c b=>if k=c then .ok (.z (.int k (XY k a b))) else .bad
 | .or,.int k a,.int c b=>if k=c then .ok (.z (.int k (QS k a b))) else .bad
 | .xor,.int k a,.int c b=>if k=c then .ok (.z (.int k (L3 k a b))) else .bad
 | .andNot,.int k a,.int c b=>if k=c then .ok (.z (.int k (UK k a b))) else .bad
 | .eql,.int k a,.int c b=>if k=c then .ok (.z (.bool (a==b))) else .bad
 | .neq,.int k a,.int c b=>if k=c then .ok (.z (.bool (a != b))) else .bad
 | .lss,.int k a,.int c b=>if k=c then .ok (.z (.bool (decide (a<b)))) else .bad
 | .leq,.int k a,.int c b=>if k=c then .ok (.z (.bool (decide (a<=b)))) else .bad
 | .gtr,.int k a,.int c b=>if k=c then .ok (.z (.bool (decide (a > b)))) else .bad
 | .geq,.int k a,.int c b=>if k=c then .ok (.z (.bool (decide (a>=b)))) else .bad
 | .add,.string a,.string b=>.Y' (((a.size+b.size:Nat):Int)<=IntKind.i64.max) (.ok (.z (.string (a++b))))
 | .eql,.string a,.string b=>.ok (.z (.bool (a.toList==b.toList)))
 | .neq,.string a,.string b=>.ok (.z (.bool !(a.toList==b.toList)))
 | .lss,.string a,.string b=>.ok (.z (.bool (J2 a b)))
 | .leq,.string a,.string b=>.ok (.z (.bool (P6 a b)))
 | .gtr,.string a,.string b=>.ok (.z (.bool (!(P6 a b))))
 | .geq,.string a,.string b=>.ok (.z (.bool (!(J2 a b))))
 | _,_,_=>.bad
theorem zw (a:Holds S B σ H) (c:BinOp) (d:TypeId) (p q:Operand) (x y:Value):Y3 P (do eqGuard c d p q x y;binOp c d x y) S B H σ ((P5 c x y).YD σ):=by
 unfold P5;split
 case h_25=>exact .bad
 case h_1=>
  refine .Y' λh=>?_;have b:¬(_:Int)<0:=OE.2 h;simp only[eqGuard,binOp,Op.shift,b,if_false];exact .pure a (.z _)
 case h_2=>
  refine .Y' λh=>?_;have b:¬(_:Int)<0:=OE.2 h;simp only[eqGuard,binOp,Op.shift,b,if_false];exact .pure a (.z _)
 case h_6=>
  split
  .rename_i e;subst e;exact .Y' λh=>by simp only[eqGuard,binOp,Op.intDiv,h,if_false,ne_eq,not_true_eq_false];exact .pure a (.z _)
  .exact .bad
 case h_7=>
  split
  .rename_i e;subst e;exact .Y' λh=>by simp only[eqGuard,binOp,Op.intDiv,h,if_false,ne_eq,not_true_eq_false];exact .pure a (.z _)
  .exact .bad
 case h_18=>
  refine .Y' λh=>?_;have b:¬((_:Int) > IntKind.i64.max):=OE.2 h;simp only[eqGuard,binOp,Op.stringOp,b,if_false];exact .pure a (.z _)
 all_goals first
  | exact .pure a (.z _)
  |(split
    .rename_i e;subst e;simp only[eqGuard,binOp,Op.intArith,Op.intBits,Op.intCmp,ne_eq,not_true_eq_false,if_false];exact .pure a (.z _)
    .exact .bad)
def Nr (a:UnOp):Ω->Zf
 | .z (.bool b)=>match a with|.not=>.ok (.z (.bool !b))|_=>.bad
 | .z (.int k n)=>match a with|.neg=>.ok (.z (.int k (k.wrap (0-n))))|_=>.bad
 | _=>.bad
theorem zv (b:Holds S B σ H) (c:UnOp) {a:Ω} {v:Value} (d:π S B σ a v):Y3 P (Op.unary c v) S B H σ ((Nr c a).YD σ):=by
 unfold Nr;split
 .cases d;split
  .exact .pure b (.z _)
  .exact .bad
 .cases d;split
  .exact .pure b (.z _)
  .exact .bad
 .exact .bad
def J1 (i:Nat):Ω->Zf
 | .ZW l=>match l[i]? with|some a=>.ok a|none=>.bad
 | .z (.tuple vs)=>match vs[i]? with|some v=>.ok (Wm v)|none=>.bad
 | _=>.bad
theorem zu (b:Holds S B σ H) (i:Nat) {a:Ω} {v:Value} (c:π S B σ a v):Y3 P (Instr.extract v i) S B H σ ((J1 i a).YD σ):=by
 unfold J1;split
 .rename_i l;cases c with
  | ZW vs e f=>
   cases d:l[i]? with
   | none=>exact .bad
   | some a=>
    have g:i<vs.size:=by rw[<-e];exact(ZA.1 d).1
    have hv:vs[i]?=some vs[i]:=XG g;simp only[Instr.extract,hv];exact .pure b (f i a _ d hv)
 .rename_i vs;cases c;cases hv:vs[i]? with
  | none=>exact .bad
  | some v=>simp only[Instr.extract,hv];exact .pure b (RF v)
 .exact .bad
def J0 (T:ZR) (b:TypeId) (a:Ω):Zf:=match T b with
 | some i=>match i.ZE with|.interface _=>.bad|_=>.ok (.Xe b a)
 | none=>.bad
theorem zt (d:ZB P T) (e:Holds S B σ H) (b:TypeId) {a:Ω} {v:Value} (f:π S B σ a v):Y3 P (Instr.makeInterface b v) S B H σ ((J0 T b a).YD σ):=by
 unfold J0;cases hi:T b with
 | none=>exact .bad
 | some i=>
  intro K c;unfold Instr.makeInterface;refine Ψ.bind' (d.ZE hi ?_);cases g:i.ZE<;>simp only[g,Zf.YD,Y2.holds] at c<;>first|exact c.elim|exact Ψ.pure' (.same e c (.Xe v f))
def Ol (T:ZR) (c:TypeId) (b:Bool) (a:Ω):Zf:=match T c with
 | some i=>match i.ZE with
  | .interface _=>.bad
  | _=>match a with
   | .Xe t x=>if t=c then .ok (if b then .ZW [x,.z (.bool true)] else x) else if b then .ok (.ZW [Wm i.zero,.z (.bool false)]) else .bad
   | .z .nilIface=>if b then .ok (.ZW [Wm i.zero,.z (.bool false)]) else .bad
   | _=>.bad
 | none=>.bad
theorem Nq {a b:Ω} {v w:Value} (h:π S B σ a v) (k:π S B σ b w):π S B σ (.ZW [a,b]) (.tuple #[v,w]):=by
 refine .ZW _ rfl λi e f c d=>?_
 match i with
 | 0=>simp at c d;subst c;subst d;exact h
 | 1=>simp at c d;subst c;subst d;exact k
 | i+2=>simp at c
theorem zs (f:ZB P T) (g:Holds S B σ H) (n h:TypeId) (j:Bool) {a:Ω} {v:Value} (l:π S B σ a v):Y3 P (Instr.typeAssert v n h j) S B H σ ((Ol T h j a).YD σ):=by
 unfold Ol;cases hi:T h with
 | none=>exact .bad
 | some i=>
  simp only;by_cases b:∃w,i.ZE=.interface w
  .obtain⟨w,o⟩:=b;rw[o];exact .bad
  have e:∀r:Zf,(match i.ZE with|.interface _=>Zf.bad|_=>r)=r:=λr=>by
   cases p:i.ZE<;>first|rfl|exact absurd ⟨_,p⟩ b
  rw[e];clear e;split
  .rename_i t x;cases l with
   | Xe w m=>
    split
    .rename_i e;subst e;intro K c;unfold Instr.typeAssert;refine Ψ.bind' (f.ZE hi ?_);generalize i.ZE=d at b ⊢;cases d<;>first
      | exact absurd ⟨_,rfl⟩ b
      |(simp only[if_true]
        cases j
        .exact Ψ.pure' (.same g c m)
        .exact Ψ.pure' (.same g c (Nq m (.z _))))
    .rename_i s;split
     .rename_i k;subst k;intro K c;unfold Instr.typeAssert;refine Ψ.bind' (f.ZE hi ?_);generalize i.ZE=d at b ⊢;cases d<;>first
       | exact absurd ⟨_,rfl⟩ b
       |(simp only[s,if_false,if_true]
         exact Ψ.bind' (f.zero hi (Ψ.pure' (.same g c (Nq (RF _) (.z _))))))
     .exact .bad
  .cases l;split
   .rename_i k;subst k;intro K c;unfold Instr.typeAssert;refine Ψ.bind' (f.ZE hi ?_);generalize i.ZE=d at b ⊢;cases d<;>first
     | exact absurd ⟨_,rfl⟩ b
     |(simp only[if_true]
       exact Ψ.bind' (f.zero hi (Ψ.pure' (.same g c (Nq (RF _) (.z _))))))
   .exact .bad
  .exact .bad
end
section
variable {P:Program} {T:ZR} {S:μ} {B:Z8} {H:Χ} {σ:Ο}
def QR (i:V5) (l:κ):Zf:=
 if i.agg then(if i.size<=l.length then .ok (.ZT (l.take i.size)) else .bad)
 else match l with
  | a::_=>.ok a
  | []=>.bad
def JZ (T:ZR) (a:TypeId):Ω->Zf
 | .Θ b=>match T a with|some i=>QR i b|none=>.bad
 | _=>.bad
def SO (T:ZR) (a:TypeId) (σ:Ο):Ω->Y2
 | .Κ id n i j=>match T a,σ[id]? with
  | some b,some (.cells _ _ l)=>if l.length=n then match l[i]? with
   | some e=>(QR b (e.cells.drop j)).YD σ
   | none=>.bad else .bad
  | _,_=>.bad
 | _=>.bad
theorem JY (f:ZB P T) (g:Holds S B σ H) {h:TypeId} {i:V5} (hi:T h=some i) {b o:Nat} {l:κ} (w:Nat->Value) (k:∀(j:Nat) (a:Ω),l[j]?=some a->∃p,H.θ b (o+j)=some (w j,p)) (m:∀(j:Nat) (a:Ω),l[j]?=some a->π S B σ a (w j)) :
  Y3 P (loadVar h ⟨b,o,none⟩) S B H σ ((QR i l).YD σ):=by
 intro K c;unfold QR at c;unfold loadVar;refine Ψ.bind' (f.agg hi ?_);cases n:i.agg with
 | true=>
  rw[n] at c;simp only[if_true] at c ⊢;split at c
  .rename_i t;refine Ψ.bind' (f.size hi (Ψ.bind' (Ψ.loadCells w rfl (λj d=>?_) ?_)))
   .have:l[j]?=some l[j]:=δ U;exact k j _ this
   .refine Ψ.pure' (.same g c (.ZT _ (by simp;omega) λj a v e r=>?_));have d:j<i.size:=by have:=(ZA.1 e).1;simp at this;omega
    rw[Tt d] at e;simp[d] at r;subst r;exact m j a e
  .exact c.elim
 | false=>
  rw[n] at c;simp only[W',if_false] at c ⊢;cases l with
  | nil=>exact c.elim
  | cons a l=>
   obtain⟨p,s⟩:=k 0 a rfl;exact⟨rfl,rfl,w 0,p,s,VE.same g c (m 0 a rfl)⟩
theorem zr (e:ZB P T) (d:Holds S B σ H) {c:TypeId} {a:Ω} {v:Value} (f:π S B σ a v):Y3 P (Instr.loadAt c v) S B H σ ((JZ T c a).YD σ):=by
 unfold JZ;split
 .rename_i l;cases hi:T c with
  | none=>exact .bad
  | some i=>
   cases f with
   | Θ b o w g h=>exact JY e d hi w (λj a k=>d.YO _ _ _ (g j a k)) h
 .exact .bad
theorem Et (f:Holds S B σ H) {id k i b N:Nat} {t:TypeId} {l:κ} {e:Ω} (g:σ[id]?=some (.cells t k l)) (h:B[id]?=some (some (b,N))) (c:l[i]?=some e) :
  e.cells.length=k/\∃w:Nat->Value,∀(j:Nat) (a:Ω),e.cells[j]?=some a->H.θ b (i*k+j)=some (w j,true)/\π S B σ a (w j)/\One (w j):=by
 obtain⟨_,_,_,w,d⟩:=f.row id _ _ g h;exact⟨(d i e c).1,w i,(d i e c).2⟩
theorem zq (o:ZB P T) (f:Holds S B σ H) {g:TypeId} {a:Ω} {v:Value} (p:π S B σ a v):Y3 P (Instr.loadAt g v) S B H σ (SO T g σ a):=by
 unfold SO;split
 .rename_i id n i j;split
  .rename_i u t k l hi d;split
   .rename_i y;cases r:l[i]? with
    | none=>exact .bad
    | some e=>
     cases p with
     | Κ b h s=>
      rw[d] at b;cases b;obtain⟨A,w,m⟩:=Et f d s r;refine JY o f hi (λx=>w (j+x)) (λx a c=>⟨true,?_⟩) (λx a c=>?_)
      .rw[Tq] at c;rw[UB];exact(m _ a c).1
      .rw[Tq] at c;exact(m _ a c).2.1
     | Ve v b h=>rw[d] at b;cases b;simp only[Row.WB] at h;omega
   .exact .bad
  .exact .bad
 .exact .bad
def W6 (T:ZR) (a:TypeId) (f:Nat):Option (Nat×TypeId):=match T a with
 | some i=>match i.ZE with
  | .struct b=>match b[f]? with
   | some x=>match T x.type with
    | some c=>if c.size=0 then none else some (x.offset,x.type)
    | none=>none
   | none=>none
  | _=>none
 | none=>none
def JX (T:ZR) (a:TypeId) (f:Nat):Ω->Zf
 | .Θ c=>match W6 T a f with|some (o,_)=>.ok (.Θ (c.drop o))|none=>.bad
 | .z (.pointer (some ⟨b,o',none⟩))=>match W6 T a f with|some (o,_)=>.ok (.z (.pointer (some ⟨b,o'+o,none⟩)))|none=>.bad
 | _=>.bad
def SN (T:ZR) (a:TypeId) (f:Nat) (σ:Ο):Ω->Y2
 | .Κ id n i j=>match W6 T a f,σ[id]? with
  | some (o,_),some (.cells _ _ l)=>if l.length=n then .ok (.Κ id n i (j+o)) σ else .bad
  | _,_=>.bad
 | _=>.bad
theorem Po (b o n:Nat):(⟨b,o,none⟩:Addr).add n=⟨b,o+n,none⟩:=by
 unfold Addr.add;split
 .simp_all
 .rfl
theorem Es {d:κ} {b o:Nat} (h:π S B σ (.Θ d) (.pointer (some ⟨b,o,none⟩))) (n:Nat):π S B σ (.Θ (d.drop n)) (.pointer (some ⟨b,o+n,none⟩)):=by
 cases h with
 | Θ b o w e f=>
  refine .Θ b (o+n) (λj=>w (n+j)) (λj a c=>?_) (λj a c=>?_)
  .rw[Tq] at c;rw[UB];exact e _ a c
  .rw[Tq] at c;exact f _ a c
theorem Hl (c:ZB P T) {d:TypeId} {f o:Nat} {e:TypeId} (a:W6 T d f=some (o,e)) {b o':Nat} {K:Value->Χ->Prop} {E:Value->Χ->Prop} (h:K (.pointer (some ⟨b,o'+o,none⟩)) H) :
  Ψ P (Instr.fieldAt d (.pointer (some ⟨b,o',none⟩)) f) H K E:=by
 unfold W6 at a;split at a<;>try cases a
 rename_i i hi;split at a<;>try cases a
 rename_i m g;split at a<;>try cases a
 rename_i x j;split at a<;>try cases a
 rename_i n k;split at a<;>try cases a
 rename_i l;unfold Instr.fieldAt;refine Ψ.bind' (c.ZE hi ?_);rw[g];simp only[j];refine Ψ.bind' ?_;unfold fieldPlace;refine Ψ.bind' (Ψ.bind' (c.size k ?_));rw[if_neg l,Po];exact Ψ.pure' (Ψ.pure' h)
theorem zp (g:ZB P T) (h:Holds S B σ H) {c:TypeId} {f:Nat} {a:Ω} {v:Value} (i:π S B σ a v):Y3 P (Instr.fieldAt c v f) S B H σ ((JX T c f a).YD σ):=by
 unfold JX;split
 .rename_i m;cases d:W6 T c f with
  | none=>exact .bad
  | some x=>
   obtain⟨o,j⟩:=x;cases i with
   | Θ b o' w k l=>exact λK e=>Hl g d (VE.same h e (Es (.Θ b o' w k l) o))
 .rename_i b o';cases d:W6 T c f with
  | none=>exact .bad
  | some x=>
   obtain⟨o,j⟩:=x;cases i;exact λK e=>Hl g d (VE.same h e (.z _))
 .exact .bad
theorem zo (g:ZB P T) (h:Holds S B σ H) {d:TypeId} {f:Nat} {a:Ω} {v:Value} (m:π S B σ a v):Y3 P (Instr.fieldAt d v f) S B H σ (SN T d f σ a):=by
 unfold SN;split
 .rename_i id n i j;split
  .rename_i o w t k l p c;split
   .rename_i r;cases m with
    | Κ b e s=>
     rw[c] at b;cases b;refine λK u=>Hl g p (VE.same h u ?_);rw[UB];exact .Κ c r s
    | Ve v b e=>rw[c] at b;cases b;simp only[Row.WB] at e;omega
   .exact .bad
  .exact .bad
 .exact .bad
theorem QQ {ex:Bool} {k:Nat} {l:κ} {v:Value} (h:π S B σ (.sl ex k l) v):∃base cap,v=.slice base l.length cap/\l.length<=cap/\(ex=true->cap=l.length)/\(l≠[]->∃(b o:Nat) (w:Nat->Nat->Value),base=some ⟨b,o,none⟩/\(∀(i:Nat) (e:Ω),l[i]?=some e->e.cells.length=k)/\
  (∀(i:Nat) (e:Ω),l[i]?=some e->∀(j:Nat) (c:Ω),e.cells[j]?=some c->S b (o+i*k+j)=some (w i j))/\(∀(i:Nat) (e:Ω),l[i]?=some e->∀(j:Nat) (c:Ω),e.cells[j]?=some c->π S B σ c (w i j))):=by
 cases h with
 | Wo base cap h=>exact⟨base,cap,rfl,χ _,h,λx=>absurd rfl x⟩
 | sl b o cap w a d f g m=>exact⟨_,cap,rfl,d,a,λ_=>⟨b,o,w,rfl,f,g,m⟩⟩
theorem zn {ex:Bool} {k:Nat} {l:κ} {base:Option Addr} {len cap i:Nat} {e:Ω} (h:π S B σ (.sl ex k l) (.slice base len cap)) (a:l[i]?=some e):∃b o,base=some ⟨b,o,none⟩/\π S B σ (.Θ e.cells) (.pointer (some ⟨b,o+i*k,none⟩)):=by
 obtain⟨g,j,hv,_,_,c⟩:=QQ h;cases hv;obtain⟨b,o,w,rfl,m,d,f⟩:=c (by rintro rfl;simp at a);exact⟨b,o,rfl,.Θ b (o+i*k) (w i) (d i e a) (f i e a)⟩
def Wl (T:ZR) (b:TypeId):Option (TypeId×Nat×Option Nat):=match T b with
 | some i=>match i.ZE with
  | .slice e=>match T e with|some a=>some (e,a.size,none)|none=>none
  | .array n e=>match T e with|some a=>some (e,a.size,some n)|none=>none
  | _=>none
 | none=>none
theorem JW {b e:TypeId} {k:Nat} (h:Wl T b=some (e,k,none)):∃i a,T b=some i/\i.ZE=.slice e/\T e=some a/\a.size=k:=by
 unfold Wl at h;split at h
 .rename_i i hi;split at h
  .rename_i f c;split at h
   .rename_i a d;cases h;exact⟨i,a,hi,c,d,rfl⟩
   .cases h
  .split at h<;>cases h
  .cases h
 .cases h
theorem zm {b e:TypeId} {k n:Nat} (h:Wl T b=some (e,k,some n)):∃i a,T b=some i/\i.ZE=.array n e/\T e=some a/\a.size=k:=by
 unfold Wl at h;split at h
 .rename_i i hi;split at h
  .split at h<;>cases h
  .rename_i f g c;split at h
   .rename_i a d;cases h;exact⟨i,a,hi,c,d,rfl⟩
   .cases h
  .cases h
 .cases h
def JV (T:ZR) (c:TypeId) (a d:Ω):Zf:=
 match Wl T c,d with
 | some (_,b,none),.z (.int _ n)=>match a with
  | .sl _ k l=>if k=b then .Y' (0<=n/\n<l.length) (.ok (.Θ (l.getD n.toNat .Zl).cells)) else .bad
  | _=>.bad
 | some (_,b,some m),.z (.int _ n)=>match a with
  | .Θ e=>.Y' (0<=n/\n<m) (.ok (.Θ (e.drop (n.toNat*b))))
  | _=>.bad
 | _,_=>.bad
def SM (T:ZR) (c:TypeId) (σ:Ο) (a d:Ω):Y2:=
 match Wl T c,d with
 | some (_,b,none),.z (.int _ n)=>match a with
  | .ms id m i len=>match σ[id]? with
   | some (.cells _ k l)=>if k=b/\l.length=m then .Y' (0<=n/\n<len) (.ok (.Κ id m (i+n.toNat) 0) σ) else .bad
   | _=>.bad
  | _=>.bad
 | some (_,b,some len),.z (.int _ n)=>match a with
  | .Κ id m i j=>match σ[id]? with
   | some (.cells _ _ l)=>if l.length=m then .Y' (0<=n/\n<len) (.ok (.Κ id m i (j+n.toNat*b)) σ) else .bad
   | _=>.bad
  | _=>.bad
 | _,_=>.bad
theorem Er (a:ZB P T) {c e:TypeId} {k:Nat} (f:Wl T c=some (e,k,none)) {b o len cap:Nat} {kk:IntKind} {n:Int} (g:0<=n/\n<len) {K:Value->Χ->Prop} {E:Value->Χ->Prop}
  (h:K (.pointer (some ⟨b,o+n.toNat*k,none⟩)) H):Ψ P (Instr.indexAt c (.slice (some ⟨b,o,none⟩) len cap) (.int kk n)) H K E:=by
 obtain⟨i,l,hi,d,j,rfl⟩:=JW f;unfold Instr.indexAt;refine Ψ.bind' ?_;refine Ψ.bind' (a.ZE hi ?_);rw[d];refine Ψ.bind' (Ψ.pure' ?_);refine Ψ.bind' (a.ZE hi ?_);rw[d];simp only[g,and_self,if_true];refine Ψ.bind' (a.size j ?_);rw[Po];exact h
theorem Ep (a:ZB P T) {c e:TypeId} {k m:Nat} (f:Wl T c=some (e,k,some m)) {b o:Nat} {kk:IntKind} {n:Int} (g:0<=n/\n<m) {K:Value->Χ->Prop} {E:Value->Χ->Prop}
  (h:K (.pointer (some ⟨b,o+n.toNat*k,none⟩)) H):Ψ P (Instr.indexAt c (.pointer (some ⟨b,o,none⟩)) (.int kk n)) H K E:=by
 obtain⟨i,l,hi,d,j,rfl⟩:=zm f;unfold Instr.indexAt;refine Ψ.bind' ?_;refine Ψ.bind' (a.ZE hi ?_);rw[d];refine Ψ.bind' (Ψ.bind' (Ψ.pure' ?_));refine Ψ.bind' (a.ZE hi ?_);rw[d];simp only[g,and_self,if_true];refine Ψ.bind' (a.size j ?_);rw[Po];exact h
theorem zl (h:ZB P T) (i:Holds S B σ H) {j:TypeId} {a p:Ω} {v w:Value} (c:π S B σ a v) (r:π S B σ p w):Y3 P (Instr.indexAt j v w) S B H σ ((JV T j a p).YD σ):=by
 unfold JV;split
 .rename_i e t kk n d;cases r;split
  .rename_i ex k l;split
   .rename_i u;subst u;refine .Y' λf=>?_;obtain⟨base,cap,rfl,_⟩:=QQ c;have x:n.toNat<l.length:=U;have s:l[n.toNat]?=some l[n.toNat]:=δ x;obtain⟨b,o,rfl,y⟩:=zn c s;refine λK g=>Er h d f (VE.same i g ?_);rw[Xr,s];exact y
   .exact .bad
  .exact .bad
 .rename_i e t m kk n d;cases r;split
  .rename_i D;refine .Y' λf=>?_;cases c with
   | Θ b o w A C=>exact λK g=>Ep h d f (VE.same i g (Es (.Θ b o w A C) _))
  .exact .bad
 .exact .bad
theorem zk (u:ZB P T) (x:Holds S B σ H) {y:TypeId} {a A:Ω} {v w:Value} (C:π S B σ a v) (D:π S B σ A w):Y3 P (Instr.indexAt y v w) S B H σ (SM T y σ a A):=by
 unfold SM;split
 .rename_i e E kk n g;cases D;split
  .rename_i id m i len;split
   .rename_i t k l d;split
    .rename_i F;obtain⟨rfl,h⟩:=F;refine .Y' λo=>?_;cases C with
     | ms cap c f p I J r=>
      rw[d] at c;cases c;rcases r with r|⟨b,N,rfl,rfl,r⟩
      .omega
      .refine λK s=>Er u g o (VE.same x s ?_);have:i*k+n.toNat*k=(i+n.toNat)*k+0:=by rw[Wr];rfl
       rw[this];exact .Κ d h p
     | Vt v c f=>rw[d] at c;cases c;simp only[Row.WB] at f;omega
    .exact .bad
   .exact .bad
  .exact .bad
 .rename_i e E len kk n g;cases D;split
  .rename_i id m i j;split
   .rename_i t k l d;split
    .rename_i h;refine .Y' λo=>?_;cases C with
     | Κ c f p=>
      rw[d] at c;cases c;refine λK s=>Ep u g o (VE.same x s ?_);rw[UB];exact .Κ d h p
     | Ve v c f=>rw[d] at c;cases c;simp only[Row.WB] at f;omega
    .exact .bad
   .exact .bad
  .exact .bad
 .exact .bad
end
def Ω.YH (σ:Ο):Ω->Bool
 | .z v=>match v with|.agg _|.tuple _=>false|_=>true
 | .ZT _|.ZW _|.Zl=>false
 | .Κ id n _ _|.ms id n _ _=>match σ[id]? with|some (.cells _ _ l)=>decide (l.length<=n)|_=>false
 | .mp id=>match σ[id]? with|some (.map _)=>true|_=>false
 | .it id=>match σ[id]? with|some (.iter ..)=>true|_=>false
 | _=>true
def Ω.P4:Ω->Nat->κ->Ω
 | .ZT l,j,cs=>.ZT (l.take j++cs++l.drop (j+cs.length))
 | _,0,[c]=>c
 | e,_,_=>e
theorem Ω.Hk {σ:Ο} {a:Ω} (h:a.YH σ=true):a.cells=[a]:=by
 cases a<;>first|rfl|cases h
theorem Ω.Eo {σ:Ο} {e:Ω} {j:Nat} {cs:κ} (b:j+cs.length<=e.cells.length) (f:∀c∈cs,Ω.YH σ c=true):(e.P4 j cs).cells=e.cells.take j++cs++e.cells.drop (j+cs.length):=by
 by_cases a:∃l,e=.ZT l
 .obtain⟨l,rfl⟩:=a;rfl
 .have d:e.cells=[e]:=by cases e<;>first|rfl|exact absurd ⟨_,rfl⟩ a
  rw[d] at b ⊢;cases cs with
  | nil=>
   have:e.P4 j []=e:=by cases e<;>cases j<;>first|rfl|exact absurd ⟨_,rfl⟩ a
   rw[this,d]
   match j with
   | 0=>rfl
   | j+1=>simp
  | cons c cs=>
   simp at b;have g:j=0:=U;have h:cs=[]:=by cases cs<;>simp at b ⊢;omega
   subst g;subst h;have:e.P4 0 [c]=c:=by cases e<;>first|rfl|exact absurd ⟨_,rfl⟩ a
   rw[this,Ω.Hk (f c I)];simp
section
variable {P:Program} {T:ZR} {S:μ} {B:Z8} {H:Χ} {σ:Ο}
theorem π.L2 {a:Ω} {v:Value} (h:π S B σ a v) (b:a.YH σ=true):One v:=by
 cases h with
 | z v=>cases v<;>first|trivial|cases b
 | Ve v c d=>
  simp only[Ω.YH,c] at b;split at b
  .rename_i e;cases e;simp only[Row.WB] at d;simp at b;omega
  .cases b
 | Vt v c d=>
  simp only[Ω.YH,c] at b;split at b
  .rename_i e;cases e;simp only[Row.WB] at d;simp at b;omega
  .cases b
 | Uf v c=>simp[Ω.YH,c] at b
 | Tg v c=>simp[Ω.YH,c] at b
 | ZT|ZW|Zl=>cases b
 | _=>trivial
theorem One.cells {v:Value} (h:One v):v.cells=#[v]:=by cases v<;>first|rfl|exact h.elim
theorem π.cells {a:Ω} {v:Value} (h:π S B σ a v) (d:a.cells.all (Ω.YH σ)=true):v.cells.size=a.cells.length/\∀(j:Nat) (c:Ω),a.cells[j]?=some c->∃x,v.cells[j]?=some x/\π S B σ c x/\One x:=by
 have k:a.cells=[a]->v.cells.size=a.cells.length/\∀(j:Nat) (c:Ω),a.cells[j]?=some c->∃x,v.cells[j]?=some x/\π S B σ c x/\One x:=λe=>by
  rw[e] at d ⊢;simp at d;have f:=h.L2 d;rw[f.cells];refine⟨rfl,λj c b=>?_⟩
  match j with
  | 0=>simp at b;subst b;exact⟨v,rfl,h,f⟩
  | j+1=>simp at b
 cases h with
 | ZT vs g l=>
  refine⟨g.symm,λj c b=>?_⟩;have m:j<vs.size:=by rw[<-g];exact(ZA.1 b).1
  have hv:vs[j]?=some vs[j]:=XG m
  have i:=l j c _ b hv;exact⟨_,hv,i,i.L2 (WQ.1 d c (Zi b))⟩
 | _=>exact k rfl
theorem JU (a:Holds S B σ H) {id k:Nat} {t:TypeId} {l:κ} (h:σ[id]?=some (.cells t k l)):∀(j:Nat) left b,σ[j]?≠some (Row.iter id left b):=λj left b c=>by
 obtain⟨bo,e⟩:=Ew a c;obtain⟨_,_,_,_,_,_,_,_,_,⟨es,d⟩,_⟩:=a.row j _ bo c e;rw[h] at d;cases d
theorem En {i a k b lo hi:Nat} (c:b<k) (d:hi<=k) (h:a≠i):¬(i*k+lo<=a*k+b/\a*k+b<i*k+hi):=by
 rintro⟨e,f⟩;rcases Nat.lt_or_gt_of_ne h with h|h
 .have:(a+1)*k<=i*k:=Tr k h;rw[Wr] at this;omega
 .have:(i+1)*k<=a*k:=Tr k h;rw[Wr] at this;omega
def Np (P:Program) (s:Sem Unit) (S:μ) (B:Z8) (H:Χ) (σ:Ο) (r:Y2):Prop:=
 ∀K:Ω->Ο->Prop,r.holds K->Ψ P s H (λ_ H'=>VE S B H σ K undef H') (λ_ _=>False)
theorem Np.next {s:Sem Unit} {r:Y2} (h:Np P s S B H σ r):Does P (do s;pure .skip) S B H σ r:=λK a=>
 Ψ.bind' (Ψ.mono (λ_ G b=>Ψ.pure' ⟨undef,rfl,b⟩) (λ_ _ h=>h) _ (h K a))
theorem Np.bad {s:Sem Unit}:Np P s S B H σ .bad:=λK a=>a.elim
theorem zj (C:Holds S B σ H) {id k i j b N:Nat} {t:TypeId} {l:κ} {e a:Ω} {v:Value} (D:σ[id]?=some (.cells t k l)) (O:B[id]?=some (some (b,N))) (E:l[i]?=some e) (aa:π S B σ a v) (P:a.cells.all (Ω.YH σ)=true)
  (Q:j+a.cells.length<=k) :
  (∀x∈v.cells.toList,One x)/\(∀x,x<a.cells.length->H.owns b (i*k+j+x))/\H.row b=some (t,N)/\
  (let σ':=σ.set id (.cells t k (l.set i (e.P4 j a.cells)));Holds S (B.set id (some (b,N))) σ' (H.Wn b (i*k+j) v.cells.toList)/\Ext S B H S (B.set id (some (b,N))) (H.Wn b (i*k+j) v.cells.toList)/\Zx S S B (B.set id (some (b,N))) σ σ'):=by
 obtain⟨ab,R⟩:=aa.cells P;have r:v.cells.toList.length=a.cells.length:=by simpa using ab
 obtain⟨T,V,W,w,F⟩:=C.row id _ _ D O;have X:i<l.length:=(ZA.1 E).1;have ad:(i+1)*k<=N:=X' (Tr k X) V;have aq:i*k+k<=N:=by rw[Wr] at ad;omega
 have ae:=(F i e E).1
 have af:∀c∈a.cells,Ω.YH σ c=true:=WQ.1 P
 have ag:=Ω.Eo (σ:=σ) (e:=e) (j:=j) (cs:=a.cells) (by rw[ae];exact Q) af;refine⟨λx Y=>?_,λx Y=>?_,T,?_⟩
 .obtain⟨y,J⟩:=St Y;have ah:y<a.cells.length:=by rw[<-r];exact(ZA.1 J).1
  obtain⟨ar,g,_,m⟩:=R y _ (δ ah);rw[Wv] at J;rw[J] at g;cases g;exact m
 .obtain⟨u,ai⟩:=W (i*k+j+x) U;exact⟨u,ai⟩
 .refine C.Ns (r':=.cells t k (l.set i (e.P4 j a.cells))) (bo':=some (b,N)) D trivial O (.inl ⟨_,rfl,I,rfl⟩) (λZ aj n=>.inl ⟨aj,n⟩) (λZ g _=>?_) Χ.Hn (JU C D) (λK=>?_)
  .have ak:Z≠b:=λn=>by subst n;exact g N rfl
   exact⟨λo=>by simp[Χ.Wn,ak],rfl,rfl⟩
  .refine⟨T,by simpa using V,λo al=>?_,λh d=>if h=i/\j<=d/\d<j+a.cells.length then(v.cells[d-j]?).getD undef else w h d,λh n s=>?_⟩
   .simp only[Χ.Wn];split
    .exact⟨_,rfl⟩
    .exact W o al
   .by_cases A:h=i
    .subst A;rw[Xa X] at s;cases s;rw[ag];refine⟨by simp;omega,λd c f=>?_⟩;by_cases L:j<=d/\d<j+a.cells.length
     .have M:a.cells[d-j]?=some c:=by
       rw[Vi,W8 (by simp;omega)] at f;simp only[SY] at f;rw[YK U] at f;have:d-min j e.cells.length=d-j:=U;rw[this] at f;exact f
      obtain⟨x,g,m,p⟩:=R _ _ M;simp only[L,and_self,if_true,g,Option.getD_some];refine⟨?_,m.later K,p⟩;simp only[Χ.Wn,r];rw[if_pos ⟨trivial,U,U⟩];have:h*k+d-(h*k+j)=d-j:=U;rw[this,Wv,g];rfl
     .have M:e.cells[d]?=some c:=by
       by_cases am:d<j
       .rw[Vi,YK (by simp;omega),Tt am] at f;exact f
       .rw[W8 (by simp;omega)] at f;rw[Tq] at f;have:j+a.cells.length+(d-(e.cells.take j++a.cells).length)=d:=by simp;omega
        rw[this] at f;exact f
      simp only[L,and_false,if_false];obtain⟨g,m,p⟩:=(F h e E).2 d c M;refine⟨?_,m.later K,p⟩;simp only[Χ.Wn,r];rw[if_neg (λx=>L ⟨U,U⟩)];exact g
    .rw[WR (YR A)] at s;obtain⟨g,m⟩:=F h n s;refine⟨g,λd c f=>?_⟩;obtain⟨p,an,ao⟩:=m d c f;have ap:d<k:=by rw[<-g];exact(ZA.1 f).1
     simp only[A,false_and,if_false];refine⟨?_,an.later K,ao⟩;simp only[Χ.Wn,r];rw[if_neg (λx=>En (lo:=j) (hi:=j+a.cells.length) ap Q A ⟨x.2.1,U⟩)];exact p
def JS (T:ZR) (c:TypeId) (σ:Ο) (p a:Ω):Y2:=match p with
 | .Κ id n i j=>match T c,σ[id]? with
  | some b,some (.cells t k l)=>match l[i]? with
   | some e=>if l.length=n/\a.cells.length=b.size/\j+b.size<=k/\a.cells.all (Ω.YH σ)=true then .ok .Zl (σ.set id (.cells t k (l.set i (e.P4 j a.cells)))) else .bad
   | none=>.bad
  | _,_=>.bad
 | _=>.bad
theorem zi (r:ZB P T) (s:Holds S B σ H) {g:TypeId} {p a:Ω} {u v:Value} (w:π S B σ p u) (h:π S B σ a v):Np P (Instr.storeAt g u v) S B H σ (JS T g σ p a):=by
 unfold JS;split
 .rename_i id n i j;split
  .rename_i L t k l hi d;split
   .rename_i e y;split
    .rename_i A;obtain⟨M,O,Q,m⟩:=A;cases w with
     | Κ c o C=>
      rename_i b N;rw[d] at c;cases c;intro K D;obtain⟨E,F,I,f⟩:=zj s d C y h m (by omega:j+a.cells.length<=k);obtain⟨R,_⟩:=h.cells m;refine Ψ.bind' (Ψ.pure' ?_);unfold storeVar;refine Ψ.bind' (r.size hi ?_);rw[if_neg U];refine Ψ.storeCells (G:=H) rfl ⟨t,N,I⟩ v.cells.toList 0 H E (λx _ J=>F x (by simp at J;omega)) rfl ?_;exact⟨S,_,_,.Zl,D,f.2.1,f.1,f.2.2,.Zl _⟩
     | Ve v c o=>rw[d] at c;cases c;simp only[Row.WB] at o;omega
    .exact .bad
   .exact .bad
  .exact .bad
 .exact .bad
end
section
variable {P:Program} {T:ZR} {S:μ} {B:Z8} {H:Χ} {σ:Ο}
def Xd (S:μ) (B:Z8) (σ:Ο) (c:Array Value) (k:Nat) (l:κ):Prop:=
 l.length*k<=c.size/\∀(i:Nat) (e:Ω),l[i]?=some e->e.cells.length=k/\∀(j:Nat) (a:Ω),e.cells[j]?=some a->∃x,c[i*k+j]?=some x/\π S B σ a x/\One x
theorem JR {a:Ω} (h:a.YH []=true):a.YH σ=true:=by
 cases a<;>first|exact h|(simp[Ω.YH] at h)
theorem Nn {l:κ} (h:l.all (Ω.YH [])=true):l.all (Ω.YH σ)=true:=by
 rw[WQ] at *;exact λa b=>JR (h a b)
theorem Xd.put {c:Array Value} {k:Nat} {l:κ} (h:Xd S B σ c k l) {i j:Nat} {e a:Ω} {v:Value} (t:l[i]?=some e) (J:π S B σ a v) (y:a.cells.all (Ω.YH σ)=true) (A:j+a.cells.length<=k) :
  let c':=v.cells.zipIdx.foldl (λcs (x:Value×Nat)=>cs.setIfInBounds (i*k+j+x.2) x.1) c
  c'.size=c.size/\Xd S B σ c' k (l.set i (e.P4 j a.cells)):=by
 obtain⟨K,L⟩:=J.cells y;have C:i<l.length:=(ZA.1 t).1;have M:=(h.2 i e t).1;have N:∀c∈a.cells,Ω.YH σ c=true:=WQ.1 y;have O:=Ω.Eo (σ:=σ) (e:=e) (j:=j) (cs:=a.cells) (by rw[M];exact A) N;have P:∀(vs:List Value) (n:Nat) (c:Array Value),((vs.zipIdx n).foldl (λcs (x:Value×Nat)=>cs.setIfInBounds (i*k+j+x.2) x.1) c).size=c.size/\
   ∀p,((vs.zipIdx n).foldl (λcs (x:Value×Nat)=>cs.setIfInBounds (i*k+j+x.2) x.1) c)[p]?=if i*k+j+n<=p/\p<i*k+j+n+vs.length/\p<c.size then vs[p-(i*k+j+n)]? else c[p]?:=by
  intro vs
  induction vs with
  | nil=>intro n c;refine⟨rfl,λp=>?_⟩;rw[if_neg (by simp;omega)];rfl
  | cons v vs Q=>
   intro n c;obtain⟨f,g⟩:=Q (n+1) (c.setIfInBounds (i*k+j+n) v);simp only[List.zipIdx_cons,List.foldl_cons];refine⟨by rw[f];simp,λp=>?_⟩;rw[g p];simp only[TX,List.length_cons];by_cases D:p=i*k+j+n
   .subst D;rw[if_neg U];by_cases E:i*k+j+n<c.size
    .rw[if_pos ⟨U,U,E⟩,Tv E];simp
    .rw[if_neg U,NL (by simp;omega),NL U]
   .by_cases m:i*k+j+(n+1)<=p/\p<i*k+j+(n+1)+vs.length/\p<c.size
    .rw[if_pos m,if_pos ⟨U,U,m.2.2⟩];have:p-(i*k+j+n)=(p-(i*k+j+(n+1)))+1:=U;rw[this,List.getElem?_cons_succ]
    .rw[if_neg m,if_neg U,UR (YR D)]
 obtain⟨F,H⟩:=P v.cells.toList 0 c;have R:v.cells.zipIdx.foldl (λcs (x:Value×Nat)=>cs.setIfInBounds (i*k+j+x.2) x.1) c=(v.cells.toList.zipIdx 0).foldl (λcs (x:Value×Nat)=>cs.setIfInBounds (i*k+j+x.2) x.1) c:=by
  rw[<-Array.foldl_toList];simp
 intro c';have T:c'=(v.cells.toList.zipIdx 0).foldl (λcs (x:Value×Nat)=>cs.setIfInBounds (i*k+j+x.2) x.1) c:=R;rw[T];have I:v.cells.toList.length=a.cells.length:=by simpa using K
 have Z:i*k+k<=c.size:=by
  have f:(i+1)*k<=l.length*k:=Tr k C
  have g:=h.1;rw[Wr] at f;omega
 refine⟨F,by rw[F];simpa using h.1,λo V s=>?_⟩;by_cases u:o=i
 .subst u;rw[Xa C] at s;cases s;rw[O];refine⟨by simp;omega,λb r d=>?_⟩;rw[H,I];by_cases m:j<=b/\b<j+a.cells.length
  .have w:a.cells[b-j]?=some r:=by
    rw[Vi,W8 (by simp;omega)] at d;simp only[SY] at d;rw[YK U] at d;have:b-min j e.cells.length=b-j:=U;rw[this] at d;exact d
   obtain⟨x,f,g,W⟩:=L _ _ w;rw[if_pos ⟨U,U,U⟩];have:o*k+b-(o*k+j+0)=b-j:=U;rw[this,Wv];exact⟨x,f,g,W⟩
  .have w:e.cells[b]?=some r:=by
    by_cases X:b<j
    .rw[Vi,YK (by simp;omega),Tt X] at d;exact d
    .rw[W8 (by simp;omega)] at d;rw[Tq] at d;have:j+a.cells.length+(b-(e.cells.take j++a.cells).length)=b:=by simp;omega
     rw[this] at d;exact d
   rw[if_neg (λx=>m ⟨U,U⟩)];exact(h.2 o e t).2 b r w
 .rw[WR (YR u)] at s;obtain⟨f,g⟩:=h.2 o V s;refine⟨f,λb r d=>?_⟩;have Y:b<k:=by rw[<-f];exact(ZA.1 d).1
  rw[H,I,if_neg (λx=>En (lo:=j) (hi:=j+a.cells.length) Y A u ⟨U,U⟩)];exact g b r d
theorem Xd.Em {z:Value} {a:Ω} (p:π S B σ a z) (r:a.cells.all (Ω.YH σ)=true) {k n m:Nat} (b:a.cells.length=k) (s:n*k<=m) (d:Array Value) (t:d=z.cells) :
  Xd S B σ ((Array.range m).map (d[· % d.size]!)) k (List.replicate n a):=by
 obtain⟨u,v⟩:=p.cells r;subst t;refine⟨by simpa using s,λi e hi=>?_⟩;obtain⟨f,g⟩:=ZA.1 hi;simp at f g;subst g;refine⟨b,λj c h=>?_⟩;obtain⟨x,l,Φ,w⟩:=v j c h;have y:j<k:=by rw[<-b];exact(ZA.1 h).1
 have A:i*k+j<m:=by
  have:(i+1)*k<=n*k:=Tr k f;rw[Wr] at this;omega
 refine⟨x,?_,Φ,w⟩;rw[Py,Array.getElem?_range,if_pos A];simp only[Option.map_some];have:(i*k+j) % z.cells.size=j:=by
  rw[u,b,Nat.mul_comm,Nat.mul_add_mod];exact Qi y
 rw[this];have o:j<z.cells.size:=U;rw[XG o] at l;cases l;rw[getElem!_pos z.cells j o]
theorem Xd.later {b:μ} {B':Z8} {σ':Ο} (d:Zx S b B B' σ σ') {c:Array Value} {k:Nat} {l:κ} (h:Xd S B σ c k l):Xd b B' σ' c k l:=
 ⟨h.1,λi e hi=>⟨(h.2 i e hi).1,λj a f=>by obtain⟨x,g,m,n⟩:=(h.2 i e hi).2 j a f;exact⟨x,g,m.later d,n⟩⟩⟩
theorem Xd.one {a:Ω} {v:Value} (b:π S B σ a v) (d:a.cells.all (Ω.YH σ)=true):Xd S B σ v.cells a.cells.length [a]:=by
 obtain⟨f,g⟩:=b.cells d;refine⟨by simp[f],λi e hi=>?_⟩
 match i with
 | 0=>
  simp at hi;subst hi;refine⟨rfl,λj c h=>?_⟩;rw[OF,UQ];exact g j c h
 | i+1=>simp at hi
theorem L1 (p:Holds S B σ H) {c:Array Value} {k:Nat} {l:κ} (d:Xd S B σ c k l) (t:TypeId) {K:Nat->Χ->Prop} {E:Value->Χ->Prop}
  (h:∀r,H.fresh r->Holds S (B++[some (r,c.size)]) (σ++[.cells t k l]) (H.YB r c t)->Ext S B H S (B++[some (r,c.size)]) (H.YB r c t)->Zx S S B (B++[some (r,c.size)]) σ (σ++[.cells t k l])->K r (H.YB r c t)) :
  Ψ P (newObj (.cells c t)) H K E:=by
 refine⟨rfl,λr f=>?_⟩;have s:∀b,(∀N,some (r,c.size)≠some (b,N))->UL H (H.YB r c t) b:=λb u=>by
  have g:b≠r:=λe=>by subst e;exact u _ rfl
  exact⟨λo=>by simp[Χ.YB,g],by simp[Χ.YB,g],rfl⟩
 have v:Zx S S B (B++[some (r,c.size)]) σ (σ++[.cells t k l])->Vd S (B++[some (r,c.size)]) (σ++[.cells t k l]) (H.YB r c t) (.cells t k l) (some (r,c.size)):=λw=>by
  have m:=d.later w;refine⟨by simp[Χ.YB],d.1,λo y=>⟨c[o],by simp[Χ.YB,y]⟩,λi j=>(c[i*k+j]?).getD undef,λi e hi=>⟨(m.2 i e hi).1,λj a A=>?_⟩⟩;obtain⟨x,n,Φ,C⟩:=(m.2 i e hi).2 j a A;simp only[n,Option.getD_some];exact⟨by simp[Χ.YB,n],Φ,C⟩
 obtain⟨D,F,I⟩:=p.push (λb N e=>by cases e;exact f) s v;exact h r f D F I
theorem L0 (a:Holds S B σ H) (c:Array Value) (t:TypeId) {K:Nat->Χ->Prop} {E:Value->Χ->Prop}
  (h:∀r,Holds (S.lay r c) B σ (H.YB r c t)->Ext S B H (S.lay r c) B (H.YB r c t)->Zx S (S.lay r c) B B σ σ->K r (H.YB r c t)) :
  Ψ P (newObj (.cells c t)) H K E:=by
 refine⟨rfl,λr b=>?_⟩;obtain⟨d,e,f⟩:=a.lay (c:=c) (t:=t) b;exact h r d e f
theorem El {r:Nat} {c:Array Value} {a:Ω} {k:Nat} (f:Zx S (S.lay r c) B B σ σ) (g:Xd S B σ c k [a]):π (S.lay r c) B σ (.Θ a.cells) (.pointer (some ⟨r,0,none⟩)):=by
 have e:=g.later f;refine .Θ r 0 (λj=>(c[j]?).getD undef) (λj x d=>?_) (λj x d=>?_)
 .obtain⟨y,b,_⟩:=(e.2 0 a rfl).2 j x d;rw[OF,UQ] at b;simp[μ.lay,b]
 .obtain⟨y,b,Φ,_⟩:=(e.2 0 a rfl).2 j x d;rw[OF,UQ] at b;simp only[b,Option.getD_some];exact Φ
theorem JQ {r:Nat} {c:Array Value} {k cap:Nat} {l:κ} (ex:Bool) (f:Zx S (S.lay r c) B B σ σ) (g:Xd S B σ c k l) (h:l.length<=cap) (m:ex=true->cap=l.length):π (S.lay r c) B σ (.sl ex k l) (.slice (some ⟨r,0,none⟩) l.length cap):=by
 have a:=g.later f;refine .sl r 0 cap (λi j=>(c[i*k+j]?).getD undef) m h (λi e hi=>(a.2 i e hi).1) (λi e hi j x b=>?_) (λi e hi j x b=>?_)
 .obtain⟨y,d,_⟩:=(a.2 i e hi).2 j x b;simp[μ.lay,d]
 .obtain⟨y,d,Φ,_⟩:=(a.2 i e hi).2 j x b;simp only[d,Option.getD_some];exact Φ
end
end Go.TL
