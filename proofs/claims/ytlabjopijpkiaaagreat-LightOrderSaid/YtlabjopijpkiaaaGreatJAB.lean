import Derived.Test.YtlabjopijpkiaaaGreatJAA
set_option maxHeartbeats 16000000
set_option maxRecDepth 20000
set_option linter.unusedSectionVars false
set_option linter.unusedSimpArgs false
set_option linter.unusedVariables false
namespace Go.TL
open Go.Conc
open Go.ConcM (OsLater)
open Go.ConcN (sumTo upd sumTo_upd upd_ne upd_same sumTo_congr le_sumTo)
open Go.ConcR (mk)
def Sk:Un->Prop
 | .fin|.uc|.us|.done=>True
 | _=>False
def Zp (tok:Nat->Nat->Tok) (i s:Nat) (t:Tok):Nat->Nat->Tok:=upd tok i (upd (tok i) s t)
theorem XE (tok:Nat->Nat->Tok) (i s:Nat) (t:Tok):Zp tok i s t i s=t:=by simp[Zp,upd]
theorem XL {tok:Nat->Nat->Tok} {i s j r:Nat} (t:Tok) (h:¬(j=i/\r=s)):Zp tok i s t j r=tok j r:=by
 unfold Zp upd;by_cases a:j=i
 .subst a;by_cases b:r=s
  .exact absurd ⟨rfl,b⟩ h
  .simp[b]
 .simp[a]
theorem EK (tok:Nat->Nat->Tok) (i s:Nat) (t:Tok):(λj=>Zp tok i s t j s)=upd (λj=>tok j s) i t:=by
 funext j
 by_cases a:j=i
 .subst a;rw[XE,upd_same]
 .rw[XL _ (λh=>a h.1),upd_ne _ _ a]
theorem Hy (tok:Nat->Nat->Tok) (i s:Nat) (t:Tok) {r:Nat} (a:r≠s):(λj=>Zp tok i s t j r)=λj=>tok j r:=by
 funext j;rw[XL _ (λh=>a h.2)]
structure XT (n:Nat) (tok:Nat->Nat->Tok) (spec:Nat->Nat->Option Spec) (h:Nat->Nat->Option (Nat×ε)) (d:Nat->Bool) (a:Nat->Option ε) (e b:Nat->Nat):Prop where
 Z0:∀s o,a s=some o->Pu n o (λi=>tok i s)
 bare:∀s,a s=none->∀i,tok i s=.nil
 out:∀i s,n<=i->tok i s=.nil
 QZ:∀i s sp,spec i s=some sp->∃o,a s=some o/\o.toSpec=sp
 Ox:∀i s φ o,h i s=some (φ,o)->∃c,a s=some c/\XZ n c (λj=>tok j s)<=φ/\(XZ n c (λj=>tok j s)=φ->c=o)
 YJ:∀i s k L g o,a s=some o->tok i s=.ch k (.YJ L) g->o.L=L
 par:∀i s m p f,tok i s=.par m p f->i=e s
 Sj:∀i s k m g,tok i s=.ch k m g->i≠0/\b i=s/\e s<i
 Qb:∀i,i≠0->i<n->∃k m g,tok i (b i)=.ch k m g
 RI:∀i k m g,i≠0->tok i (b i)=.ch k m g->(d i=true↔g≠.work)
 Pt:d 0=false
 Si:∀i s,d i=true->s≠b i->W9 (tok i s)
 Sg:∀i s k m g o,a s=some o->tok i s=.ch k m g->g≠.work->m=.done\/(m=.idle/\o.ZO=none)
 Ow:∀s i j k m g l g',tok i s=.ch k m g->tok j s=.ch k l g'->i=j
 Ps:∀s i k m g q p f,tok i s=.ch k m g->tok (e s) s=.par q p f->k+p<q
 Sf:∀s o,a s=some o->o.L.Nodup/\∀k,k∈o.L↔∃i m g,tok i s=.ch k m g/\Sk m
 QY:∀s o,a s=some o->o.R.Nodup/\∀k,k∈o.R↔∃i m g,tok i s=.ch k m g/\g≠.work
def Alike (t t':Tok):Prop:=(∃m p c a b d,t=.par m p c/\t'=.par a b d/\∀k,k+p<m->k+b<a)\/(∃k m g a g',t=.ch k m g/\t'=.ch k a g')
section
variable {n:Nat} {tok:Nat->Nat->Tok} {spec:Nat->Nat->Option Spec} {view:Nat->Nat->Option (Nat×ε)} {rel:Nat->Bool} {O:Nat->Option ε} {Zs home:Nat->Nat}
theorem XT.lt (h:XT n tok spec view rel O Zs home) {i s:Nat} (a:tok i s≠.nil):i<n:=Nat.lt_of_not_le λb=>a (h.out i s b)
theorem XT.change (h:XT n tok spec view rel O Zs home) {s i:Nat} {o o':ε} {t t':Tok} {K:Nat->Bool} {V:Nat->Option (Nat×ε)} (W:O s=some o) (M:tok i s=t) (N:Alike t t')
  (ad:Pu n o' (upd (λj=>tok j s) i t')) (av:XZ n o' (upd (λj=>tok j s) i t')<XZ n o (λj=>tok j s)) (ae:o'.toSpec=o.toSpec)
  (af:∀r φ q,V r=some (φ,q)->(r=s/\φ=XZ n o' (upd (λj=>tok j s) i t')/\q=o')\/(r≠s/\view i r=some (φ,q)))
  (ag:∀j k L g,Zp tok i s t' j s=.ch k (.YJ L) g->o'.L=L)
  (ah:∀j k m g,j≠0->Zp tok i s t' j (home j)=.ch k m g->(K j=true↔g≠.work)) (ai:K 0=false)
  (aj:∀j r,K j=true->r≠home j->W9 (Zp tok i s t' j r))
  (ak:∀j k m g,Zp tok i s t' j s=.ch k m g->g≠.work->m=.done\/(m=.idle/\o'.ZO=none))
  (al:o'.L.Nodup/\∀k,k∈o'.L↔∃j m g,Zp tok i s t' j s=.ch k m g/\Sk m) (am:o'.R.Nodup/\∀k,k∈o'.R↔∃j m g,Zp tok i s t' j s=.ch k m g/\g≠.work) :
  XT n (Zp tok i s t') spec (upd view i V) K (upd O s (some o')) Zs home:=by
 have aw:i<n:=h.lt (s:=s) (by rw[M];rcases N with⟨_,_,_,_,_,_,rfl,_⟩|⟨_,_,_,_,_,rfl,_⟩<;>simp)
 have Q:=EK tok i s t'
 have S:∀r,r≠s->(λj=>Zp tok i s t' j r)=λj=>tok j r:=λr v=>Hy tok i s t' v
 have E:∀j r,r≠s->Zp tok i s t' j r=tok j r:=λj r v=>congrFun (S r v) j
 have same:∀j,j≠i->∀r,Zp tok i s t' j r=tok j r:=λj c r=>XL _ λx=>c x.1
 have P:∀j r k m g,Zp tok i s t' j r=.ch k m g->∃l w,tok j r=.ch k l w:=λj r k m g c=>by
  by_cases e:j=i/\r=s
  .obtain⟨rfl,rfl⟩:=e;rw[XE] at c;rcases N with⟨_,_,_,_,_,_,_,f,_⟩|⟨X,l,w,F,H,d,f⟩
   .rw[f] at c;cases c
   .rw[f] at c;cases c;exact⟨l,w,by rw[M,d]⟩
  .rw[XL _ e] at c;exact⟨m,g,c⟩
 have an:∀j r k m g,tok j r=.ch k m g->∃l w,Zp tok i s t' j r=.ch k l w:=λj r k m g c=>by
  by_cases e:j=i/\r=s
  .obtain⟨rfl,rfl⟩:=e;rw[XE];rw[M] at c;rcases N with⟨_,_,_,_,_,_,d,_,_⟩|⟨X,l,w,F,H,d,f⟩
   .rw[d] at c;cases c
   .rw[d] at c;cases c;exact⟨F,H,f⟩
  .rw[XL _ e];exact⟨m,g,c⟩
 have Y:∀j r m p A,Zp tok i s t' j r=.par m p A->∃l C I,tok j r=.par l C I/\∀k,k+C<l->k+p<m:=λj r m p A c=>by
  by_cases e:j=i/\r=s
  .obtain⟨rfl,rfl⟩:=e;rw[XE] at c;rcases N with⟨_,_,_,_,_,_,d,f,B⟩|⟨X,l,w,F,H,d,f⟩
   .rw[f] at c;cases c;exact⟨_,_,_,by rw[M,d],B⟩
   .rw[f] at c;cases c
  .rw[XL _ e] at c;exact⟨m,p,A,c,λ_ x=>x⟩
 have J:∀r q,upd O s (some o') r=some q->(r=s/\q=o')\/(r≠s/\O r=some q):=λr q u=>by
  by_cases e:r=s
  .subst e;rw[upd_same] at u;cases u;exact .inl ⟨rfl,rfl⟩
  .rw[upd_ne _ _ e] at u;exact .inr ⟨e,u⟩
 refine⟨λr q u=>?_,λr v j=>?_,λj r c=>?_,λj r sp c=>?_,λj r φ q c=>?_,λj r k L g q u c=>?_,λj r m p A c=>?_,λj r k m g c=>?_,λj ao c=>?_,ah,ai,aj,λj r k m g q u c Z=>?_,λr j aa k m g ap g' d f=>?_,λr j k m g q p A d f=>?_,λr q u=>?_,λr q u=>?_⟩
 .rcases J r q u with⟨rfl,rfl⟩|⟨e,y⟩
  .rw[Q];exact ad
  .rw[S r e];exact h.Z0 r q y
 .by_cases e:r=s
  .subst e;rw[upd_same] at v;cases v
  .rw[upd_ne _ _ e] at v;rw[E j r e];exact h.bare r v j
 .rw[same j U r];exact h.out j r c
 .obtain⟨q,d,f⟩:=h.QZ j r sp c;by_cases e:r=s
  .subst e;rw[W] at d;cases d;exact⟨o',upd_same ..,by rw[ae];exact f⟩
  .exact⟨q,by rw[upd_ne _ _ e];exact d,f⟩
 .have ab:∀φ q,view j r=some (φ,q)->∃D,upd O s (some o') r=some D/\XZ n D (λa=>Zp tok i s t' a r)<=φ/\(XZ n D (λa=>Zp tok i s t' a r)=φ->D=q):=λφ q hv=>by
   obtain⟨D,d,f,B⟩:=h.Ox j r φ q hv;by_cases e:r=s
   .subst e;rw[W] at d;cases d;rw[upd_same,Q];exact⟨o',rfl,U,λx=>U⟩
   .rw[upd_ne _ _ e,S r e];exact⟨D,d,f,B⟩
  by_cases e:j=i
  .subst e;rw[upd_same] at c;rcases af r φ q c with⟨rfl,rfl,rfl⟩|⟨v,hv⟩
   .rw[upd_same,Q];exact⟨_,rfl,γ _,λ_=>rfl⟩
   .exact ab φ q hv
  .rw[upd_ne _ _ e] at c;exact ab φ q c
 .rcases J r q u with⟨rfl,rfl⟩|⟨e,y⟩
  .exact ag j k L g c
  .rw[E j r e] at c;exact h.YJ j r k L g q y c
 .obtain⟨l,C,I,d,_⟩:=Y j r m p A c;exact h.par j r l C I d
 .obtain⟨l,w,d⟩:=P j r k m g c;exact h.Sj j r k l w d
 .obtain⟨k,m,g,d⟩:=h.Qb j ao c;obtain⟨F,H,f⟩:=an j _ k m g d;exact⟨k,F,H,f⟩
 .rcases J r q u with⟨rfl,rfl⟩|⟨e,y⟩
  .exact ak j k m g c Z
  .rw[E j r e] at c;exact h.Sg j r k m g q y c Z
 .obtain⟨a,b,B⟩:=P j r k m g d;obtain⟨aq,ar,T⟩:=P aa r k ap g' f;exact h.Ow r j aa k a b aq ar B T
 .obtain⟨a,b,B⟩:=P j r k m g d;obtain⟨l,C,I,T,au⟩:=Y _ r q p A f;exact au k (h.Ps r j k a b l C I B T)
 .rcases J r q u with⟨rfl,rfl⟩|⟨e,y⟩
  .exact al
  .simp only[λj=>E j r e];exact h.Sf r q y
 .rcases J r q u with⟨rfl,rfl⟩|⟨e,y⟩
  .exact am
  .simp only[λj=>E j r e];exact h.QY r q y
theorem z1 {o o':ε} {t t':Tok} (h:Act o t o' t'):Alike t t':=by
 cases h
 case add=>exact .inl ⟨_,_,_,_,_,_,rfl,rfl,λk a=>U⟩
 case thru|E1|wake=>exact .inl ⟨_,_,_,_,_,_,rfl,rfl,λk a=>a⟩
 all_goals exact .inr ⟨_,_,_,_,_,rfl,rfl⟩
theorem EJ {o o':ε} {t t':Tok} (h:Act o t o' t'):o'.toSpec=o.toSpec/\o'.L=o.L/\o'.R=o.R:=by
 cases h<;>exact⟨rfl,rfl,rfl⟩
theorem EI {o o':ε} {t t':Tok} (h:Act o t o' t'):(∀k m g,t'=.ch k m g->∃a b,t=.ch k a b/\(Sk m↔Sk a)/\(g=.work↔b=.work)/\(b≠.work->m=a)/\∀L,m=.YJ L->a=.YJ L)/\(∀k m g,t=.ch k m g->∃c d,t'=.ch k c d/\(Sk c↔Sk m)/\(d=.work↔g=.work))/\¬W9 t:=by
 refine⟨λk m g e=>?_,λk m g e=>?_,?_⟩
 .cases h<;>cases e<;>exact⟨_,_,rfl,by simp[Sk],I,I,I⟩
 .cases h<;>cases e<;>exact⟨_,_,rfl,by simp[Sk],I⟩
 .cases h<;>simp[W9]
theorem XT.act (h:XT n tok spec view rel O Zs home) {s i:Nat} {o o':ε} {t t':Tok} (v:O s=some o) (u:tok i s=t) (y:Act o t o' t') :
  XT n (Zp tok i s t') spec (upd view i (upd (view i) s (some (XZ n o' (upd (λj=>tok j s) i t'),o')))) rel (upd O s (some o')) Zs home:=by
 obtain⟨K,M,E⟩:=EI y;have D:i<n:=h.lt (s:=s) (by rw[u];rintro rfl;exact E trivial);obtain⟨F,H,N⟩:=EJ y;have C:∀j r k m g,Zp tok i s t' j r=.ch k m g->∃f d,tok j r=.ch k f d/\(Sk m↔Sk f)/\(g=.work↔d=.work)/\(d≠.work->m=f)/\∀L,m=.YJ L->f=.YJ L:=λj r k m g c=>by
  by_cases e:j=i/\r=s
  .obtain⟨rfl,rfl⟩:=e;rw[XE] at c;obtain⟨f,d,l,Φ⟩:=K k m g c;exact⟨f,d,by rw[u,l],Φ⟩
  .rw[XL _ e] at c;exact⟨m,g,c,.rfl,.rfl,λ_=>rfl,λ_ x=>x⟩
 have is:∀j k m g,tok j s=.ch k m g->∃A B,Zp tok i s t' j s=.ch k A B/\(Sk A↔Sk m)/\(B=.work↔g=.work):=λj k m g c=>by
  by_cases e:j=i/\s=s
  .obtain⟨rfl,_⟩:=e;rw[XE];rw[u] at c;exact M k m g c
  .rw[XL _ e];exact⟨m,g,c,.rfl,.rfl⟩
 refine h.change v u (z1 y) (⟨z9 (h.Z0 s o v).1 D u y,z8 (h.Z0 s o v).2 D u y⟩) (EZ D u y) F (λr φ q hv=>?_) (λj k L g c=>?_) (λj k m g P c=>?_) h.Pt (λj r c I=>?_) (λj k m g c Q=>?_) ?_ ?_
 .by_cases e:r=s
  .subst e;rw[upd_same] at hv;cases hv;exact .inl ⟨rfl,rfl,rfl⟩
  .rw[upd_ne _ _ e] at hv;exact .inr ⟨e,hv⟩
 .obtain⟨f,d,l,_,_,_,Φ⟩:=C j s k _ g c;rw[H];exact h.YJ j s k L d o v (by rw[l,Φ L rfl])
 .obtain⟨f,d,l,_,Φ,_⟩:=C j _ k m g c;rw[h.RI j k f d P l];exact not_congr Φ.symm
 .by_cases e:j=i/\r=s
  .obtain⟨rfl,rfl⟩:=e;have:=h.Si j r c I;rw[u] at this;exact absurd this E
  .rw[XL _ e];exact h.Si j r c I
 .obtain⟨f,d,l,_,Φ,p,_⟩:=C j s k m g c;have J:d≠.work:=λx=>Q (Φ.2 x);rw[p J];have:=h.Sg j s k f d o v l J;rw[show o'.ZO=o.ZO by rw[F]];exact this
 .obtain⟨a,b⟩:=h.Sf s o v;rw[H];refine⟨a,λk=>(b k).trans ⟨λ⟨j,m,g,l,Φ⟩=>?_,λ⟨j,m,g,l,Φ⟩=>?_⟩⟩
  .obtain⟨A,B,p,w,_⟩:=is j k m g l;exact⟨j,A,B,p,w.2 Φ⟩
  .obtain⟨f,d,p,w,_⟩:=C j s k m g l;exact⟨j,f,d,p,w.1 Φ⟩
 .obtain⟨a,b⟩:=h.QY s o v;rw[N];refine⟨a,λk=>(b k).trans ⟨λ⟨j,m,g,l,Φ⟩=>?_,λ⟨j,m,g,l,Φ⟩=>?_⟩⟩
  .obtain⟨A,B,p,_,w⟩:=is j k m g l;exact⟨j,A,B,p,λx=>Φ (w.1 x)⟩
  .obtain⟨f,d,p,_,w,_⟩:=C j s k m g l;exact⟨j,f,d,p,λx=>Φ (w.2 x)⟩
theorem XT.look (h:XT n tok spec view rel O Zs home) {s i:Nat} {o:ε} (d:O s=some o):XT n tok spec (upd view i (upd (view i) s (some (XZ n o (λj=>tok j s),o)))) rel O Zs home:=
 have f:∀j r φ q,upd view i (upd (view i) s (some (XZ n o (λj=>tok j s),o))) j r=some (φ,q)->∃b,O r=some b/\XZ n b (λj=>tok j r)<=φ/\(XZ n b (λj=>tok j r)=φ->b=q):=λj r φ q a=>by
  by_cases e:j=i
  .subst e;rw[upd_same] at a;by_cases c:r=s
   .subst c;rw[upd_same] at a;cases a;exact⟨o,d,γ _,λ_=>rfl⟩
   .rw[upd_ne _ _ c] at a;exact h.Ox j r φ q a
  .rw[upd_ne _ _ e] at a;exact h.Ox j r φ q a
 {h with Ox:=f}
theorem Kc {s i:Nat} {r φ:Nat} {q:ε} {o':ε} {z:Nat} (hv:upd (view i) s none r=some (φ,q)):(r=s/\φ=z/\q=o')\/(r≠s/\view i r=some (φ,q)):=by
 by_cases e:r=s
 .subst e;rw[upd_same] at hv;cases hv
 .rw[upd_ne _ _ e] at hv;exact .inr ⟨e,hv⟩
theorem z0 {l:List Nat} {k:Nat} (h:l.Nodup) (d:k∉l):(l++[k]).Nodup:=by
 rw[List.nodup_append];exact⟨h,I,λa e b c=>by simp at c;subst c;rintro rfl;exact d e⟩
theorem XT.HF (h:XT n tok spec view rel O Zs home) {s i k:Nat} {o:ε} (t:O s=some o) (f:tok i s=.ch k .own .work) :
  XT n (Zp tok i s (.ch k (.YJ o.L) .work)) spec (upd view i (upd (view i) s none)) rel (upd O s (some o)) Zs home:=by
 have v:i<n:=h.lt (s:=s) (by rw[f];simp)
 have w:RL o (.ch k .own .work) o (.ch k (.YJ o.L) .work):=.HF
 have p:∀j,j≠i->∀r,Zp tok i s (.ch k (.YJ o.L) .work) j r=tok j r:=λj c r=>XL _ λx=>c x.1
 have A:=h.Sj i s k _ _ f;refine h.change t f (.inr ⟨_,_,_,_,_,rfl,rfl⟩) ⟨Kj (h.Z0 s o t).1 v f w,Ki (h.Z0 s o t).2 v f w⟩ (Kk v f w) rfl (λr φ q hv=>Kc hv) (λj l L g c=>?_) (λj l m g B c=>?_) h.Pt (λj r c y=>?_) (λj l m g c C=>?_) ?_ ?_
 .by_cases e:j=i
  .subst e;rw[XE] at c;cases c;rfl
  .rw[p j e] at c;exact h.YJ j s l L g o t c
 .by_cases e:j=i
  .subst e;have u:home j=s:=A.2.1;rw[u,XE] at c;cases c;exact h.RI j k .own .work B (by rw[u];exact f)
  .rw[p j e] at c;exact h.RI j l m g B c
 .by_cases e:j=i
  .subst e;have u:home j=s:=A.2.1;rw[XL _ (λx=>y (by rw[x.2,u]))];exact h.Si j r c y
  .rw[p j e];exact h.Si j r c y
 .by_cases e:j=i
  .subst e;rw[XE] at c;cases c;exact absurd rfl C
  .rw[p j e] at c;exact h.Sg j s l m g o t c C
 .obtain⟨a,b⟩:=h.Sf s o t;refine⟨a,λl=>(b l).trans ⟨λ⟨j,m,g,d,Φ⟩=>?_,λ⟨j,m,g,d,Φ⟩=>?_⟩⟩
  .by_cases e:j=i
   .subst e;rw[f] at d;cases d;exact Φ.elim
   .exact⟨j,m,g,by rw[p j e];exact d,Φ⟩
  .by_cases e:j=i
   .subst e;rw[XE] at d;cases d;exact Φ.elim
   .exact⟨j,m,g,by rw[p j e] at d;exact d,Φ⟩
 .obtain⟨a,b⟩:=h.QY s o t;refine⟨a,λl=>(b l).trans ⟨λ⟨j,m,g,d,Φ⟩=>?_,λ⟨j,m,g,d,Φ⟩=>?_⟩⟩
  .by_cases e:j=i
   .subst e;rw[f] at d;cases d;exact absurd rfl Φ
   .exact⟨j,m,g,by rw[p j e];exact d,Φ⟩
  .by_cases e:j=i
   .subst e;rw[XE] at d;cases d;exact absurd rfl Φ
   .exact⟨j,m,g,by rw[p j e] at d;exact d,Φ⟩
theorem XT.zZ (h:XT n tok spec view rel O Zs home) {s i k:Nat} {L:List Nat} {o:ε} (p:O s=some o) (l:tok i s=.ch k (.YJ L) .work) :
  XT n (Zp tok i s (.ch k .fin .work)) spec (upd view i (upd (view i) s none)) rel (upd O s (some {o with L:=o.L++[k]})) Zs home:=by
 have u:i<n:=h.lt (s:=s) (by rw[l];simp)
 have y:RL o (.ch k (.YJ L) .work) {o with L:=o.L++[k]} (.ch k .fin .work):=.Aa
 have t:∀j,j≠i->∀r,Zp tok i s (.ch k .fin .work) j r=tok j r:=λj d r=>XL _ λx=>d x.1
 have C:=h.Sj i s k _ _ l
 have only:∀j f v g,tok j s=.ch f (.YJ v) g->j=i:=λj f v g d=>by
  apply Tu;intro F;have H:j<n:=h.lt (s:=s) (by rw[d];simp);have c:=W3 (λa=>tok a s) .nil VZ u;have Φ:=Xq (upd (λa=>tok a s) i .nil) VZ H;rw[upd_ne _ _ F] at Φ;simp only[l,d,VZ,Mj] at c Φ;have:=(h.Z0 s o p).1.E4;have:=(h.Z0 s o p).1.f1;omega
 have I:k∉o.L:=λA=>by
  obtain⟨j,m,g,c,Φ⟩:=((h.Sf s o p).2 k).1 A;have:=h.Ow s j i k m g _ _ c l;subst this;rw[l] at c;cases c;exact Φ
 refine h.change p l (.inr ⟨_,_,_,_,_,rfl,rfl⟩) ⟨Kj (h.Z0 s o p).1 u l y,Ki (h.Z0 s o p).2 u l y⟩ (Kk u l y) rfl (λr φ q hv=>Kc hv) (λj f v g d=>?_) (λj f m g D d=>?_) h.Pt (λj r d B=>?_) (λj f m g d E=>?_) ?_ ?_
 .by_cases e:j=i
  .subst e;rw[XE] at d;cases d
  .rw[t j e] at d;exact absurd (only j f v g d) e
 .by_cases e:j=i
  .subst e;have w:home j=s:=C.2.1;rw[w,XE] at d;cases d;exact h.RI j k (.YJ L) .work D (by rw[w];exact l)
  .rw[t j e] at d;exact h.RI j f m g D d
 .by_cases e:j=i
  .subst e;have w:home j=s:=C.2.1;rw[XL _ (λx=>B (by rw[x.2,w]))];exact h.Si j r d B
  .rw[t j e];exact h.Si j r d B
 .by_cases e:j=i
  .subst e;rw[XE] at d;cases d;exact absurd rfl E
  .rw[t j e] at d;exact h.Sg j s f m g o p d E
 .obtain⟨a,b⟩:=h.Sf s o p;refine⟨z0 a I,λf=>?_⟩;rw[Wd,List.mem_singleton];constructor
  .rintro(A|rfl)
   .obtain⟨j,m,g,c,Φ⟩:=(b f).1 A;have e:j≠i:=by rintro rfl;rw[l] at c;cases c;exact Φ
    exact⟨j,m,g,by rw[t j e];exact c,Φ⟩
   .exact⟨i,.fin,.work,XE ..,trivial⟩
  .rintro⟨j,m,g,c,Φ⟩;by_cases e:j=i
   .subst e;rw[XE] at c;cases c;exact .inr rfl
   .rw[t j e] at c;exact .inl ((b f).2 ⟨j,m,g,c,Φ⟩)
 .obtain⟨a,b⟩:=h.QY s o p;refine⟨a,λf=>(b f).trans ⟨λ⟨j,m,g,c,Φ⟩=>?_,λ⟨j,m,g,c,Φ⟩=>?_⟩⟩
  .by_cases e:j=i
   .subst e;rw[l] at c;cases c;exact absurd rfl Φ
   .exact⟨j,m,g,by rw[t j e];exact c,Φ⟩
  .by_cases e:j=i
   .subst e;rw[XE] at c;cases c;exact absurd rfl Φ
   .exact⟨j,m,g,by rw[t j e] at c;exact c,Φ⟩
theorem XT.zY (h:XT n tok spec view rel O Zs home) {s i k:Nat} {l:Un} {o:ε} (t:O s=some o) (f:tok i s=.ch k l .work) (v:l=.done\/(l=.idle/\o.ZO=none)) (F:∀r,r≠s->W9 (tok i r)) :
  XT n (Zp tok i s (.ch k l .rel)) spec (upd view i (upd (view i) s none)) (upd rel i true) (upd O s (some {o with R:=k::o.R})) Zs home:=by
 have w:i<n:=h.lt (s:=s) (by rw[f];simp)
 have y:RL o (.ch k l .work) {o with R:=k::o.R} (.ch k l .rel):=.z' v
 have u:∀j,j≠i->∀r,Zp tok i s (.ch k l .rel) j r=tok j r:=λj d r=>XL _ λx=>d x.1
 have A:=h.Sj i s k _ _ f
 have H:k∉o.R:=λB=>by
  obtain⟨j,m,g,c,Φ⟩:=((h.QY s o t).2 k).1 B;have:=h.Ow s j i k m g _ _ c f;subst this;rw[f] at c;cases c;exact Φ rfl
 refine h.change t f (.inr ⟨_,_,_,_,_,rfl,rfl⟩) ⟨Kj (h.Z0 s o t).1 w f y,Ki (h.Z0 s o t).2 w f y⟩ (Kk w f y) rfl (λr φ q hv=>Kc hv) (λj p J g d=>?_) (λj p m g K d=>?_) (by rw[upd_ne _ _ (YR A.1)];exact h.Pt) (λj r d D=>?_) (λj p m g d L=>?_) ?_ ?_
 .by_cases e:j=i
  .subst e;rw[XE] at d;rcases v with rfl|⟨rfl,_⟩<;>cases d
  .rw[u j e] at d;exact h.YJ j s p J g o t d
 .by_cases e:j=i
  .subst e;have C:home j=s:=A.2.1;rw[C,XE] at d;cases d;rw[upd_same];simp
  .rw[u j e] at d;rw[upd_ne _ _ e];exact h.RI j p m g K d
 .by_cases e:j=i
  .subst e;have C:home j=s:=A.2.1;have E:r≠s:=λx=>D (by rw[x,C]);rw[XL _ (λx=>E x.2)];exact F r E
  .rw[u j e];rw[upd_ne _ _ e] at d;exact h.Si j r d D
 .by_cases e:j=i
  .subst e;rw[XE] at d;cases d;exact v
  .rw[u j e] at d;exact h.Sg j s p m g o t d L
 .obtain⟨a,b⟩:=h.Sf s o t;refine⟨a,λp=>(b p).trans ⟨λ⟨j,m,g,c,Φ⟩=>?_,λ⟨j,m,g,c,Φ⟩=>?_⟩⟩
  .by_cases e:j=i
   .subst e;rw[f] at c;cases c;exact⟨j,l,.rel,XE ..,Φ⟩
   .exact⟨j,m,g,by rw[u j e];exact c,Φ⟩
  .by_cases e:j=i
   .subst e;rw[XE] at c;cases c;exact⟨j,l,.work,f,Φ⟩
   .exact⟨j,m,g,by rw[u j e] at c;exact c,Φ⟩
 .obtain⟨a,b⟩:=h.QY s o t;refine⟨Q7.2 ⟨H,a⟩,λp=>?_⟩;rw[Y6];constructor
  .rintro(rfl|B)
   .exact⟨i,l,.rel,XE ..,I⟩
   .obtain⟨j,m,g,c,Φ⟩:=(b p).1 B;have e:j≠i:=by rintro rfl;rw[f] at c;cases c;exact Φ rfl
    exact⟨j,m,g,by rw[u j e];exact c,Φ⟩
  .rintro⟨j,m,g,c,Φ⟩;by_cases e:j=i
   .subst e;rw[XE] at c;cases c;exact .inl rfl
   .rw[u j e] at c;exact .inr ((b p).2 ⟨j,m,g,c,Φ⟩)
theorem XT.gtake (h:XT n tok spec view rel O Zs home) {s i q:Nat} {f:Qd} {o:ε} (b:O s=some o) (c:tok i s=.par q 0 f) (t:f=.SV\/f=.w4) :
  XT n (Zp tok i s (.par q 0 .ZP)) spec (upd view i (upd (view i) s none)) rel (upd O s (some o)) Zs home:=by
 have l:i<n:=h.lt (s:=s) (by rw[c];simp)
 have p:RL o (.par q 0 f) o (.par q 0 .ZP):=.gtake t
 have B:∀j,j≠i->∀r,Zp tok i s (.par q 0 .ZP) j r=tok j r:=λj a r=>XL _ λx=>a x.1
 have cs:∀j r k m g,Zp tok i s (.par q 0 .ZP) j r=.ch k m g↔tok j r=.ch k m g:=λj r k m g=>by
  by_cases e:j=i/\r=s
  .obtain⟨rfl,rfl⟩:=e;rw[XE,c];simp
  .rw[XL _ e]
 refine h.change b c (.inl ⟨_,_,_,_,_,_,rfl,rfl,λk u=>u⟩) ⟨Kj (h.Z0 s o b).1 l c p,Ki (h.Z0 s o b).2 l c p⟩ (Kk l c p) rfl (λr φ q hv=>Kc hv) (λj d v g a=>?_) (λj d m g w a=>?_) h.Pt (λj r a y=>?_) (λj d m g a A=>?_) ?_ ?_
 .rw[cs] at a;exact h.YJ j s d v g o b a
 .rw[cs] at a;exact h.RI j d m g w a
 .by_cases e:j=i/\r=s
  .obtain⟨rfl,rfl⟩:=e;rw[XE];trivial
  .rw[XL _ e];exact h.Si j r a y
 .rw[cs] at a;exact h.Sg j s d m g o b a A
 .simp only[cs];exact h.Sf s o b
 .simp only[cs];exact h.QY s o b
end
def TS (a O':Nat->Option ε):Prop:=(∀s o',O' s=some o'->∃o,a s=some o/\o.toSpec=o'.toSpec)/\∀s o,a s=some o->∃o',O' s=some o'/\o.toSpec=o'.toSpec
theorem TS.upd {b:Nat->Option ε} {s:Nat} {o o':ε} (c:b s=some o) (h:o'.toSpec=o.toSpec):TS b (Go.ConcN.upd b s (some o')):=by
 refine⟨λr q a=>?_,λr q a=>?_⟩
 .by_cases e:r=s
  .subst e;rw[upd_same] at a;cases a;exact⟨o,c,h.symm⟩
  .rw[upd_ne _ _ e] at a;exact⟨q,a,rfl⟩
 .by_cases e:r=s
  .subst e;rw[c] at a;cases a;exact⟨o',upd_same ..,h.symm⟩
  .exact⟨q,by rw[upd_ne _ _ e];exact a,rfl⟩
section
variable {H:Y5->Χ} {Z3:Nat->Nat->Option (Array Value×TypeId)} {tok Qa:Nat->Nat->Tok} {O O':Nat->Option ε} {Zs:Nat->Nat} {deaf EH:Nat->Nat} {N QX:Nat} {t:Trace} {ZC w w':World}
theorem Kb {h:Y5} {k:Nat} (c:∀s o',O' s=some o'->∃o,O s=some o/\o.toSpec=o'.toSpec) (d:∀i s,Qa i s≠.nil->tok i s≠.nil) (a:Vf tok O t h k):Vf Qa O' t h k:=by
 cases h with
 | inl i=>exact a
 | inr b=>
  refine a.imp id λh s o e f i hi=>?_;obtain⟨g,j,l⟩:=c s o e;exact h s g j (by rw[l];exact f) i (d i s hi)
theorem VH.zX (h:VH H Z3 tok O Zs deaf N t) (a:TS O O') (c:∀i s,Qa i s≠.nil->tok i s≠.nil):VH H Z3 Qa O' Zs deaf N t:=
 ⟨h.race,h.low,h.norel,λk=>(h.perms k).mono λ_=>Kb a.1 c,h.Sl,λs o b d e=>let ⟨f,g,j⟩:=a.1 s o d;h.cont s f b g (by rw[j];exact e),h.hears⟩
theorem VW.Tp (h:VW H Z3 O QX) (e:TS O O'):VW H Z3 O' QX:=
 ⟨h.apart,h.high,h.SQ,h.fresh,λs o b a f=>let ⟨g,c,d⟩:=e.1 s o a;h.UO s g b c (by rw[d];exact f),
  λs i o o' b a j f k=>let ⟨g,c,d⟩:=e.1 s o a;let ⟨l,n,p⟩:=e.1 i o' j;h.Uz s i g l b c n (by rw[d];exact f) (by rw[p];exact k),
  λs o m a r=>let ⟨g,c,d⟩:=e.1 s o a;h.RJ s g m c (by rw[d];exact r),
  λb f=>h.X2 b λs o a hi=>let ⟨o',c,d⟩:=e.2 s o a;f s o' c (by rw[<-d];exact hi)⟩
theorem VH.ext (h:VH H Z3 tok O Zs deaf N t) (K:VW H Z3 O QX) (i:Nat) {u:Trace} (P:∀c∈u,c.g=i) (r:∀c∈u,c.act.low N) (S:∀c∈u,∀a,c.act≠.mark (.release a))
  (E:∀c∈u,∀b,c.act.touch?=some b->∃s o f w,O s=some o/\X9 s o.toSpec f/\b.loc=.cell ⟨f,w,none⟩/\(b.kind=.atomic\/(b.kind=.said/\i=Zs s)))
  (hd:∀j,Deaf (t++u) j=EH j):VH H Z3 tok O Zs EH N (t++u):=by
 refine⟨λT=>noRace_append (h.race T) P λk a m c d b D L=>?_,λc d=>(Ss.1 d).elim (h.low c) (r c),λc d=>(Ss.1 d).elim (h.norel c) (S c),λk=>?_,λj b v hv k a m l=>?_,λs o b Q D k a m l=>?_,hd⟩
 .obtain⟨s,o,f,w,A,B,n,C⟩:=E c d b D;obtain⟨U,_,_,R⟩:=L;have l:SW a.loc f:=by rw[U,n];rfl
  rcases h.cont s o f A B k a m l with F|⟨F,V⟩
  .exfalso;rcases R with x|x|⟨_,x,_⟩
   .rw[F] at x;cases x
   .rcases C with y|⟨y,_⟩<;>(rw[y] at x;cases x)
   .rw[F] at x;cases x
  .rcases C with y|⟨y,rfl⟩
   .exfalso;rcases R with x|x|⟨_,_,x⟩
    .rw[F] at x;cases x
    .rw[y] at x;cases x
    .rw[y] at x;cases x
   .obtain⟨z,I,_⟩:=touch_of m;have:=knows_own I;have e:z.g=Zs s:=by simpa[Trace.g?,I] using V
    rwa [e] at this
 .have:YI (t++u) (Vf tok O (t++u) k) (H k):=(h.perms k).others (λx W=>HA _ W) λc d a m=>by
   obtain⟨s,o,f,w,A,B,n,C⟩:=E c d a m;have w:=(K.UO s o f A B).2.1 k;refine⟨λb o' v p r L=>?_,λb r D=>?_⟩
   .rw[n] at r;cases r;exact absurd ⟨_,L⟩ (w.1 _)
   .rw[n] at r;cases r
  exact this
 .rcases To m with J|⟨_,c,d,_,M⟩
  .exact h.Sl j b v hv k a J l
  .obtain⟨s,o,f,w,A,B,n,C⟩:=E c d a M;rw[n] at l;simp only[SW] at l;subst l;rw[(K.UO s o f A B).2.2 j] at hv;cases hv
 .rcases To m with J|⟨_,c,d,X,M⟩
  .rcases h.cont s o b Q D k a J l with x|⟨x,Y⟩
   .exact .inl x
   .obtain⟨z,I,_⟩:=touch_of J;exact .inr ⟨x,by rw[g?_old (lt_size_of_getElem? I)];exact Y⟩
  .obtain⟨Z,o',f,w,A,B,n,C⟩:=E c d a M;rw[n] at l;simp only[SW] at l;subst l;have es:=K.Uz s Z o o' f Q A D B;subst es;rcases C with x|⟨x,y⟩
   .exact .inl x
   .exact .inr ⟨x,by simp[Trace.g?,X,P c d,y]⟩
theorem YI.sub {e:Nat->Prop} {G G':Χ} (h:YI t e G) (f:Sub G' G):YI t e G':=
 ⟨λb o v p g i a c d j=>let ⟨k,l,m⟩:=f.θ b o v p g;h.θ b o v k l i a c d (j.imp m id),λb ⟨x,n⟩ i a c d=>h.obj b ⟨x,f.obj b x n⟩ i a c d⟩
theorem YI.join {g:Nat->Prop} {G E:Χ} (h:YI t g G) (k:YI t g E):YI t g (Go.TL.join G E):=by
 refine⟨λb o v p d i a e f l=>?_,λb m i a e f=>?_⟩
 .simp only[Go.TL.join] at d;cases c:G.θ b o with
  | none=>rw[c] at d;exact k.θ b o v p d i a e f l
  | some y=>rw[c] at d;cases d;exact h.θ b o v p c i a e f l
 .obtain⟨x,j⟩:=m;simp only[Go.TL.join] at j;cases c:G.obj b with
  | none=>rw[c] at j;exact k.obj b ⟨x,j⟩ i a e f
  | some y=>exact h.obj b ⟨y,c⟩ i a e f
theorem YI.empty {a:Nat->Prop}:YI t a Χ.empty:=⟨λ_ _ _ _ h=>(by cases h),λ_ ⟨_,h⟩=>(by cases h)⟩
theorem YI.release {i b:Nat} {G:Χ} {y:MemOp} (h:YI t (Knows t i) G) (f:y.g=i) (j:y.act=.mark (.releaseMerge ⟨b,0,none⟩)) (hd:Deaf t i=0):YI (t++#[y]) (Vf tok O (t++#[y]) (.inr b)) G:=by
 have l:(t++#[y])[t.size]?=some y:=I
 have s:(t++#[y]).heard t.size:=⟨i,by simp[Trace.g?,f],by rw[deaf_old (γ _)];exact hd⟩
 have m:∀k,Knows t i k->Vf tok O (t++#[y]) (.inr b) k:=λk u=>.inl ⟨t.size,y,l,j,s,.inr (u.hb_new (γ _) l f)⟩
 have nt:∀k a,touchAt (t++#[y]) k=some a->touchAt t k=some a:=λk a c=>by
  rcases To c with w|⟨_,C,n,_,r⟩
  .exact w
  .simp at n;subst n;rw[j] at r;simp[MemAct.touch?] at r
 exact⟨λd o v p x k a c e A=>m k (h.θ d o v p x k a (nt k a c) e A),λd B k a c e=>m k (h.obj d B k a (nt k a c) e)⟩
theorem YI.acquire {i b s:Nat} {o:ε} {E:Χ} {y:MemOp} (h:YI t (Vf tok O t (.inr b)) E) (D:∀e∈t,∀a,e.act≠.mark (.release a)) (F:O s=some o) (f:X9 s o.toSpec b) (hi:tok i s≠.nil)
  (r:y.g=i) (u:y.act=.mark (.acquire ⟨b,0,none⟩)) (hd:Deaf t i=0):YI (t++#[y]) (Knows (t++#[y]) i) E:=by
 have w:(t++#[y])[t.size]?=some y:=I
 have H:(t++#[y]).heard t.size:=⟨i,by simp[Trace.g?,r],by rw[deaf_old (γ _)];exact hd⟩
 have x:∀k,Vf tok O t (.inr b) k->Knows (t++#[y]) i k:=λk j=>by
  rcases j with⟨p,e,A,J,K,L⟩|j
  .have l:=lt_size_of_getElem? A;refine⟨t.size,y,w,r,.inr ((L.app #[y]).hb (.single (.inr ⟨.marked (a:=⟨b,0,none⟩) l (.inr ?_) ?_ ?_,(heard_old l).2 K,H⟩)))⟩
   .rw[act?_old l,act?_of A,J]
   .rw[act?_of w,u]
   .intro T U M B;rw[act?_old M] at B;obtain⟨N,P,d⟩:=Ts.1 B;exact D N (mem_of_getElem? P) _ d
  .exact(j s o F f i hi).app _
 have nt:∀k a,touchAt (t++#[y]) k=some a->touchAt t k=some a:=λk a c=>by
  rcases To c with Q|⟨_,e,C,_,d⟩
  .exact Q
  .simp at C;subst C;rw[u] at d;simp[MemAct.touch?] at d
 exact⟨λm o v p R k a c n S=>x k (h.θ m o v p R k a (nt k a c) n S),λm f k a c n=>x k (h.obj m f k a (nt k a c) n)⟩
theorem Knows.spawn {i j k:Nat} {y z:MemOp} (h:Knows t i k) (c:y.g=i) (d:y.act=.go j) (a:z.g=j) (f:z.act=.start) (hd:Deaf t i=0) (l:Deaf t j=0):Knows (t++#[y,z]) j k:=by
 have b:(t++#[y,z])[t.size]?=some y:=I
 have e:(t++#[y,z])[t.size+1]?=some z:=I
 have d1:(t++#[y,z]).heard t.size:=⟨i,by simp[Trace.g?,c],by rw[deaf_old (γ _)];exact hd⟩
 have d2:(t++#[y,z]).heard (t.size+1):=⟨j,by simp[Trace.g?,a],by
  rw[deaf_succ b];have:deafStep j ((t++#[y,z]).deaf j t.size) y=(t++#[y,z]).deaf j t.size:=by simp[deafStep,d]
  rw[this,deaf_old (γ _)];exact l⟩
 have m:=h.hb_new (u:=#[y,z]) (γ _) b c
 have Φ:HappensBefore (t++#[y,z]) t.size (t.size+1):=.single (.inr ⟨.spawn (child:=j) (by rw[act?_of b,d]) (by rw[act?_of e,f]) (by simp[Trace.g?,a]),d1,d2⟩);exact⟨t.size+1,z,e,a,.inr (m.trans Φ)⟩
theorem Sub.refl (G:Χ):Sub G G:=⟨λ_ _ _ p h=>⟨p,h,id⟩,λ_ _ h=>h,λ_ _ h=>h⟩
theorem Sub.owns {G G':Χ} (h:Sub G' G) {b o:Nat} (x:G'.owns b o):G.owns b o:=let ⟨v,hv⟩:=x;let ⟨p,a,c⟩:=h.θ b o v true hv;⟨v,by rw[a,c rfl]⟩
theorem Sub.has {G G':Χ} (h:Sub G' G) {b o:Nat} (x:G'.has b o):G.has b o:=let ⟨v,hv⟩:=x;let ⟨p,a,_⟩:=h.θ b o v.1 v.2 hv;⟨_,a⟩
theorem Sub.XF {G G':Χ} (h:Sub G' G) {b:Nat} (x:G'.XF b):G.XF b:=let ⟨v,hv⟩:=x;⟨v,h.obj b v hv⟩
theorem Sub.off {G G':Χ} (h:Sub G' G) {b:Nat} (x:G.off b):G'.off b:=⟨λo a=>x.1 o (h.has a),λa=>x.2 (h.XF a)⟩
theorem Sub.fits {G G':Χ} (h:Sub G' G) (x:Fits G w):Fits G' w:=⟨λb o v p a=>let ⟨c,d,_⟩:=h.θ b o v p a;x.θ b o v c d,λb t n e=>x.row b t n (h.row b _ e),λb v hv=>x.obj b v (h.obj b v hv)⟩
theorem Apart.symm {A B:Χ} (h:Apart A B):Apart B A:=⟨h.Q4,h.θ,λb a c=>h.obj b c a⟩
theorem Apart.sub {A B d B':Χ} (h:Apart A B) (a:Sub d A) (c:Sub B' B):Apart d B':=
 ⟨λb o x y=>h.θ b o (a.owns x) (c.has y),λb o x y=>h.Q4 b o (c.owns x) (a.has y),λb x y=>h.obj b (a.XF x) (c.XF y)⟩
theorem Apart.Pr (A:Χ):Apart A Χ.empty:=⟨λ_ _ _ ⟨_,h⟩=>(by cases h),λ_ _ ⟨_,h⟩=>(by cases h),λ_ _ ⟨_,h⟩=>(by cases h)⟩
theorem Hx {G E:Χ} {b o:Nat} (h:(join G E).owns b o):G.owns b o\/E.owns b o:=by
 obtain⟨v,hv⟩:=h;simp only[join] at hv;cases a:G.θ b o with
 | none=>rw[a] at hv;exact .inr ⟨v,hv⟩
 | some y=>rw[a] at hv;cases hv;exact .inl ⟨v,a⟩
theorem EG {G E:Χ} {b o:Nat} (h:(join G E).has b o):G.has b o\/E.has b o:=by
 obtain⟨v,hv⟩:=h;simp only[join] at hv;cases a:G.θ b o with
 | none=>rw[a] at hv;exact .inr ⟨v,hv⟩
 | some y=>exact .inl ⟨y,a⟩
theorem Ka {G E:Χ} {b:Nat} (h:(join G E).XF b):G.XF b\/E.XF b:=by
 obtain⟨v,hv⟩:=h;simp only[join] at hv;cases a:G.obj b with
 | none=>rw[a] at hv;exact .inr ⟨v,hv⟩
 | some y=>exact .inl ⟨y,a⟩
theorem zW {G E:Χ} {b:Nat} (h:G.off b) (k:E.off b):(join G E).off b:=⟨λo a=>(EG a).elim (h.1 o) (k.1 o),λa=>(Ka a).elim h.2 k.2⟩
theorem Mb {G E:Χ} (h:Fits G w) (k:Fits E w):Fits (join G E) w:=by
 refine⟨λb o v p c=>?_,λb t n d=>?_,λb v hv=>?_⟩
 .simp only[join] at c;cases a:G.θ b o with
  | none=>rw[a] at c;exact k.θ b o v p c
  | some y=>rw[a] at c;cases c;exact h.θ b o v p a
 .simp only[join] at d;cases a:G.row b with
  | none=>rw[a] at d;exact k.row b t n d
  | some y=>rw[a] at d;cases d;exact h.row b t n a
 .simp only[join] at hv;cases a:G.obj b with
  | none=>rw[a] at hv;exact k.obj b v hv
  | some y=>rw[a] at hv;cases hv;exact h.obj b v a
theorem Apart.QW {A B C:Χ} (h:Apart A C) (k:Apart B C):Apart (join A B) C:=
 ⟨λb o x y=>(Hx x).elim (λz=>h.θ b o z y) (λz=>k.θ b o z y),λb o x y=>(EG y).elim (λz=>h.Q4 b o x z) (λz=>k.Q4 b o x z),λb x y=>(Ka x).elim (λz=>h.obj b z y) (λz=>k.obj b z y)⟩
theorem Ov (w:World):Fits Χ.empty w:=⟨λ_ _ _ _ h=>(by cases h),λ_ _ _ h=>(by cases h),λ_ _ h=>(by cases h)⟩
theorem VW.two (h:VW H Z3 O QX) {a b:Y5} (S:a≠b) {A B:Χ} (w:Sub A (join (H a) (H b))) (y:Sub B (join (H a) (H b))) (N:Apart A B)
  (I:TS O O') (P:∀x,b=.inr x\/a=.inr x->∃s o,O s=some o/\X9 s o.toSpec x):VW (Zz (Zz H a A) b B) Z3 O' QX:=by
 have E:=h.Tp I
 have n:Zz (Zz H a A) b B a=A:=by rw[Zy _ _ S,Yw]
 have r:Zz (Zz H a A) b B b=B:=Yw _ _ _
 have j:∀k,k≠a->k≠b->Zz (Zz H a A) b B k=H k:=λk d f=>by rw[Zy _ _ f,Zy _ _ d]
 have F:∀k,k≠a->k≠b->Apart (join (H a) (H b)) (H k):=λk d f=>(h.apart a k (YR d)).QW (h.apart b k (YR f))
 have Q:∀x,(∀k,(H k).off x)->(join (H a) (H b)).off x:=λx g=>zW (g a) (g b)
 have J:∀{p:Y5->Prop},p a->p b->(∀k,k≠a->k≠b->p k)->∀k,p k:=λl m T k=>by
  by_cases d:k=a
  .rw[d];exact l
  .by_cases f:k=b
   .rw[f];exact m
   .exact T k d f
 have R:∀x,(∀k,(H k).off x)->∀k,(Zz (Zz H a A) b B k).off x:=λx g=>J (by rw[n];exact w.off (Q x g)) (by rw[r];exact y.off (Q x g)) (λk d f=>by rw[j k d f];exact g k);refine⟨λp q C=>?_,?_,?_,λi x v hv=>?_,λs o x D g=>?_,E.Uz,E.RJ,λx g=>?_⟩
 .by_cases l:p=a
  .subst l;by_cases t:q=b
   .subst t;rw[n,r];exact N
   .rw[n,j q (YR C) t];exact(F q (YR C) t).sub w (Sub.refl _)
  .by_cases m:p=b
   .subst m;by_cases u:q=a
    .subst u;rw[n,r];exact N.symm
    .rw[r,j q u (YR C)];exact(F q u (YR C)).sub y (Sub.refl _)
   .by_cases u:q=a
    .subst u;rw[n,j p l m];exact((F p l m).sub w (Sub.refl _)).symm
    .by_cases t:q=b
     .subst t;rw[r,j p l m];exact((F p l m).sub y (Sub.refl _)).symm
     .rw[j p l m,j q u t];exact h.apart p q C
 .exact J (λx o c=>by rw[n] at c;exact(Hx (w.owns c)).elim (h.high _ _ _) (h.high _ _ _)) (λx o c=>by rw[r] at c;exact(Hx (y.owns c)).elim (h.high _ _ _) (h.high _ _ _)) (λk d f x o c=>by rw[j k d f] at c;exact h.high _ _ _ c)
 .exact J (λx c=>by rw[n] at c;exact(Ka (w.XF c)).elim (h.SQ _ _) (h.SQ _ _)) (λx c=>by rw[r] at c;exact(Ka (y.XF c)).elim (h.SQ _ _) (h.SQ _ _)) (λk d f x c=>by rw[j k d f] at c;exact h.SQ _ _ c)
 .obtain⟨K,L,M⟩:=h.fresh i x v hv;exact⟨K,R x L,M⟩
 .obtain⟨K,L,M⟩:=E.UO s o x D g;exact⟨K,R x L,M⟩
 .have U:(.inr x:Y5)≠b:=λe=>by
   obtain⟨s,o,D,hi⟩:=P x (.inl e.symm);obtain⟨o',d,f⟩:=I.2 s o D;exact g s o' d (by rw[<-f];exact hi)
  have V:(.inr x:Y5)≠a:=λe=>by
   obtain⟨s,o,D,hi⟩:=P x (.inr e.symm);obtain⟨o',d,f⟩:=I.2 s o D;exact g s o' d (by rw[<-f];exact hi)
  rw[j _ V U];exact E.X2 x g
theorem Sub.QW {G E A:Χ} (h:Sub A G):Sub A (join G E):=
 ⟨λb o v p c=>let ⟨d,e,f⟩:=h.θ b o v p c;⟨d,by simp[join,e],f⟩,λb x a=>by simp[join,h.row b x a],λb x a=>by simp[join,h.obj b x a]⟩
theorem WE.two (h:WE H Z3 O ZC w) {a b:Y5} {A B:Χ} (e:Fits A w) (f:Fits B w) (g:∀s o',O' s=some o'->At s o' w):WE (Zz (Zz H a A) b B) Z3 O' ZC w:=by
 refine⟨λk=>?_,h.TT,g,h.keep⟩;by_cases c:k=b
 .subst c;rw[Yw];exact f
 .rw[Zy _ _ c];by_cases d:k=a
  .subst d;rw[Yw];exact e
  .rw[Zy _ _ d];exact h.fit k
theorem WE.atom (h:WE H Z3 O ZC w) (u:VW H Z3 O QX) (Q:ZC.heap.size=QX) {s:Nat} {o o':ε} (v:O s=some o) (R:o'.toSpec=o.toSpec) (d:Xj (λb _=>X9 s o.toSpec b) (λ_=>False) w w') (E:At s o' w') :
  WE H Z3 (Go.ConcN.upd O s (some o')) ZC w':=by
 refine⟨λk=>(h.fit k).keeps d (λb f a=>((u.UO s o b v a).2.1 k).1 f) (λb a=>a.elim),λj b c t a=>?_,λr q n=>?_,?_⟩
 .obtain⟨c',g,p,i⟩:=d.cells b c t _ (h.TT j b c t a);have:c'=c:=by
   apply NF;intro f;exact i f λA=>by rw[(u.UO s o b v A).2.2 j] at a;cases a
  rw[g,this]
 .by_cases e:r=s
  .subst e;rw[upd_same] at n;cases n;exact E
  .rw[upd_ne _ _ e] at n;have B:∀b c t,X9 r q.toSpec b->w.heap[b]?=some (.cells c t (0,0))->w'.heap[b]?=some (.cells c t (0,0)):=λb c t a F=>by
    obtain⟨c',g,p,i⟩:=d.cells b c t _ F;have:c'=c:=by
     apply NF;intro f;exact i f λA=>e (u.Uz r s q o b n v a A)
    rw[g,this]
   obtain⟨⟨I,g⟩,p⟩:=h.Xf r q n;exact⟨⟨I,B _ _ _ (.inl rfl) g⟩,λm C=>let ⟨J,i⟩:=p m C;⟨J,B _ _ _ (.inr C) i⟩⟩
 .have l:=h.keep;refine⟨X' l.size d.size,λb c t D a=>?_,λb x a y _=>d.Tp b x (l.Tp b x a y id) y id,l.os.trans d.os,d.output.trans l.output,d.tape.trans l.tape⟩;obtain⟨K,g,p,i⟩:=l.cells b c t D a;obtain⟨L,M,N,P⟩:=d.cells b K t D g;refine⟨L,M,by rw[N,p],λf _=>?_⟩;rw[P f λy=>?_,i f id];have:=(u.UO s o b v y).1;have:=Xi a;omega
end
structure NA (H:Y5->Χ) (tok:Nat->Nat->Tok) (a:Nat->Option ε):Prop where
 RH:∀s o m,a s=some o->o.ZO=some m->(∀i q p,tok i s≠.par q p .ZP)->(∀i k L g,tok i s≠.ch k (.YJ L) g)->o.XQ o.L (H (.inr m))
 Se:∀s o,a s=some o->(∀i q p,tok i s≠.par q p .ZP)->Ui o.D o.R (H (.inr s))
structure Ou (n:Nat) (tok:Nat->Nat->Tok) (d:Nat->Bool) (c a b:Nat->Nat) (t:Trace):Prop where
 QV:∀k g,t.g? k=some g->g<n
 c1:∀i,i≠0->d i=true->∃e,t[b i]?=some e/\e.g=i/\e.act=.mark (.releaseMerge ⟨a i,0,none⟩)/\t.heard (b i)/\∀k,t.g? k=some i->t.counts k->Before t k (b i)
 c2:∀i,i≠0->d i=true->(∃q p,tok (c (a i)) (a i)=.par q p .ZP)->Knows t (c (a i)) (b i)
 c3:∀i,i≠0->d i=true->c (a i)≠0->d (c (a i))=true->Before t (b i) (b (c (a i)))
structure Nz (c:Nat->Nat->Option (Array Value×TypeId)) (tok:Nat->Nat->Tok) (d:Nat->Option ε) (e:Nat->Bool) (f:Nat->Nat) (t:Trace):Prop where
 Ot:∀s o m,d s=some o->o.ZO=some m->∀p a,t[p]?=some a->a.act=.mark (.releaseMerge ⟨m,0,none⟩)->(∃k h g,tok a.g s=.ch k h g)/\(e a.g=true->Before t p (f a.g))
 Oq:∀i b v,c i b=some v->∀a∈t,a.act≠.mark (.releaseMerge ⟨b,0,none⟩)
def Rec (P:Program) (b:Value->Prop) (c:YQ) (i:Nat) (g:Goroutine):Prop:=
 ∃Tk,Vg P b (c.T i) (i==0) Tk (c.x i)/\(g=Tk\/(VI Tk/\g={Tk with status:=.blocked}/\∃s o,c.O s=some o/\U1 o (c.tok i s)/\∀a,a≠s->Tl (c.tok i a)))
structure Inv (P:Program) (d:Value->Prop) (b:World) (c:YQ) (a:Array Goroutine) (w:World) (t:Trace):Prop where
 pos:0<a.size
 mem:WE c.H c.Z3 c.O b w
 hold:VW c.H c.Z3 c.O b.heap.size
 Zu:VH c.H c.Z3 c.tok c.O c.Zs c.deaf w.heap.size t
 Za:XT a.size c.tok c.spec c.view c.rel c.O c.Zs c.home
 X2:NA c.H c.tok c.O
 Ye:Ou a.size c.tok c.rel c.Zs c.home c.XM t
 WC:Nz c.Z3 c.tok c.O c.rel c.XM t
 Oo:∀i g,a[i]?=some g->Rec P d c i g
theorem Ma {t u:Trace} {k:Nat} (h:k<t.size):(t++u).counts k↔t.counts k:=by
 unfold Trace.counts;rw[act?_old h,heard_old h]
theorem Ou.app {n:Nat} {tok l:Nat->Nat->Tok} {m:Nat->Bool} {y A B:Nat->Nat} {t u:Trace} (h:Ou n tok m y A B t) {i:Nat} (hi:i<n) (C:∀b∈u,b.g=i)
  (F:m i=true->∀k,t.size<=k->¬(t++u).counts k) (Q:∀s q p,(∃j,l j s=.par q p .ZP)->∃j,tok j s=.par q p .ZP) (H:∀j s q p,l j s=.par q p .ZP->tok j s=.par q p .ZP):Ou n l m y A B (t++u):=by
 refine⟨λk g o=>?_,λj c a=>?_,λj c a I=>?_,λj c a f r=>(h.c3 j c a f r).app u⟩
 .obtain⟨b,v,d⟩:=Ts.1 o;rcases getElem?_append_cases v with⟨_,w⟩|⟨_,x⟩
  .exact h.QV k g (by simp[Trace.g?,w,d])
  .rw[<-d,C b x];exact hi
 .obtain⟨b,f,r,J,K,L⟩:=h.c1 j c a;have D:=lt_size_of_getElem? f;refine⟨b,by rw[getElem?_append_old D];exact f,r,J,(heard_old D).2 K,λk o E=>?_⟩;obtain⟨M,v,d⟩:=Ts.1 o;rcases getElem?_append_cases v with⟨N,w⟩|⟨O,x⟩
  .exact(L k (by simp[Trace.g?,w,d]) ((Ma N).1 E)).app u
  .have e:j=i:=by rw[<-d,C M x]
   subst e;exact absurd E (F a k O)
 .obtain⟨q,p,P⟩:=I;exact(h.c2 j c a ⟨q,p,H _ _ _ _ P⟩).app u
section
variable {P:Program} {Q:Value->Prop} {ZC:World} {c:YQ} {gs:Array Goroutine} {w:World} {t:Trace}
theorem Inv.stat (h:Inv P Q ZC c gs w t) {i:Nat} {g:Goroutine} (m:gs[i]?=some g):g.status=.running\/(i≠0/\g.status=.finished/\c.rel i=true/\∀s,Gone (c.tok i s))\/(g.status=.blocked/\∃s o,c.O s=some o/\U1 o (c.tok i s)/\∀k,k≠s->Tl (c.tok i k)):=by
 obtain⟨r,d,n⟩:=h.Oo i g m;rcases n with rfl|⟨_,rfl,p⟩
 .cases l:c.T i with
  | leaf=>
   rw[l] at d;rcases d.2 with⟨_,a⟩|⟨e,a,b,j,_⟩
   .exact .inl a.1.1
   .exact .inr (.inl ⟨by rintro rfl;simp at e,j,a,b⟩)
  | node f=>
   rw[l] at d;rcases d.2 with(⟨_,a⟩|⟨e,a,b,j,_⟩)|a
   .exact .inl a.1.1
   .exact .inr (.inl ⟨by rintro rfl;simp at e,j,a,b⟩)
   .rcases a with⟨_,b,_⟩|⟨b,_⟩
    .exact .inl b
    .exact .inl b.1
 .exact .inr (.inr ⟨rfl,p⟩)
theorem zV {t:Tok} (h:Sn t):∃k m g,t=.ch k m g/\¬Tl t/\(∀o,¬U1 o t)/\m≠.done/\m≠.idle:=by
 cases t with
 | nil=>exact h.elim
 | par=>exact h.elim
 | ch k m g=>
  refine⟨k,m,g,rfl,?_⟩;cases m with
  | act b=>cases b<;>first|exact h.elim|simp[Tl,U1]
  | _=>first|exact h.elim|simp[Tl,U1]
theorem Inv.awake (h:Inv P Q ZC c gs w t):∃(i:Nat) (g:Goroutine),gs[i]?=some g/\g.status=.running:=by
 apply Tu;intro M;have F:∀i,i<gs.size->(c.rel i=true/\∀s,Gone (c.tok i s))\/∃s o,c.O s=some o/\U1 o (c.tok i s)/\∀b,b≠s->Tl (c.tok i b):=λi hi=>by
  have C:gs[i]?=some gs[i]:=XG hi;rcases h.stat C with f|⟨_,_,f⟩|⟨_,f⟩
  .exact absurd ⟨i,_,C,f⟩ M
  .exact .inl f
  .exact .inr f
 have N:∀i s o n p,c.O s=some o->c.tok i s=.par n p .w3->o.YV=0->∃j b o' y A,i<j/\j<gs.size/\c.O b=some o'/\c.tok j b=.par y A .w3/\o'.YV=0:=λi s o n p u B H=>by
  have R:i<gs.size:=h.Za.lt (s:=s) (by rw[B];simp);obtain⟨j,I,S⟩:=z4 (h.Za.Z0 s o u).2 (i:=i) R B H;have x:Q0 (c.tok j s):=S;have T:∃k m g,c.tok j s=.ch k m g/\g≠.gone:=by
   cases v:c.tok j s with
   | nil=>rw[v] at x;exact x.elim
   | par=>rw[v] at x;exact x.elim
   | ch k m g=>rw[v] at x;exact⟨k,m,g,rfl,by rintro rfl;exact x⟩
  obtain⟨k,m,g,v,C⟩:=T;obtain⟨_,V,au⟩:=h.Za.Sj j s k m g v;have hi:=h.Za.par i s n p _ B;rcases F j I with⟨_,f⟩|⟨b,o',J,l,av⟩
  .have:=f s;rw[v] at this;cases g<;>first|exact absurd rfl C|exact this.elim
  .by_cases e:b=s
   .subst e;rw[u] at J;cases J;rw[v] at l;have W:m=.q/\o.YE=0:=by cases m<;>simp_all [U1]
    obtain⟨rfl,X⟩:=W;have Y:0<ZQ gs.size (λa=>c.tok a b) Um:=by
     have:=Xq (λa=>c.tok a b) Um I;simp only[v,Um,Mi] at this;omega
    obtain⟨a,Z,aa⟩:=z5 (h.Za.Z0 b o u).1 Y X;obtain⟨D,E,g',ab,ad,ae,af,ag⟩:=zV aa;have K:c.tok a b=.ch D E g':=ab;exfalso;rcases F a Z with⟨_,f⟩|⟨ah,aw,ax,ai,aj⟩
    .have L:=f b;rw[K] at L;have:g'≠.work:=by rintro rfl;exact L
     rcases h.Za.Sg a b D E g' o u K this with e|⟨e,_⟩
     .exact af e
     .exact ag e
    .by_cases Φ:ah=b
     .subst Φ;exact ae _ ai
     .exact ad (aj b (YR Φ))
   .cases r:c.tok j b with
    | nil=>rw[r] at l;exact l.elim
    | ch D E g'=>exact absurd ((h.Za.Sj j b D E g' r).2.1.symm.trans V) e
    | par y A ak=>
     rw[r] at l;cases ak<;>first|exact l.elim|exact⟨j,b,o',y,A,U,I,J,r,l⟩
 have al:∀d i s o n p,gs.size-i=d->i<gs.size->c.O s=some o->c.tok i s=.par n p .w3->o.YV=0->False:=λd=>by
  induction d using Nat.strongRecOn with
  | _ d am=>
   intro i s o n p hd hi u B H;obtain⟨j,b,o',y,A,f,an,ao,ap,aq⟩:=N i s o n p u B H;exact am (gs.size-j) U j b o' y A rfl an ao ap aq
 rcases F 0 h.pos with⟨f,_⟩|⟨s,o,u,l,_⟩
 .rw[h.Za.Pt] at f;cases f
 .cases r:c.tok 0 s with
  | nil=>rw[r] at l;exact l.elim
  | ch k m g=>exact(h.Za.Sj 0 s k m g r).1 rfl
  | par n p ar=>
   rw[r] at l;cases ar<;>first|exact l.elim|exact al _ 0 s o n p rfl h.pos u r l
theorem Rec.woken {c':YQ} {i j:Nat} {g g' b:Goroutine} {w':World} (h:Rec P Q c j b) (k:c'.x j=c.x j) (l:c'.T j=c.T j)
  (hw:(mayWake P g=true/\VI g')\/∀s o,c.O s=some o->U1 o (c.tok j s)->∃o',c'.O s=some o'/\U1 o' (c.tok j s)):Rec P Q c' j (Go.Conc.woken P g g' w' b):=by
 have r:c'.tok j=c.tok j:=congrArg ZZ.tok k;obtain⟨m,d,A⟩:=h;rcases A with rfl|⟨t,rfl,s,o,n,B,C⟩
 .have n:b.status=.running\/b.status=.finished:=by
   cases u:c.T j with
   | leaf=>
    rw[u] at d;rcases d.2 with⟨_,a⟩|⟨_,_,_,p,_⟩
    .exact .inl a.1.1
    .exact .inr p
   | node f=>
    rw[u] at d;rcases d.2 with(⟨_,a⟩|⟨_,_,_,p,_⟩)|a
    .exact .inl a.1.1
    .exact .inr p
    .rcases a with⟨_,e,_⟩|⟨e,_⟩
     .exact .inl e
     .exact .inl e.1
  have:Go.Conc.woken P g g' w' b=b:=by
   unfold Go.Conc.woken;split
   .exact again_running _ n
   .rfl
  rw[this];exact⟨b,by rw[k,l];exact d,.inl rfl⟩
 .unfold Go.Conc.woken;split
  .rename_i v;refine⟨m,by rw[k,l];exact d,.inl ?_⟩;obtain⟨w,y⟩:=t;obtain⟨ο,ZP,st,D,of⟩:=m;simp only at w y;subst w y;rfl
  .rename_i v;rcases hw with⟨a,e⟩|hw
   .exfalso;apply v;simp[a,e.1]
   .obtain⟨o',a,e⟩:=hw s o n B;exact⟨m,by rw[k,l];exact d,.inr ⟨t,rfl,s,o',a,by rw[r];exact e,by rw[r];exact C⟩⟩
end
section
variable {P:Program} {Q:Value->Prop} {ZC:World} {c:YQ} {gs:Array Goroutine} {w:World} {t:Trace}
theorem Inv.at (h:Inv P Q ZC c gs w t) (d:Nat):Inv P Q ZC c gs (w.at d) t:=⟨h.pos,h.mem.at d,h.hold,h.Zu,h.Za,h.X2,h.Ye,h.WC,h.Oo⟩
theorem Inv.gone (h:Inv P Q ZC c gs w t) (F:∀s,W9 (c.tok 0 s)):∀j,j≠0->j<gs.size->c.rel j=true/\(∀s,Gone (c.tok j s))/\Knows t 0 (c.XM j):=by
 have H:∀t:Tok,W9 t->Gone t:=λt d=>by cases t with
  | nil=>trivial
  | par _ _ b=>cases b<;>first|exact d.elim|trivial
  | ch=>exact d.elim
 intro j
 induction j using Nat.strongRecOn with
 | _ j J=>
  intro i l;obtain⟨k,m,g,d⟩:=h.Za.Qb j i l;obtain⟨_,_,K⟩:=h.Za.Sj j _ k m g d;cases A:c.O (c.home j) with
  | none=>have:=h.Za.bare _ A j;rw[d] at this;cases this
  | some o=>
  have n:=h.Za.Z0 _ o A;obtain⟨u,B,C⟩:=Kh (φ:=XP) (N:=gs.size) (τ:=λa=>c.tok a (c.home j)) (by rw[n.2.SR];exact Nat.one_pos);have L:∃q p b,c.tok u (c.home j)=.par q p b:=by
   cases f:c.tok u (c.home j) with
   | par q p b=>exact⟨q,p,b,rfl⟩
   | nil=>simp[f,XP] at C
   | ch=>simp[f,XP] at C
  obtain⟨q,p,b,f⟩:=L;have M:=h.Za.par u _ q p b f;subst M;have R:b=.ZP/\(c.Zs (c.home j)≠0->c.rel (c.Zs (c.home j))=true/\Knows t 0 (c.XM (c.Zs (c.home j)))):=by
   by_cases e:c.Zs (c.home j)=0
   .have:=F (c.home j);rw[<-e,f] at this;refine⟨by cases b<;>first|exact this.elim|rfl,λx=>absurd e x⟩
   .obtain⟨v,y,S⟩:=J _ K e B;have:=y (c.home j);rw[f] at this;exact⟨by cases b<;>first|exact this.elim|rfl,λ_=>⟨v,S⟩⟩
  obtain⟨rfl,T⟩:=R;have U:ZQ gs.size (λa=>c.tok a (c.home j)) VX=1:=by
   rw[RK (φ:=VX) (λt d=>by cases t<;>simp_all [XP,VX]) n.2.SR B (by rw[f];rfl),f];rfl
  obtain⟨f1,f2,f3,f4,f5,f6⟩:=n.2.E2 U;have W:=n.2.HG;have l1:=Xq (λa=>c.tok a (c.home j)) Vv l;have l2:=Xq (λa=>c.tok a (c.home j)) U3 l;have D:=Xq (λa=>c.tok a (c.home j)) U2 l;simp only[d,Vv,U3,U2] at l1 l2 D;have V:g=.gone:=by
   cases g with
   | gone=>rfl
   | work=>simp only[Qc] at l1;omega
   | rel=>simp only[Qc] at l1;omega
   | l2=>simp only[OC] at l2;omega
   | RO=>simp only[OB] at D;omega
  subst V;have r:c.rel j=true:=(h.Za.RI j k m _ i d).2 I;refine⟨r,λs=>?_,?_⟩
  .by_cases e:s=c.home j
   .subst e;rw[d];trivial
   .exact H _ (h.Za.Si j s r e)
  .have E:=h.Ye.c2 j i r ⟨q,p,f⟩;by_cases e:c.Zs (c.home j)=0
   .rw[e] at E;exact E
   .obtain⟨v,y⟩:=T e;exact Knows.of_before (h.Ye.c3 j i r e v) y
theorem zU {o:ε} {x:Tok} (h:Gone x) (a:∀k m g,x=.ch k m g->m≠.q):¬U1 o x:=by
 cases x with
 | nil=>exact id
 | par _ _ b=>cases b<;>first|exact h.elim|exact id
 | ch k m g=>cases m<;>first|exact absurd rfl (a _ _ _ rfl)|exact id
theorem Inv.EF (h:Inv P Q ZC c gs w t) {g:Goroutine} (al:gs[0]?=some g) (C:EL P g (c.x 0) Q) (sl:Option (Nat×Nat)) (w1:World) :
  ∃v es,stepG P true g w=.ended (.done v) w es/\Good P (λv w'=>Q v/\Xj (λ_ _=>False) (λ_=>False) ZC w') (crowd gs w1 sl) (.done v) w (t++MemOp.ofEvents 0 g.frame.fn g.frame.place es):=by
 obtain⟨_,N,hd,O⟩:=C;obtain⟨v,es,R,S,V⟩:=O w (h.mem.fit (.inl 0));refine⟨v,es,R,v,rfl,⟨V,h.mem.keep⟩,?_⟩;have F:=h.gone N;have I:=h.Zu.own (w':=w) h.mem h.hold 0 (G':=c.H (.inl 0)) (V':=c.Z3 0) (es:=es) (fn:=g.frame.fn) (pos:=g.frame.place) (γ _)
  ⟨λb o v p i=>.inr ⟨v,p,i,id⟩,λb W=>.inr W⟩ (λb x a=>.inl a) S (λb x a am=>by
   have:=Xi (h.mem.TT 0 b x.1 x.2 a);omega)
 have J:∀j x,j≠0->gs[j]?=some x->∃n,QuitsD P n (c.deaf j) x:=λj x d a=>by
  have X:=(TY.1 a).1;obtain⟨r,u,_⟩:=F j d X;obtain⟨Y,y,i⟩:=h.Oo j x a;have l:∃n,QuitsD P n (c.deaf j) Y:=by
   cases K:c.T j with
   | leaf=>rw[K] at y;exact y.1 r u
   | node f=>rw[K] at y;exact y.1 r u
  rcases i with rfl|⟨_,_,s,o,C,Z,_⟩
  .exact l
  .refine absurd Z (zU (u s) λk m g e aa=>?_);subst aa;have ab:g≠.work:=by rintro rfl;have:=u s;rw[e] at this;exact this
   rcases h.Za.Sg j s k _ g o C e ab with x|⟨x,_⟩<;>cases x
 refine⟨I.race,λk g' ad A i=>?_,⟨λx a=>?_,rfl⟩,λj x a d=>?_⟩
 .obtain⟨an,ae,L⟩:=Ts.1 ad;rcases getElem?_append_cases ae with⟨af,ag⟩|⟨_,ah⟩
  .have B:t.g? k=some g':=by simp[Trace.g?,ag,L]
   have ai:=h.Ye.QV k g' B;obtain⟨r,_,aj⟩:=F g' A ai;obtain⟨ao,ap,Φ,aq,ar,ak⟩:=h.Ye.c1 g' A r;obtain⟨q,z,D,M,E⟩:=Knows.of_before (ak k B ((Ma af).1 i)) aj;refine⟨q,by simp[Trace.g?,getElem?_append_old (lt_size_of_getElem? D),D,M],?_⟩;rcases E with rfl|E
   .exfalso;simp[Trace.g?,D,M] at B;exact A B.symm
   .exact hb_app _ E
  .obtain⟨e,_,rfl⟩:=Go.Conc.mem_ofEvents ah;exact absurd L.symm A
 .obtain⟨j,d⟩:=List.mem_iff_getElem?.1 a;rw[Tq] at d;obtain⟨n,l⟩:=J (1+j) x U (by simpa[crowd] using d);exact⟨n,l.leaves⟩
 .obtain⟨n,l⟩:=J j x d a;refine⟨n,?_⟩;have e:(t++MemOp.ofEvents 0 g.frame.fn g.frame.place es).deaf j (t++MemOp.ofEvents 0 g.frame.fn g.frame.place es).size=c.deaf j:=I.hears j;rw[e];exact l.hears _
def Comes (P:Program) (Q:Value->Prop) (ZC:World) (m:Machine) (t:Trace):Prop:=
 ∃N a o w' t',runNT P (N+1) m t=(.ended o w',t')/\runN P N m=.next a/\step P a=.ended o w'/\Good P (λv w'=>Q v/\Xj (λ_ _=>False) (λ_=>False) ZC w') a o w' t'
theorem Comes.next {m a:Machine} {u:Trace} (b:stepT P m=(.next a,u)) (h:Comes P Q ZC a (t++u)):Comes P Q ZC m t:=by
 obtain⟨n,last,o,w,t',c,d,e,f⟩:=h;exact⟨n+1,last,o,w,t',by rw[runNT_succ_next b];exact c,by rw[runN_succ_next b];exact d,e,f⟩
theorem Comes.last {m:Machine} {u:Trace} {o:Outcome} {w:World} (a:stepT P m=(.ended o w,u)) (b:Good P (λv w'=>Q v/\Xj (λ_ _=>False) (λ_=>False) ZC w') m o w (t++u)):Comes P Q ZC m t:=
 ⟨0,m,o,w,t++u,by simp[runNT,a],rfl,by simp[step,a],b⟩
def Ny (gs:Array Goroutine):Nat:=(gs.toList.filter λg=>decide (g.status=.running)).length
structure Ord (a:List Nat) (n:Nat):Prop where
 nodup:a.Nodup
 mem:∀i,i∈a↔i<n
theorem Ord.part {c:List Nat} {n i:Nat} (h:Ord c n) (hi:i<n):∃a b,c=a++i::b/\i∉a/\i∉b:=by
 obtain⟨a,b,rfl⟩:=List.append_of_mem ((h.mem i).2 hi);have:=h.nodup;rw[List.nodup_append] at this;obtain⟨_,d,e⟩:=this;rw[Q7] at d;exact⟨a,b,rfl,λf=>e i f i I rfl,d.1⟩
theorem Nx {B:Type} {T:Nat->B} {i:Nat} {x:B} {l:List Nat} (h:i∉l):l.map (upd T i x)=l.map T:=by
 apply NI;intro j a;exact upd_ne _ _ (λe=>h (e▸a))
theorem Ord.one {B:Type} {c:List Nat} {n i:Nat} (h:Ord c n) (hi:i<n) {T:Nat->W7 B} {f:B->W7 B} (d:T i=.node f) (k:B):Tm (c.map (upd T i (f k))) (c.map T):=by
 obtain⟨a,b,rfl,e,g⟩:=h.part hi;simp only[Yc,Xg,Nx e,Nx g,upd_same,d];exact .one _ _ _ _
theorem Ord.two {B:Type} {g:List Nat} {n i:Nat} (h:Ord g n) (hi:i<n) {T:Nat->W7 B} {f:B->W7 B} (t:T i=.node f) (k u:B) :
  ∃m,Ord m (n+1)/\Tm (m.map (upd (upd T i (f k)) n (f u))) (g.map T):=by
 have o:n∉g:=λc=>by have:=(h.mem n).1 c;omega
 obtain⟨a,b,rfl,v,w⟩:=h.part hi;have p:n∉a:=λc=>o (by simp[c]);have r:n∉b:=λc=>o (by simp[c]);refine⟨a++i::n::b,⟨?_,λj=>?_⟩,?_⟩
 .have:=h.nodup;rw[List.nodup_append] at this ⊢;obtain⟨A,l,s⟩:=this;rw[Q7] at l;refine⟨A,?_,λx c y d=>?_⟩
  .rw[Q7,Q7];exact⟨by simp;exact⟨U,l.1⟩,r,l.2⟩
  .simp at d;rcases d with rfl|rfl|d
   .exact s x c _ I
   .rintro rfl;exact p c
   .exact s x c y (by simp[d])
 .have:=h.mem j;simp only[Wd,Y6] at this ⊢;constructor
  .rintro(c|rfl|rfl|c)
   .have:=this.1 (.inl c);omega
   .omega
   .omega
   .have:=this.1 (.inr (.inr c));omega
  .intro c;by_cases e:j=n
   .exact .inr (.inr (.inl e))
   .rcases this.2 U with c|rfl|c
    .exact .inl c
    .exact .inr (.inl rfl)
    .exact .inr (.inr (.inr c))
 .have C:i≠n:=U
  simp only[Yc,Xg,Nx p,Nx r,Nx v,Nx w,upd_same,upd_ne _ _ C,t];exact .two _ _ _ _ _
end
end Go.TL
