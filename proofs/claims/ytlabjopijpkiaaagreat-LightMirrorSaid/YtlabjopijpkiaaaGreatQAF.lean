import Derived.Test.YtlabjopijpkiaaaGreatQAE
set_option maxHeartbeats 16000000
set_option maxRecDepth 20000
set_option linter.unusedSectionVars false
set_option linter.unusedSimpArgs false
set_option linter.unusedVariables false
namespace Go.TL
open Go.Conc
open Go.ConcM (OsLater)
open Go.ConcN (sumTo upd sumTo_upd upd_ne upd_same sumTo_congr le_sumTo)
theorem PZ (sp:Spec):cu (aD.new sp)=0:=by simp[cu,aD.new]
theorem P0 (sp:Spec):mwd (aD.new sp)=0:=by simp[mwd,aD.new]
section
variable {P:Program} {Q:Value->Prop} {a':World} {c c':cN} {gs:Array Goroutine} {w w':World} {t:Trace} {i:Nat} {g g':Goroutine} {es:Array Event}
variable {f:Bool×Goroutine×aK->fu (Bool×Goroutine×aK)}
theorem Inv.seen (h:Inv P Q a' c gs w t) (Ο:gs[i]?=some g)
  (mem:gj c'.H c'.ao c'.O a' w) (hold:hh c'.H c'.ao c'.O a'.heap.size) (bD:hK c'.H c'.ao c'.tok c'.O c'.bc c'.deaf w.heap.size t)
  (a2:ek gs.size c'.tok c'.spec c'.view c'.rel c'.O c'.bc c'.home) (dY:uO c'.H c'.tok c'.O) (dL:s7 gs.size c'.tok c'.rel c'.bc c'.home c'.df t) (fS:uP c'.ao c'.tok c'.O c'.rel c'.df t)
  (DS:Rec P Q c' i g) (U:∀j,j≠i->c'.x j=c.x j/\c'.T j=c.T j) (dc:∀s o,c.O s=some o->c'.O s=some o):Inv P Q a' c' gs w t:=by
 refine⟨h.pos,mem,hold,bD,a2,dY,dL,fS,λj b hb=>?_⟩;by_cases e:j=i
 ·subst e;rw[Ο] at hb;cases hb;exact DS
 ·obtain⟨cI,J,R⟩:=h.s9 j b hb;obtain⟨Δ,Ε⟩:=U j e;have Η:c'.tok j=c.tok j:=congrArg aK.tok Δ;refine⟨cI,by rw[Δ,Ε];exact J,R.imp id λ⟨a1,bg,s,o,cr,fX,hI⟩=>⟨a1,bg,s,o,dc s o cr,by rw[Η];exact fX,by rw[Η];exact hI⟩⟩
theorem Inv.P1 (h:Inv P Q a' c gs w t) (Ο:gs[i]?=some g) {b:Nat} {cs:Array Value} {ty:TypeId} (hb:c.ao i b=some (cs,ty)) {cT:aK}
  (gN:cT={c.x i with ao:=upd (c.ao i) b none,G:=⟨λΡ o=>if Ρ=b then(cs[o]?).map (·,true) else(c.H (.inl i)).av Ρ o,λΡ=>if Ρ=b then some (ty,cs.size) else(c.H (.inl i)).row Ρ,(c.H (.inl i)).obj⟩}) (ck:kq P Q f (i==0) g cT):z5 P Q a' c gs w t i f:=by
 let G':υ:=⟨λΡ o=>if Ρ=b then(cs[o]?).map (·,true) else(c.H (.inl i)).av Ρ o,λΡ=>if Ρ=b then some (ty,cs.size) else(c.H (.inl i)).row Ρ,(c.H (.inl i)).obj⟩;obtain⟨f1,f2,f3⟩:=h.hold.fresh i b _ hb;have IQ:=h.mem.kV i b cs ty hb;have Af:∀Ρ o,Ρ≠b->G'.av Ρ o=(c.H (.inl i)).av Ρ o:=λΡ o e=>by simp[G',e]
 have P2:∀o,G'.av b o=(cs[o]?).map (·,true):=λo=>by simp[G']
 have IS:∀Ρ o,Ρ≠b->(G'.has Ρ o↔(c.H (.inl i)).has Ρ o):=λΡ o e=>by unfold υ.has;rw[Af Ρ o e]
 have IT:∀Ρ o,Ρ≠b->(G'.owns Ρ o↔(c.H (.inl i)).owns Ρ o):=λΡ o e=>by unfold υ.owns;rw[Af Ρ o e]
 have P3:∀Ρ,G'.eE Ρ↔(c.H (.inl i)).eE Ρ:=λΡ=>Iff.rfl
 have IU:∀Ρ,Ρ≠b->(c.H (.inl i)).off Ρ->G'.off Ρ:=λΡ e ω=>⟨λo aN=>ω.1 o ((IS Ρ o e).1 aN),ω.2⟩
 let c':cN:={c with H:=bt c.H (.inl i) G',ao:=upd c.ao i (upd (c.ao i) b none),T:=upd c.T i (f (i==0,g,cT))}
 have fa:∀j Ρ v,upd c.ao i (upd (c.ao i) b none) j Ρ=some v->c.ao j Ρ=some v/\Ρ≠b:=λj Ρ v hv=>by
  by_cases e:j=i
  ·subst e;rw[upd_same] at hv;by_cases aA:Ρ=b
   ·subst aA;rw[upd_same] at hv;cases hv
   ·rw[upd_ne _ _ aA] at hv;exact⟨hv,aA⟩
  ·rw[upd_ne _ _ e] at hv;exact⟨hv,λaA=>by rw[aA,f3 j e] at hv;cases hv⟩
 have P4:∀s o Ρ,c.O s=some o->dS s o.toSpec Ρ->Ρ≠b:=λs o Ρ ν dp e=>by
  have:=(h.hold.jj s o Ρ ν dp).2.2 i;rw[e,hb] at this;cases this
 have ap:∀k,k≠.inl i->Apart G' (c.H k):=λk Α=>by
  have a:=h.hold.apart _ _ (Ne.symm Α);refine⟨λΡ o x y=>?_,λΡ o x y=>?_,λΡ x y=>a.obj Ρ x y⟩
  ·by_cases e:Ρ=b
   ·subst e;exact(f2 k).1 o y
   ·exact a.av Ρ o ((IT Ρ o e).1 x) y
  ·by_cases e:Ρ=b
   ·subst e;exact(f2 k).1 o ⟨_,x.choose_spec⟩
   ·exact a.oZ Ρ o x ((IS Ρ o e).1 y)
 have mz:c'.x i=cT:=by rw[gN];simp[c',G',cN.x,upd_same]
 refine⟨c',h.seen (c':=c') Ο ⟨λk=>?_,λj Ρ cs' ir hv=>h.mem.kV j Ρ cs' ir (fa j Ρ _ hv).1,h.mem.e',h.mem.keep⟩
  ⟨λk l h5=>?_,λk Ρ o ω=>?_,λk Ρ ω=>?_,λj Ρ v hv=>?_,λs o Ρ ν dp=>?_,h.hold.jF,h.hold.n0,λΡ dp=>?_⟩ ⟨h.bD.race,h.bD.low,h.bD.norel,λk=>?_,λj Ρ v hv=>h.bD.m' j Ρ v (fa j Ρ v hv).1,h.bD.cont,h.bD.hears⟩ h.a2 (h.dY.xl λΡ=>hL c.H i G' Ρ) h.dL
  ⟨h.fS.h2,λj Ρ v hv=>h.fS.s8 j Ρ v (fa j Ρ v hv).1⟩ ⟨g,?_,.inl rfl⟩ (λj γ=>⟨?_,upd_ne _ _ γ⟩) λ_ _ a=>a,_,rfl⟩
 ·show Fits (bt c.H (.inl i) G' k) w;by_cases e:k=.inl i
  ·subst e;rw[dm];have gC:=h.mem.fit (.inl i);refine⟨λΡ o v p η=>?_,λΡ t' hZ ι=>?_,gC.obj⟩
   ·by_cases aA:Ρ=b
    ·subst aA;rw[P2] at η;cases U:cs[o]? with
     | none=>rw[U] at η;cases η
     | some eN=>rw[U] at η;cases η;exact mm IQ U
    ·rw[Af Ρ o aA] at η;exact gC.av Ρ o v p η
   ·by_cases aA:Ρ=b
    ·subst aA;simp[G'] at ι;obtain⟨rfl,rfl⟩:=ι;exact⟨cs,IQ,rfl⟩
    ·simp[G',aA] at ι;exact gC.row Ρ t' hZ ι
  ·rw[bu _ _ e];exact h.mem.fit k
 ·show Apart (bt c.H (.inl i) G' k) (bt c.H (.inl i) G' l);by_cases e:k=.inl i
  ·subst e;rw[dm,bu _ _ (Ne.symm h5)];exact ap l (Ne.symm h5)
  ·rw[bu _ _ e];by_cases aA:l=.inl i
   ·subst aA;rw[dm];exact(ap k e).symm
   ·rw[bu _ _ aA];exact h.hold.apart k l h5
 ·replace ω:(bt c.H (.inl i) G' k).owns Ρ o:=ω
  by_cases e:k=.inl i
  ·subst e;rw[dm] at ω;by_cases aA:Ρ=b
   ·subst aA;exact f1
   ·exact h.hold.high _ _ _ ((IT Ρ o aA).1 ω)
  ·rw[bu _ _ e] at ω;exact h.hold.high _ _ _ ω
 ·replace ω:(bt c.H (.inl i) G' k).eE Ρ:=ω
  by_cases e:k=.inl i
  ·subst e;rw[dm] at ω;exact h.hold.mx _ _ ((P3 Ρ).1 ω)
  ·rw[bu _ _ e] at ω;exact h.hold.mx _ _ ω
 ·obtain⟨kp,bd⟩:=fa j Ρ v hv;obtain⟨a1,bg,cr⟩:=h.hold.fresh j Ρ v kp;refine⟨a1,λk=>?_,λbp dE=>?_⟩
  ·show(bt c.H (.inl i) G' k).off Ρ;by_cases e:k=.inl i
   ·subst e;rw[dm];exact IU Ρ bd (bg _)
   ·rw[bu _ _ e];exact bg k
  ·cases U:c'.ao bp Ρ with
   | none=>rfl
   | some eN=>have:=(fa bp Ρ eN U).1;rw[cr bp dE] at this;cases this
 ·obtain⟨a1,bg,cr⟩:=h.hold.jj s o Ρ ν dp;have bd:=P4 s o Ρ ν dp;refine⟨a1,λk=>?_,λbp=>?_⟩
  ·show(bt c.H (.inl i) G' k).off Ρ;by_cases e:k=.inl i
   ·subst e;rw[dm];exact IU Ρ bd (bg _)
   ·rw[bu _ _ e];exact bg k
  ·cases U:c'.ao bp Ρ with
   | none=>rfl
   | some eN=>have:=(fa bp Ρ eN U).1;rw[cr bp] at this;cases this
 ·show bt c.H (.inl i) G' (.inr Ρ)=υ.empty;rw[hL];exact h.hold.dY Ρ dp
 ·show c5 t (iv c.tok c.O t k) (bt c.H (.inl i) G' k);by_cases e:k=.inl i
  ·subst e;rw[dm];have χ:=h.bD.perms (.inl i);refine⟨λΡ o v p η k a κ Β hw=>?_,χ.obj⟩;by_cases aA:Ρ=b
   ·exfalso;refine h.bD.m' i b _ hb k a κ ?_;rw[Β];exact aA
   ·rw[Af Ρ o aA] at η;exact χ.av Ρ o v p η k a κ Β hw
  ·rw[bu _ _ e];exact h.bD.perms k
 ·rw[mz];show iu P Q (upd c.T i (f (i==0,g,cT)) i) _ _ _;rw[upd_same];exact ck
 ·have fl:(Sum.inl j:cl)≠.inl i:=λx=>γ (by cases x;rfl);simp[c',cN.x,upd_ne _ _ γ,bu _ _ fl]
theorem Inv.less (h:Inv P Q a' c gs w t) (Ο:gs[i]?=some g) {G':υ} (ν:Sub G' (c.H (.inl i))) (ck:kq P Q f (i==0) g {c.x i with G:=G'}):z5 P Q a' c gs w t i f:=by
 let cT:aK:={c.x i with G:=G'}
 let c':cN:={c with H:=bt c.H (.inl i) G',T:=upd c.T i (f (i==0,g,cT))}
 have mz:c'.x i=cT:=by simp[c',cT,cN.x]
 have P5:upd c.ao i (c.ao i)=c.ao:=z3 rfl
 have hm:=h.mem.own h.hold i (e0.refl _ _ w) (ν.fits (h.mem.fit (.inl i))) (h.mem.kV i) rfl
 have aN:=h.hold.own h.mem h.mem.keep.size i (G':=G') (V':=c.ao i) ⟨λb o v p η=>.inr (let ⟨e2,af,χ⟩:=ν.av b o v p η;⟨v,e2,af,χ⟩),λb hb=>.inr (ν.eE hb)⟩ (λb x U=>.inl U);rw[P5] at hm aN;refine⟨c',h.seen (c':=c') Ο hm aN ⟨h.bD.race,h.bD.low,h.bD.norel,λk=>?_,h.bD.m',h.bD.cont,h.bD.hears⟩ h.a2 (h.dY.xl λΡ=>hL c.H i G' Ρ) h.dL h.fS ⟨g,?_,.inl rfl⟩ (λj γ=>⟨?_,upd_ne _ _ γ⟩) λ_ _ a=>a,_,rfl⟩
 ·show c5 t (iv c.tok c.O t k) (bt c.H (.inl i) G' k);by_cases e:k=.inl i
  ·subst e;rw[dm];exact(h.bD.perms (.inl i)).sub ν
  ·rw[bu _ _ e];exact h.bD.perms k
 ·rw[mz];show iu P Q (upd c.T i (f (i==0,g,cT)) i) _ _ _;rw[upd_same];exact ck
 ·have fl:(Sum.inl j:cl)≠.inl i:=λx=>γ (by cases x;rfl);simp[c',cN.x,bu _ _ fl]
theorem Inv.group (h:Inv P Q a' c gs w t) (Ο:gs[i]?=some g) {s:Nat} {sp:Spec} {ty:TypeId} {G' E:υ} (ν:c.ao i s=some (#[.int .u64 0,.int .u32 0],ty)) (eX:∀m,sp.aI=some m->m≠s/\∃ir,c.ao i m=some (#[.int .i32 0,.int .u32 0],ir))
  (dN:c.rel i=false) (bF:Split (c.H (.inl i)) G' E) (eA:sp.aI≠none->sp.bw [] E) {cT:aK}
  (gN:cT={c.x i with G:=G',ao:=λb=>if b=s\/sp.aI=some b then none else c.ao i b,tok:=upd (c.tok i) s (.par 0 0 .add),spec:=upd (c.spec i) s (some sp),view:=upd (c.view i) s none}) (ck:kq P Q f (i==0) g cT):z5 P Q a' c gs w t i f:=by
 have aY:i<gs.size:=k4 Ο
 have Ag:c.O s=none:=by
  cases U:c.O s with
  | none=>rfl
  | some o=>have:=(h.hold.jj s o s U (.inl rfl)).2.2 i;rw[ν] at this;cases this
 have nk:∀b,dS s sp b->∃v,c.ao i b=some v:=λb hb=>by
  rcases hb with rfl|hb
  ·exact⟨_,ν⟩
  ·obtain⟨_,ir,J⟩:=eX b hb;exact⟨_,J⟩
 have lX:∀r o b,c.O r=some o->dS r o.toSpec b->¬dS s sp b:=λr o b ι hb dp=>by
  obtain⟨v,hv⟩:=nk b dp;have:=(h.hold.jj r o b ι hb).2.2 i;rw[hv] at this;cases this
 have iV:∀r o,c.O r=some o->r≠s:=λr o ι e=>by rw[e,Ag] at ι;cases ι
 let V':Nat->Option (Array Value×TypeId):=λb=>if b=s\/sp.aI=some b then none else c.ao i b
 let O':=upd c.O s (some (aD.new sp))
 have fa:∀j b v,upd c.ao i V' j b=some v->c.ao j b=some v/\¬dS s sp b:=λj b v hv=>by
  by_cases e:j=i
  ·subst e;rw[upd_same] at hv;by_cases aA:b=s\/sp.aI=some b
   ·simp[V',aA] at hv
   ·simp[V',aA] at hv;exact⟨hv,aA⟩
  ·rw[upd_ne _ _ e] at hv;refine⟨hv,λhb=>?_⟩;obtain⟨eN,kp⟩:=nk b hb;have:=(h.hold.fresh i b eN kp).2.2 j e;rw[this] at hv;cases hv
 have IV:∀j b,c.ao j b=none->upd c.ao i V' j b=none:=λj b e=>by
  cases U:upd c.ao i V' j b with
  | none=>rfl
  | some v=>have:=(fa j b v U).1;rw[e] at this;cases this
 have P6:∀j b,dS s sp b->upd c.ao i V' j b=none:=λj b hb=>by
  cases U:upd c.ao i V' j b with
  | none=>rfl
  | some v=>exact absurd hb (fa j b v U).2
 have gk:∀r q,O' r=some q->(r=s/\q=aD.new sp)\/(r≠s/\c.O r=some q):=λr q Ψ=>by
  by_cases e:r=s
  ·subst e;rw[show O' r=some (aD.new sp) from upd_same ..] at Ψ;cases Ψ;exact .inl ⟨rfl,rfl⟩
  ·rw[show O' r=c.O r from upd_ne _ _ e] at Ψ;exact .inr ⟨e,Ψ⟩
 have holdA:hh c.H (upd c.ao i V') O' a'.heap.size:=by
  refine⟨h.hold.apart,h.hold.high,h.hold.mx,λj b v hv=>?_,λr o b ι hb=>?_,λr r' o o' b ι eP hb dp=>?_,λr o m ι hm=>?_,λb hb=>h.hold.dY b λr o ι hi=>hb r o (by rw[show O' r=c.O r from upd_ne _ _ (iV r o ι)];exact ι) hi⟩
  ·obtain⟨a1,bg,cr⟩:=h.hold.fresh j b v (fa j b v hv).1;exact⟨a1,bg,λbp dE=>IV bp b (cr bp dE)⟩
  ·rcases gk r o ι with⟨rfl,rfl⟩|⟨e,eP⟩
   ·obtain⟨v,hv⟩:=nk b hb;obtain⟨a1,bg,_⟩:=h.hold.fresh i b v hv;exact⟨a1,bg,λj=>P6 j b hb⟩
   ·obtain⟨a1,bg,cr⟩:=h.hold.jj r o b eP hb;exact⟨a1,bg,λj=>IV j b (cr j)⟩
  ·rcases gk r o ι with⟨rfl,rfl⟩|⟨e,qw⟩<;>rcases gk r' o' eP with⟨rfl,rfl⟩|⟨aA,uZ⟩
   ·rfl
   ·exact absurd hb (lX r' o' b uZ dp)
   ·exact absurd dp (lX r o b qw hb)
   ·exact h.hold.jF r r' o o' b qw uZ hb dp
  ·rcases gk r o ι with⟨rfl,rfl⟩|⟨e,eP⟩
   ·exact(eX m hm).1
   ·exact h.hold.n0 r o m eP hm
 have IW:O' s=some (aD.new sp):=upd_same ..
 have IX:c.H (.inr s)=υ.empty:=h.hold.dY s λr o ι hi=>lX r o s ι hi (.inl rfl)
 have k0:∀r q,O' r=some q->dF r q w:=λr q Ψ=>by
  rcases gk r q Ψ with⟨rfl,rfl⟩|⟨_,bV⟩
  ·refine⟨⟨ty,?_⟩,λm hm=>let ⟨_,ir,hv⟩:=eX m hm;⟨ir,?_⟩⟩
   ·rw[PZ];exact h.mem.kV i r _ _ ν
   ·rw[P0];exact h.mem.kV i m _ _ hv
  ·exact h.mem.e' _ _ bV
 obtain⟨bH,iB,h6,D2,jJ,D3,D4,D5⟩:∃bH:cl->υ,bH (.inl i)=G'/\(∀j,j≠i->bH (.inl j)=c.H (.inl j))/\(∀b,¬dS s sp b->bH (.inr b)=c.H (.inr b))/\(bH (.inr s)=υ.empty/\∀m,sp.aI=some m->bH (.inr m)=E)/\
   hh bH (upd c.ao i V') O' a'.heap.size/\gj bH (upd c.ao i V') O' a' w/\∀a,c5 t (iv (bM c.tok i s (.par 0 0 .add)) O' t a) (bH a):=by
  have uX:=h.bD.perms (.inl i)
  have IY:∀a,(∀b,a=.inr b->¬dS s sp b)->c5 t (iv (bM c.tok i s (.par 0 0 .add)) O' t a) (c.H a):=λa κ=>by
   refine(h.bD.perms a).mono λk Α=>?_;cases a with
   | inl j=>exact Α
   | inr b=>
    refine Α.imp id λΑ r o ι hb j γ=>?_;rcases gk r o ι with⟨rfl,rfl⟩|⟨e,eP⟩
    ·exact absurd hb (κ b rfl)
    ·rw[ew _ (λx=>e x.2)] at γ;exact Α r o eP hb j γ
  have IZ:gj c.H (upd c.ao i V') c.O a' w:=h.mem.uV λj b v hv=>(fa j b v hv).1
  have gP:(Sum.inl i:cl)≠.inr s:=by simp
  cases hm:sp.aI with
  | none=>
   refine⟨bt (bt c.H (.inl i) G') (.inr s) υ.empty,?_,λj γ=>?_,λb hb=>?_,⟨dm ..,λm e=>(by cases e)⟩,?_,IZ.two (bF.l.fits (h.mem.fit (.inl i))) (s4 w) k0,λa=>?_⟩
   ·rw[bu _ _ gP,dm]
   ·rw[bu _ _ (by simp),bu _ _ (λe=>γ (by cases e;rfl))]
   ·have:(Sum.inr b:cl)≠.inr s:=λe=>hb (by cases e;exact .inl rfl);rw[bu _ _ this,hL]
   ·exact holdA.two gP bF.l.o8 (Sub.empty _) (Apart.rz _) ⟨λs o ν=>⟨o,ν,rfl⟩,λs o ν=>⟨o,ν,rfl⟩⟩ λx U=>by
     rcases U with e|e
     ·cases e;exact⟨s,_,IW,.inl rfl⟩
     ·cases e
   ·by_cases Ε:a=.inr s
    ·subst Ε;rw[dm];exact c5.empty
    ·rw[bu _ _ Ε];by_cases Δ:a=.inl i
     ·subst Δ;rw[dm];exact uX.sub bF.l
     ·rw[bu _ _ Δ];refine IY a λb e hb=>?_;subst e;rcases hb with rfl|hb
      ·exact Ε rfl
      ·rw[hm] at hb;cases hb
  | some m=>
   have qu:=(eX m hm).1
   have fl:(Sum.inl i:cl)≠.inr m:=by simp
   refine⟨bt (bt c.H (.inl i) G') (.inr m) E,?_,λj γ=>?_,λb hb=>?_,⟨?_,λbO e=>?_⟩,?_,IZ.two (bF.l.fits (h.mem.fit (.inl i))) (bF.r.fits (h.mem.fit (.inl i))) k0,λa=>?_⟩
   ·rw[bu _ _ fl,dm]
   ·rw[bu _ _ (by simp),bu _ _ (λe=>γ (by cases e;rfl))]
   ·have:(Sum.inr b:cl)≠.inr m:=λe=>hb (by cases e;exact .inr hm);rw[bu _ _ this,hL]
   ·have:(Sum.inr s:cl)≠.inr m:=λe=>qu (by cases e;rfl);rw[bu _ _ this,hL];exact IX
   ·cases e;rw[dm]
   ·exact holdA.two fl bF.l.o8 bF.r.o8 bF.apart ⟨λs o ν=>⟨o,ν,rfl⟩,λs o ν=>⟨o,ν,rfl⟩⟩ λx U=>by
     rcases U with e|e
     ·cases e;exact⟨s,_,IW,.inr hm⟩
     ·cases e
   ·by_cases Ε:a=.inr m
    ·subst Ε;rw[dm];refine(uX.sub bF.r).mono λk Α=>.inr λr o ι hb j γ=>?_;rcases gk r o ι with⟨rfl,rfl⟩|⟨e,eP⟩
     ·by_cases e:j=i
      ·subst e;exact Α
      ·rw[qs _ e,h.a2.bare r Ag j] at γ;exact absurd rfl γ
     ·exact absurd (.inr hm) (lX r o m eP hb)
    ·rw[bu _ _ Ε];by_cases Δ:a=.inl i
     ·subst Δ;rw[dm];exact uX.sub bF.l
     ·rw[bu _ _ Δ];by_cases a3:a=.inr s
      ·subst a3;rw[IX];exact c5.empty
      ·refine IY a λb e hb=>?_;subst e;rcases hb with rfl|hb
       ·exact a3 rfl
       ·rw[hm] at hb;cases hb;exact Ε rfl
 let c':cN:={c with H:=bH,ao:=upd c.ao i V',tok:=bM c.tok i s (.par 0 0 .add),spec:=upd c.spec i (upd (c.spec i) s (some sp)),view:=upd c.view i (upd (c.view i) s none),O:=O',bc:=upd c.bc s i,T:=upd c.T i (f (i==0,g,cT))}
 have mz:c'.x i=cT:=by rw[gN];simp[c',V',cN.x,upd_same,ta,iB]
 have n5:∀j r,r≠s->bM c.tok i s (.par 0 0 .add) j r=c.tok j r:=λj r ι=>ew _ λx=>ι x.2
 have qp:∀j,j≠0->c.rel j=true->c.home j≠s:=λj af γ e=>by
  obtain⟨op,a1,bg,_⟩:=h.dL.c1 j af γ;have eH:=h.dL.dA (c.df j) j (by simp[Trace.g?,a1,bg]);obtain⟨k,m,g,Α⟩:=h.a2.qm j af eH;rw[e,h.a2.bare s Ag j] at Α;cases Α
 refine⟨c',h.seen (c':=c') Ο D4 D3 ⟨h.bD.race,h.bD.low,h.bD.norel,D5,λj b v hv=>h.bD.m' j b v (fa j b v hv).1,λr o b ι hb k a κ eO=>?_,h.bD.hears⟩ (h.a2.PO Ag aY dN sp) ⟨λr q m Ψ hm b3 hk=>?_,λr q Ψ b3=>?_⟩
  ⟨h.dL.dA,h.dL.c1,λj af γ b3=>?_,λj af γ a b=>?_⟩ ⟨λr q m Ψ hm p op χ κ=>?_,λj b v hv=>h.fS.s8 j b v (fa j b v hv).1⟩ ⟨g,?_,.inl rfl⟩ (λj γ=>⟨?_,upd_ne _ _ γ⟩) (λr o ι=>?_),_,rfl⟩
 ·rcases gk r o ι with⟨rfl,rfl⟩|⟨e,eP⟩
  ·obtain⟨v,hv⟩:=nk b hb;exact absurd eO (h.bD.m' i b v hv k a κ)
  ·have:=h.bD.cont r o b eP hb k a κ eO
   show _\/(_/\_=some (upd c.bc s i r));rw[upd_ne _ _ e];exact this
 ·rcases gk r q Ψ with⟨rfl,rfl⟩|⟨e,bV⟩
  ·show sp.bw [] (bH (.inr m));rw[jJ.2 m hm];exact eA (by have:sp.aI=some m:=hm;rw[this];simp)
  ·show q.bw q.L (bH (.inr m));rw[D2 m (lX r q m bV (.inr hm))];exact h.dY.n3 r q m bV hm (λj hn p x=>b3 j hn p (by show bM c.tok i s _ j r=_;rw[n5 j r e];exact x)) λj k L g x=>hk j k L g (by show bM c.tok i s _ j r=_;rw[n5 j r e];exact x)
 ·rcases gk r q Ψ with⟨rfl,rfl⟩|⟨e,bV⟩
  ·show ko sp.D [] (bH (.inr r));rw[jJ.1];rfl
  ·show ko q.D q.ag (bH (.inr r));rw[D2 r (lX r q r bV (.inl rfl))];exact h.dY.kZ r q bV λj hn p x=>b3 j hn p (by show bM c.tok i s _ j r=_;rw[n5 j r e];exact x)
 ·obtain⟨q,p,Ψ⟩:=b3;have e:=qp j af γ;have Ah:c'.bc (c.home j)=c.bc (c.home j):=upd_ne _ _ e;show Knows t (c'.bc (c.home j)) (c.df j);rw[Ah];refine h.dL.c2 j af γ ⟨q,p,?_⟩;have:bM c.tok i s (.par 0 0 .add) (c'.bc (c.home j)) (c.home j)=.par q p .bf:=Ψ
  rwa [n5 _ _ e,Ah] at this
 ·have e:=qp j af γ
  have Ah:c'.bc (c.home j)=c.bc (c.home j):=upd_ne _ _ e
  show Before t (c.df j) (c.df (c'.bc (c.home j)))
  have b6:c'.bc (c.home j)≠0:=a
  have Ρ:c.rel (c'.bc (c.home j))=true:=b;rw[Ah] at b6 Ρ ⊢;exact h.dL.c3 j af γ b6 Ρ
 ·rcases gk r q Ψ with⟨rfl,rfl⟩|⟨e,bV⟩
  ·obtain⟨v,hv⟩:=nk m (.inr hm);exact absurd κ (h.fS.s8 i m v hv op (mem_of_getElem? χ))
  ·obtain⟨⟨k,mu,g,ς⟩,Κ⟩:=h.fS.h2 r q m bV hm p op χ κ;exact⟨⟨k,mu,g,by show bM c.tok i s _ _ r=_;rw[n5 _ r e];exact ς⟩,Κ⟩
 ·rw[mz];show iu P Q (upd c.T i (f (i==0,g,cT)) i) _ _ _;rw[upd_same];exact ck
 ·simp[c',cN.x,upd_ne _ _ γ,qs _ γ,h6 j γ]
 ·show O' r=some o;rw[show O' r=c.O r from upd_ne _ _ (iV r o ι)];exact ι
theorem Inv.ghost (h:Inv P Q a' c gs w t) (Ο:gs[i]?=some g) (Α:Dt (i==0) (kq P Q f) g (c.x i)):z5 P Q a' c gs w t i f:=by
 rcases Α with⟨G',J,R⟩|⟨b,cs,ty,J,R⟩|⟨s,sp,ty,G',E,J,ς,Κ,aF,aV,fY⟩
 ·exact h.less Ο J R
 ·exact h.P1 Ο J rfl R
 ·exact h.group Ο J ς Κ aF aV rfl fY
end
section
variable {P:Program} {Q:Value->Prop} {a':World} {c c':cN} {gs:Array Goroutine} {w w':World} {t:Trace} {i:Nat} {g g':Goroutine} {es:Array Event}
theorem Inv.step (h:Inv P Q a' c gs w t) (Ο:gs[i]?=some g) (dB:g.status=.running):(∃v es,i=0/\stepG P true g w=.ended (.done v) w es/\∀sl w1,Good P (λv w'=>Q v/\e0 (λ_ _=>False) (λ_=>False) a' w') (crowd gs w1 sl) (.done v) w (t++MemOp.ofEvents 0 g.frame.fn g.frame.place es))\/
  ∃f,c.T i=.node f/\(gZ P Q a' c gs w t i f\/Dt (i==0) (kq P Q f) g (c.x i)):=by
 obtain⟨cI,ι,η⟩:=h.s9 i g Ο;rcases η with rfl|⟨_,rfl,_⟩
 ·have main:zN P (i==0) g (c.x i) Q->(∃v es,i=0/\stepG P true g w=.ended (.done v) w es/\∀sl w1,Good P (λv w'=>Q v/\e0 (λ_ _=>False) (λ_=>False) a' w') (crowd gs w1 sl) (.done v) w (t++MemOp.ofEvents 0 g.frame.fn g.frame.place es)):=λν=>by
   rcases ν with⟨af,ν⟩|⟨_,ν⟩
   ·have e:i=0:=by simpa using af
    subst e;obtain⟨v,es,J,R⟩:=h.Im Ο ν none w;refine⟨v,es,rfl,J,λsl w1=>?_⟩;obtain⟨eN,es',u1,gy⟩:=h.Im Ο ν sl w1;rw[J] at u1;cases u1;exact gy
   ·rw[ν.2.2.1] at dB;cases dB
  cases Ζ:c.T i with
  | leaf=>rw[Ζ] at ι;exact .inl (main ι.2)
  | node f=>
   have eP:=ι;rw[Ζ] at ι;rcases ι.2 with ν|Α
   ·exact .inl (main ν)
   ·refine .inr ⟨f,rfl,?_⟩;rcases Α with Α|⟨D',Α⟩
    ·exact .inl (h.quits Ο Α)
    ·rcases Α with Α|Α|Α|Α|Α|Α|Α|Α|Α|Α
     ·exact .inl (h.Dy Ο Α)
     ·exact .inl (h.Ph Ο Α)
     ·exact .inl (h.Pj Ο Α)
     ·exact .inl (h.atom Ο D' eP Α)
     ·exact .inl (h.z7 Ο Α)
     ·exact .inl (h.DX Ο Α)
     ·exact .inl (h.DY Ο Α)
     ·exact .inl (h.z8 Ο Α)
     ·exact .inl (h.D9 Ο Α)
     ·exact .inr Α
 ·cases dB
theorem Inv.P7 (h:Inv P Q a' c gs w t):∀g∈gs,Go.Conc.awake g:=λg Ο=>by
 obtain⟨j,γ⟩:=Array.mem_iff_getElem?.1 Ο;intro t' Η;rcases h.stat γ with e|⟨_,e,_⟩|⟨e,_⟩<;>rw[e] at Η<;>cases Η
theorem Inv.comes:∀(L:List (fu (Bool×Goroutine×aK))) (k:Nat) (c:cN) (iz:List Nat) (gs:Array Goroutine) (w:World) (t:Trace) (sl:Option (Nat×Nat)),iz.map c.T=L->Ord iz gs.size->uQ gs=k->Inv P Q a' c gs w t->Comes P Q a' (crowd gs w sl) t:=by
 intro L
 induction L using (lR.wf (B:=Bool×Goroutine×aK)).induction with
 | _ L Ea=>
  intro k
  induction k using Nat.strongRecOn with
  | _ k Eb=>
   intro c iz gs w t sl aS dc Α h;subst aS Α;obtain⟨i,g,d,xw,Ο,dB,cj⟩:=crowd_pick (P:=P) (w:=w) (sl:=sl) h.P7 h.awake;have c0:=h.at d;have aY:i<gs.size:=k4 Ο;rcases c0.step Ο dB with⟨v,es,rfl,J,R⟩|⟨f,Ζ,Ec⟩
   ·have ι:=runT_many_ended (sl:=xw) Ο (by simpa using J);rw[ι] at cj;exact Comes.last cj (R sl w)
   ·rcases Ec with Ec|P8
    ·obtain⟨c',pe,w',u,ι,n6,g0⟩:=Ec xw;rw[ι] at cj;refine Comes.next cj ?_;rcases g0 with⟨b2,kk,pb⟩|⟨b2,kk,Ed,pb⟩|⟨b2,pb,ar⟩
     ·exact Ea _ (by rw[pb];exact dc.one aY Ζ kk) _ c' iz pe w' _ xw rfl (by rw[b2];exact dc) rfl n6
     ·obtain⟨z2,P9,P'⟩:=dc.two aY Ζ kk Ed;exact Ea _ (by rw[pb];exact P') _ c' z2 pe w' _ xw rfl (by rw[b2];exact P9) rfl n6
     ·exact Eb _ ar c' iz pe w' _ xw (by rw[pb]) (by rw[b2];exact dc) rfl n6
    ·
     obtain⟨c',n6,kk,pb⟩:=h.ghost (f:=f) Ο P8;exact Ea _ (by rw[pb];exact dc.one aY Ζ kk) _ c' iz gs w t sl rfl dc rfl n6
end
def υ.ks (w:World):υ:=
 ⟨λb o=>match w.heap[b]? with|some (.cells c _ _)=>(c[o]?).map (·,false)|_=>none,
  λb=>match w.heap[b]? with|some (.cells c t dz)=>if dz=(0,0) then some (t,c.size) else none|_=>none,λ_=>none⟩
theorem υ.Qa (w:World):Fits (υ.ks w) w:=by
 refine⟨λb o v p h=>?_,λb t n h=>?_,λb x h=>(by cases h)⟩
 ·simp only[υ.ks] at h;cases hb:w.heap[b]? with
  | none=>rw[hb] at h;cases h
  | some x=>
   rw[hb] at h;cases x with
   | cells c t dz=>
    simp only at h;cases η:c[o]? with
    | none=>rw[η] at h;cases h
    | some eN=>rw[η] at h;cases h;exact mm hb η
   | _=>cases h
 ·simp only[υ.ks] at h;cases hb:w.heap[b]? with
  | none=>rw[hb] at h;cases h
  | some x=>
   rw[hb] at h;cases x with
   | cells c t' dz=>
    simp only at h;split at h
    ·rename_i e;cases h;exact⟨c,by rw[e],rfl⟩
    ·cases h
   | _=>cases h
theorem υ.Qb (w:World) (b o:Nat):¬(υ.ks w).owns b o:=λ⟨v,h⟩=>by
 simp only[υ.ks] at h;cases hb:w.heap[b]? with
 | none=>rw[hb] at h;cases h
 | some x=>
  rw[hb] at h;cases x with
  | cells c t dz=>
   simp only at h;cases η:c[o]? with
   | none=>rw[η] at h;cases h
   | some eN=>rw[η] at h;cases h
  | _=>cases h
def aK.start (w:World):aK:=⟨υ.ks w,λ_=>none,λ_=>.nil,λ_=>none,λ_=>none,0,false⟩
theorem Goes.comes {P:Program} {Q:Value->Prop} {g:Goroutine} {w:World} (h:Goes P Q true g (aK.start w)):Comes P Q w (solo g w) #[]:=by
 obtain⟨T,Ζ⟩:=h;let c:cN:={H:=bt (λ_=>υ.empty) (.inl 0) (υ.ks w),ao:=λ_ _=>none,tok:=λ_ _=>.nil,spec:=λ_ _=>none,view:=λ_ _=>none,deaf:=λ_=>0,rel:=λ_=>false,T:=λ_=>T,O:=λ_=>none,bc:=λ_=>0,home:=λ_=>0,df:=λ_=>0};have U:c.x 0=aK.start w:=by simp[c,cN.x,aK.start]
 have ψ:∀k,k≠.inl 0->c.H k=υ.empty:=λk Α=>bu (λ_=>υ.empty) (υ.ks w) Α
 have qx:c.H (.inl 0)=υ.ks w:=dm (λ_=>υ.empty) (.inl 0) (υ.ks w)
 have Ee:∀k b o,¬(c.H k).owns b o:=λk b o ω=>by
  by_cases e:k=.inl 0
  ·subst e;rw[qx] at ω;exact υ.Qb w b o ω
  ·rw[ψ k e] at ω;obtain⟨v,hv⟩:=ω;cases hv
 have I0:∀k b,¬(c.H k).eE b:=λk b ω=>by
  by_cases e:k=.inl 0
  ·subst e;rw[qx] at ω;obtain⟨v,hv⟩:=ω;cases hv
  ·rw[ψ k e] at ω;obtain⟨v,hv⟩:=ω;cases hv
 have aΥ:∀i:Nat,(#[]:Trace)[i]?=none:=λi=>by simp
 have b2:(#[g]:Array Goroutine).size=1:=rfl
 have inv:Inv P Q w c #[g] w #[]:=by
  refine⟨by simp,⟨λk=>?_,λj b c t hb=>(by cases hb),λs o ν=>(by cases ν),e0.refl _ _ _⟩,
   ⟨λk l _=>⟨λb o ω=>absurd ω (Ee k b o),λb o ω=>absurd ω (Ee l b o),λb ω=>absurd ω (I0 k b)⟩,λk b o ω=>absurd ω (Ee k b o),λk b ω=>absurd ω (I0 k b),λj b v hv=>(by cases hv),λs o b ν=>(by cases ν),λs a7 o o' b ν=>(by cases ν),λs o m ν=>(by cases ν),λb _=>ψ _ (by simp)⟩,
   ⟨λsaid ⟨i,j,_,⟨a,b,κ,_⟩,_⟩=>(by simp[Trace.act?] at κ),λop Θ=>(by simp at Θ),λop Θ=>(by simp at Θ),λk=>⟨λb o v p _ i a κ=>(by simp[touchAt,Trace.act?] at κ),λb _ i a κ=>(by simp[touchAt,Trace.act?] at κ)⟩,λj b v hv=>(by cases hv),λs o b ν=>(by cases ν),λj=>rfl⟩,
   ?_,⟨λs o m ν=>(by cases ν),λs o ν=>(by cases ν)⟩,⟨λk a Α=>(by simp[Trace.g?] at Α),λj _ γ=>(by cases γ),λj _ γ=>(by cases γ),λj _ γ=>(by cases γ)⟩,⟨λs o m ν=>(by cases ν),λj b v hv=>(by cases hv)⟩,λj b hb=>?_⟩
  ·by_cases e:k=.inl 0
   ·subst e;rw[qx];exact υ.Qa w
   ·rw[ψ k e];exact s4 w
  ·exact⟨λs o ν=>(by cases ν),λs _ j=>rfl,λj s _=>rfl,λj s sp ν=>(by cases ν),λj s φ o ν=>(by cases ν),λj s k L g o ν=>(by cases ν),λj s m p ay ν=>(by cases ν),λj s k m g ν=>(by cases ν),λj af γ=>(by rw[b2] at γ;omega),λj k m g _ ν=>(by cases ν),rfl,λj s ν=>(by cases ν),λj s k m g o ν=>(by cases ν),λs j bp k m g bO g' ν=>(by cases ν),λs j k m g q p ay ν=>(by cases ν),λs o ν=>(by cases ν),λs o ν=>(by cases ν)⟩
  ·have γ:j=0:=by have:=k4 hb;rw[b2] at this;omega
   subst γ;simp at hb;subst hb;exact⟨g,by rw[U];exact Ζ,.inl rfl⟩
 rw[solo_eq_crowd];exact Inv.comes _ _ c [0] #[g] w #[] none rfl ⟨by simp,λi=>by simp⟩ rfl inv
def υ.fresh (G:υ) (r:Nat):Prop:=(∀o,G.av r o=none)/\G.row r=none/\G.obj r=none/\∀b,r<b->(∀o,G.av b o=none)/\G.row b=none/\G.obj b=none
def υ.tf (G:υ) (a:Addr) (v:Value):υ:={G with av:=λb o=>if b=a.block/\o=a.off then some (v,true) else G.av b o}
def υ.dh (G:υ) (r:Nat) (c:Array Value) (t:TypeId):υ:=⟨λb o=>if b=r then(c[o]?).map (·,true) else G.av b o,λb=>if b=r then some (t,c.size) else G.row b,G.obj⟩
def υ.bq (G:υ) (r:Nat) (x:Obj):υ:={G with obj:=λb=>if b=r then some x else G.obj b}
def One:Value->Prop
 | .agg _|.tuple _=>False
 | _=>True
def π {α:Type} (P:Program):Sem α->υ->(α->υ->Prop)->(Value->υ->Prop)->Prop
 | .pure a,G,K,_=>K a G
 | .load m a k,G,K,E=>m=.plain/\a.spot=none/\∃v p,G.av a.block a.off=some (v,p)/\π P (k v) G K E
 | .store m a v k,G,K,E=>m=.plain/\a.spot=none/\G.owns a.block a.off/\(∃t n,G.row a.block=some (t,n))/\One v/\π P k (G.tf a v) K E
 | .new (.cells c t dz) k,G,K,E=>dz=(0,0)/\∀r,G.fresh r->π P (k r) (G.dh r c t) K E
 | .new o k,G,K,E=>∀r,G.fresh r->π P (k r) (G.bq r o) K E
 | .shape r k,G,K,E=>∃t n,G.row r=some (t,n)/\π P (k (some (t,n))) G K E
 | .freeze _ _ _,_,_,_=>False
 | .frozen a k,G,K,E=>(∃t n,G.row a.block=some (t,n))/\π P (k false) G K E
 | .getObj r k,G,K,E=>∃o,G.obj r=some o/\o.isChan=false/\π P (k o) G K E
 | .setObj r o k,G,K,E=>G.eE r/\Obj.qf o=false/\o.isChan=false/\π P k (G.bq r o) K E
 | .choose q k,G,K,E=>if q.forced then π P (k 0) G K E else ∀n,π P (k (q.cut n)) G K E
 | .sys _ _,_,_,_=>False
 | .program k,G,K,E=>π P (k P) G K E
 | .mark m k,G,K,E=>m=.noRoom/\π P k G K E
 | .halt (.panic v),G,_,E=>E v G
 | .halt _,_,_,_=>False
structure dw (G0:υ) (w0:World) (G:υ) (w:World) (es:Array Event):Prop where
 fit:Fits G w
 keeps:e0 G0.owns G0.eE w0 w
 jr:zL G0 G w0.heap.size
 fx:∀e∈es,gv G0 w0.heap.size w.heap.size e
theorem dw.start {G:υ} {w:World} (h:Fits G w):dw G w G w #[]:=
 ⟨h,e0.refl _ _ _,⟨λb o v p h=>.inr ⟨v,p,h,id⟩,λb h=>.inr h⟩,λe he=>by simp at he⟩
section
variable {G0 G:υ} {w0 w:World} {es:Array Event}
theorem Fits.bare (h:Fits G w) {b:Nat} (hb:w.heap.size<=b):(∀o,G.av b o=none)/\G.row b=none/\G.obj b=none:=by
 refine⟨λo=>?_,?_,?_⟩
 ·cases η:G.av b o with
  | none=>rfl
  | some x=>obtain⟨c,t,dz,hb,_⟩:=o0 (h.av _ _ x.1 x.2 η);have:=e1 hb;omega
 ·cases η:G.row b with
  | none=>rfl
  | some x=>obtain⟨c,hb,_⟩:=h.row _ x.1 x.2 η;have:=e1 hb;omega
 ·cases η:G.obj b with
  | none=>rfl
  | some x=>have:=e1 (h.obj _ x η).1;omega
theorem Fits.fresh (h:Fits G w):G.fresh w.heap.size:=
 ⟨(h.bare (Nat.le_refl _)).1,(h.bare (Nat.le_refl _)).2.1,(h.bare (Nat.le_refl _)).2.2,λ_ hb=>h.bare (Nat.le_of_lt hb)⟩
theorem υ.Ef {H H':υ} (J:∀b o,H'.av b o=none->H.av b o=none) (R:∀b,H'.row b=none->H.row b=none) (ς:∀b,H'.obj b=none->H.obj b=none) (r:Nat) (h:H'.fresh r):H.fresh r:=
 ⟨λo=>J _ _ (h.1 o),R _ h.2.1,ς _ h.2.2.1,λb hb=>⟨λo=>J _ _ ((h.2.2.2 b hb).1 o),R _ (h.2.2.2 b hb).2.1,ς _ (h.2.2.2 b hb).2.2⟩⟩
theorem υ.I1 {H:υ} {r:Nat} (ι:H.fresh r) (c:Array Value) (t:TypeId):∀b,(H.dh r c t).fresh b->H.fresh b:=
 υ.Ef (λb o h=>by
  by_cases e:b=r
  ·subst e;exact ι.1 o
  ·simpa[υ.dh,e] using h) (λb h=>by
  by_cases e:b=r
  ·subst e;exact ι.2.1
  ·simpa[υ.dh,e] using h) (λb h=>h)
theorem υ.Eg {H:υ} {r:Nat} {x:Obj}:∀b,(H.bq r x).fresh b->H.fresh b:=
 υ.Ef (λb o h=>h) (λb h=>h) (λb h=>by
  by_cases e:b=r
  ·subst e;simp[υ.bq] at h
  ·simpa[υ.bq,e] using h)
theorem gv.mono {n hZ I2:Nat} {e:Event} (h:gv G n hZ e) (Ι:hZ<=I2):gv G n I2 e:=by
 obtain⟨loc,wr,na⟩:=e;cases loc with
 | cell a=>exact h.imp (λx=>⟨x.1,by omega⟩) id
 | obj r=>exact⟨h.1,h.2.imp (λx=>⟨x.1,by omega⟩) id⟩
 | _=>exact h
theorem dw.read (h:dw G0 w0 G w es) {a:Addr} {v:Value} {p:Bool} (κ:a.spot=none) (η:G.av a.block a.off=some (v,p)):w.cell? a=some v/\dw G0 w0 G w (es.push ⟨.cell a,false,false⟩):=by
 obtain⟨b,o,sp⟩:=a;simp only at κ η;subst κ;have hv:=h.fit.av b o v p η;refine⟨hv,h.fit,h.keeps,h.jr,λe he=>?_⟩;rcases Array.mem_push.1 he with he|rfl
 ·exact h.fx e he
 ·rcases h.jr.av b o v p η with Ι|⟨v0,e2,af,_⟩
  ·obtain⟨c,t,dz,hb,_⟩:=o0 hv;exact .inl ⟨Ι,e1 hb⟩
  ·exact .inr ⟨rfl,_,af⟩
theorem heap_setCell {a:Addr} {v:Value} {c:Array Value} {t:TypeId} {dz:Nat×Nat} (κ:a.spot=none) (hb:w.heap[a.block]?=some (.cells c t dz)):(w.setCell a v).heap=w.heap.setIfInBounds a.block (.cells (c.setIfInBounds a.off v) t dz):=by
 obtain⟨b,o,sp⟩:=a;simp only at κ hb;subst κ;have ar:=e1 hb;simp only[World.setCell];apply Array.ext_getElem?;intro j;rw[Array.getElem?_modify];by_cases e:b=j
 ·subst e;rw[Array.getElem?_setIfInBounds_self_of_lt ar,if_pos rfl,hb];simp
 ·rw[Array.getElem?_setIfInBounds_ne e,if_neg e]
theorem dw.write (h:dw G0 w0 G w es) {a:Addr} {v:Value} (κ:a.spot=none) (η:G.owns a.block a.off):(∃u,w.cell? a=some u)/\dw G0 w0 (G.tf a v) (w.setCell a v) (es.push ⟨.cell a,true,false⟩):=by
 obtain⟨b,o,sp⟩:=a;simp only at κ η;subst κ;obtain⟨u,hu⟩:=η;have hv:=h.fit.av b o u true hu;obtain⟨c,t,dz,hb,Qc⟩:=o0 hv;have ar:=e1 hb;have aN:=heap_setCell (w:=w) (a:=⟨b,o,none⟩) (v:=v) rfl hb;have b2:(w.setCell ⟨b,o,none⟩ v).heap.size=w.heap.size:=by rw[aN];simp
 have n7:(w.setCell ⟨b,o,none⟩ v).heap[b]?=some (.cells (c.setIfInBounds o v) t dz):=by rw[aN,Array.getElem?_setIfInBounds_self_of_lt ar]
 have n8:∀j,b≠j->(w.setCell ⟨b,o,none⟩ v).heap[j]?=w.heap[j]?:=λj γ=>by rw[aN,Array.getElem?_setIfInBounds_ne γ]
 have ω:o<c.size:=(Array.getElem?_eq_some_iff.1 Qc).1
 have I3:b<w0.heap.size->G0.owns b o:=λiC=>by
  rcases h.jr.av b o u true hu with Ι|⟨v0,e2,af,χ⟩
  ·omega
  ·exact⟨v0,by rw[af,χ rfl]⟩
 refine⟨⟨u,hv⟩,⟨λΡ o' eN ef a6=>?_,λΡ t' hZ ι=>?_,λΡ x U=>?_⟩,⟨by rw[b2];exact h.keeps.size,λΡ c' t' I4 dp=>?_,λΡ x dp U Ι=>?_,h.keeps.os,h.keeps.output,h.keeps.tape⟩,⟨λΡ o' eN ef a6=>?_,h.jr.obj⟩,λe he=>?_⟩
 ·simp only[υ.tf] at a6;by_cases e:Ρ=b/\o'=o
  ·obtain⟨rfl,rfl⟩:=e;rw[if_pos ⟨rfl,rfl⟩] at a6;cases a6;exact mm n7 (by rw[Array.getElem?_setIfInBounds_self_of_lt ω])
  ·rw[if_neg e] at a6;have:=h.fit.av Ρ o' eN ef a6;by_cases Δ:Ρ=b
   ·subst Δ;have Ε:o≠o':=λx=>e ⟨rfl,x.symm⟩;obtain⟨c2,t2,I5,fE,mB⟩:=o0 this;rw[hb] at fE;cases fE;exact mm n7 (by rw[Array.getElem?_setIfInBounds_ne Ε];exact mB)
   ·obtain⟨c2,t2,I5,fE,mB⟩:=o0 this;exact mm (by rw[n8 Ρ (Ne.symm Δ)];exact fE) mB
 ·obtain⟨c2,fE,dG⟩:=h.fit.row Ρ t' hZ ι;by_cases Δ:Ρ=b
  ·subst Δ;rw[hb] at fE;cases fE;exact⟨_,n7,by simpa using dG⟩
  ·exact⟨c2,by rw[n8 Ρ (Ne.symm Δ)];exact fE,dG⟩
 ·obtain⟨fE,rI⟩:=h.fit.obj Ρ x U;have Δ:b≠Ρ:=λe=>by subst e;rw[hb] at fE;cases fE;cases rI
  exact⟨by rw[n8 Ρ Δ];exact fE,rI⟩
 ·obtain⟨c2,J,R,ς⟩:=h.keeps.cells Ρ c' t' I4 dp;by_cases Δ:Ρ=b
  ·subst Δ;rw[hb] at J;cases J;refine⟨_,n7,by simpa using R,λo' iy=>?_⟩;have Ε:o≠o':=λe=>by subst e;exact iy (I3 (e1 dp))
   rw[Array.getElem?_setIfInBounds_ne Ε];exact ς o' iy
  ·exact⟨c2,by rw[n8 Ρ (Ne.symm Δ)];exact J,R,ς⟩
 ·have J:=h.keeps.lO Ρ x dp U Ι
  have Δ:b≠Ρ:=λe=>by subst e;rw[hb] at J;cases J;cases U
  rw[n8 Ρ Δ];exact J
 ·simp only[υ.tf] at a6;by_cases e:Ρ=b/\o'=o
  ·obtain⟨rfl,rfl⟩:=e;rw[if_pos ⟨rfl,rfl⟩] at a6;cases a6;rcases h.jr.av _ _ _ _ hu with Ι|⟨v0,e2,af,χ⟩
   ·exact .inl Ι
   ·exact .inr ⟨v0,e2,af,χ⟩
  ·rw[if_neg e] at a6;exact h.jr.av Ρ o' eN ef a6
 ·rw[b2];rcases Array.mem_push.1 he with he|rfl
  ·exact h.fx e he
  ·rcases Nat.lt_or_ge b w0.heap.size with iC|iC
   ·refine .inr ⟨rfl,?_⟩;exact I3 iC
   ·exact .inl ⟨iC,ar⟩
theorem xx {x:Obj} {j:Nat} (γ:j<w.heap.size):(w.heap.push x)[j]?=w.heap[j]?:=by
 rw[Array.getElem?_push,if_neg (by omega)]
theorem Ai {x:Obj}:(w.heap.push x)[w.heap.size]?=some x:=by simp
theorem dw.new (h:dw G0 w0 G w es) {x:Obj} {G':υ} (η:∀b o,b≠w.heap.size->G'.av b o=G.av b o) (ι:∀b,b≠w.heap.size->G'.row b=G.row b) (ω:∀b,b≠w.heap.size->G'.obj b=G.obj b)
  (ab:Fits {av:=λb o=>if b=w.heap.size then G'.av b o else none,row:=λb=>if b=w.heap.size then G'.row b else none,obj:=λb=>if b=w.heap.size then G'.obj b else none} {w with heap:=w.heap.push x}) :
  dw G0 w0 G' {w with heap:=w.heap.push x} es:=by
 have hle:=h.keeps.size;refine⟨⟨λb o v p hb=>?_,λb t n hb=>?_,λb y hb=>?_⟩,⟨by simp;omega,λb c t dz hb=>?_,λb y hb ad Ι=>?_,h.keeps.os,h.keeps.output,h.keeps.tape⟩,⟨λb o v p hb=>?_,λb ⟨y,hb⟩=>?_⟩,λe he=>(h.fx e he).mono (by simp)⟩
 ·by_cases e:b=w.heap.size
  ·exact ab.av b o v p (by simp only[e,if_true];rw[<-e];exact hb)
  ·rw[η b o e] at hb;obtain⟨c2,t2,I5,fE,mB⟩:=o0 (h.fit.av b o v p hb);exact mm (w:={w with heap:=w.heap.push x}) (by show(w.heap.push x)[b]?=_;rw[xx (e1 fE)];exact fE) mB
 ·by_cases e:b=w.heap.size
  ·exact ab.row b t n (by simp only[e,if_true];rw[<-e];exact hb)
  ·rw[ι b e] at hb;obtain⟨c2,fE,dG⟩:=h.fit.row b t n hb;exact⟨c2,by show(w.heap.push x)[b]?=_;rw[xx (e1 fE)];exact fE,dG⟩
 ·by_cases e:b=w.heap.size
  ·exact ab.obj b y (by simp only[e,if_true];rw[<-e];exact hb)
  ·rw[ω b e] at hb;obtain⟨fE,ad⟩:=h.fit.obj b y hb;exact⟨by show(w.heap.push x)[b]?=_;rw[xx (e1 fE)];exact fE,ad⟩
 ·obtain⟨c2,J,R,ς⟩:=h.keeps.cells b c t dz hb;exact⟨c2,by show(w.heap.push x)[b]?=_;rw[xx (e1 J)];exact J,R,ς⟩
 ·have J:=h.keeps.lO b y hb ad Ι
  show(w.heap.push x)[b]?=_;rw[xx (e1 J)];exact J
 ·by_cases e:b=w.heap.size
  ·exact .inl (by omega)
  ·rw[η b o e] at hb;exact h.jr.av b o v p hb
 ·by_cases e:b=w.heap.size
  ·exact .inl (by omega)
  ·rw[ω b e] at hb;exact h.jr.obj b ⟨y,hb⟩
end
section
variable {G0 G:υ} {w0 w:World} {es:Array Event} {P:Program}
theorem dw.push (h:dw G0 w0 G w es) {e:Event} (he:gv G0 w0.heap.size w.heap.size e):dw G0 w0 G w (es.push e):=
 ⟨h.fit,h.keeps,h.jr,λx U=>(Array.mem_push.1 U).elim (h.fx x) λy=>y▸he⟩
theorem dw.draw (h:dw G0 w0 G w es) (n:Nat):dw G0 w0 G {w with drawn:=n} es:=
 ⟨⟨h.fit.av,h.fit.row,h.fit.obj⟩,⟨h.keeps.size,h.keeps.cells,h.keeps.lO,h.keeps.os,h.keeps.output,h.keeps.tape⟩,h.jr,h.fx⟩
theorem dw.row (h:dw G0 w0 G w es) (c:Array Value) (t:TypeId):dw G0 w0 (G.dh w.heap.size c t) {w with heap:=w.heap.push (.cells c t (0,0))} es:=by
 refine h.new (λb o hb=>by simp[υ.dh,hb]) (λb hb=>by simp[υ.dh,hb]) (λb hb=>rfl) ⟨λb o v p hb=>?_,λb t' n hb=>?_,λb y hb=>?_⟩
 ·by_cases e:b=w.heap.size
  ·simp[υ.dh,e] at hb;obtain⟨jM,fE,rfl,rfl⟩:=hb;rw[e];exact mm (w:={w with heap:=w.heap.push (.cells c t (0,0))}) Ai fE
  ·simp[e] at hb
 ·by_cases e:b=w.heap.size
  ·simp[υ.dh,e] at hb;obtain⟨rfl,rfl⟩:=hb;rw[e];exact⟨c,Ai,rfl⟩
  ·simp[e] at hb
 ·by_cases e:b=w.heap.size
  ·simp only[e,if_true,υ.dh] at hb;rw[h.fit.fresh.2.2.1] at hb;cases hb
  ·simp[e] at hb
theorem dw.obj (h:dw G0 w0 G w es) {x:Obj} (U:Obj.qf x=false):dw G0 w0 (G.bq w.heap.size x) {w with heap:=w.heap.push x} es:=by
 refine h.new (λb o hb=>rfl) (λb hb=>rfl) (λb hb=>by simp[υ.bq,hb]) ⟨λb o v p hb=>?_,λb t' n hb=>?_,λb y hb=>?_⟩
 ·by_cases e:b=w.heap.size
  ·simp only[e,if_true,υ.bq] at hb;rw[h.fit.fresh.1] at hb;cases hb
  ·simp[e] at hb
 ·by_cases e:b=w.heap.size
  ·simp only[e,if_true,υ.bq] at hb;rw[h.fit.fresh.2.1] at hb;cases hb
  ·simp[e] at hb
 ·by_cases e:b=w.heap.size
  ·simp[υ.bq,e] at hb;subst hb;rw[e];exact⟨Ai,U⟩
  ·simp[e] at hb
theorem dw.setObj (h:dw G0 w0 G w es) {r:Nat} {x:Obj} (ι:G.eE r) (U:Obj.qf x=false):(∃y,w.heap[r]?=some y/\Obj.qf y=false)/\dw G0 w0 (G.bq r x) {w with heap:=w.heap.setIfInBounds r x} (es.push ⟨.obj r,true,false⟩):=by
 obtain⟨y,ad⟩:=ι;obtain⟨hb,Aj⟩:=h.fit.obj r y ad;have ar:=e1 hb;have n7:(w.heap.setIfInBounds r x)[r]?=some x:=Array.getElem?_setIfInBounds_self_of_lt ar;have n8:∀j,r≠j->(w.heap.setIfInBounds r x)[j]?=w.heap[j]?:=λj γ=>Array.getElem?_setIfInBounds_ne γ;have Eh:∀b c t dz,w.heap[b]?=some (.cells c t dz)->r≠b:=λb c t dz η e=>by subst e;rw[hb] at η;cases η;cases Aj
 refine⟨⟨y,hb,Aj⟩,⟨λb o v p η=>?_,λb t n η=>?_,λb z Ν=>?_⟩,⟨by simp;exact h.keeps.size,λb c t dz η=>?_,λb z η Ν Ι=>?_,h.keeps.os,h.keeps.output,h.keeps.tape⟩,⟨h.jr.av,λb Ν=>?_⟩,λe he=>?_⟩
 ·obtain⟨c,t,dz,J,R⟩:=o0 (h.fit.av b o v p η);exact mm (w:={w with heap:=w.heap.setIfInBounds r x}) (by show(w.heap.setIfInBounds r x)[b]?=_;rw[n8 b (Eh b c t dz J)];exact J) R
 ·obtain⟨c,J,R⟩:=h.fit.row b t n η;exact⟨c,by show(w.heap.setIfInBounds r x)[b]?=_;rw[n8 b (Eh b c t _ J)];exact J,R⟩
 ·by_cases e:b=r
  ·subst e;simp[υ.bq] at Ν;subst Ν;exact⟨n7,U⟩
  ·simp[υ.bq,e] at Ν;obtain⟨J,R⟩:=h.fit.obj b z Ν;exact⟨by show(w.heap.setIfInBounds r x)[b]?=_;rw[n8 b (Ne.symm e)];exact J,R⟩
 ·obtain⟨c2,J,R,ς⟩:=h.keeps.cells b c t dz η;exact⟨c2,by show(w.heap.setIfInBounds r x)[b]?=_;rw[n8 b (Eh b c2 t dz J)];exact J,R,ς⟩
 ·have J:=h.keeps.lO b z η Ν Ι
  have e:r≠b:=λe=>by
   subst e;rcases h.jr.obj r ⟨y,ad⟩ with U|U
   ·have:=e1 η;omega
   ·exact Ι U
  show(w.heap.setIfInBounds r x)[b]?=_;rw[n8 b e];exact J
 ·by_cases e:b=r
  ·subst e;exact h.jr.obj b ⟨y,ad⟩
  ·obtain⟨z,Ν⟩:=Ν;simp[υ.bq,e] at Ν;exact h.jr.obj b ⟨z,Ν⟩
 ·simp only[Array.size_setIfInBounds];rcases Array.mem_push.1 he with he|rfl
  ·exact h.fx e he
  ·exact⟨rfl,(h.jr.obj r ⟨y,ad⟩).imp (λU=>⟨U,ar⟩) id⟩
theorem π.sound {α:Type} {K:α->υ->Prop} {E:Value->υ->Prop} (s:Sem α):∀{G:υ} {w:World} {es:Array Event},π P s G K E->dw G0 w0 G w es->
  ∃G' w' es',dw G0 w0 G' w' es'/\((∃a,s.runT P w es=(.ok a w',es')/\K a G')\/(∃v,s.runT P w es=(.halt (.panic v) w',es')/\E v G')):=by
 induction s with
 | pure a=>intro G w es h hu;exact⟨G,w,es,hu,.inl ⟨a,rfl,h⟩⟩
 | load m a k Γ=>
  intro G w es h hu;obtain⟨rfl,κ,v,p,η,Α⟩:=h;obtain⟨hv,tg⟩:=hu.read κ η;obtain⟨G',w',es',J,R⟩:=Γ v Α tg;refine⟨G',w',es',J,?_⟩;simp only[Sem.runT,hv];exact R
 | store m a v k Γ=>
  intro G w es h hu;obtain⟨rfl,κ,η,⟨t,n,bA⟩,Ak,Α⟩:=h;obtain⟨⟨u,hv⟩,tg⟩:=hu.write (v:=v) κ η;obtain⟨G',w',es',J,R⟩:=Γ Α tg;have I6:w.frozen? a=false:=by
   obtain⟨c,hb,_⟩:=hu.fit.row a.block t n bA;simp[World.frozen?,hb]
  refine⟨G',w',es',J,?_⟩;have e:(Sem.store .plain a v k).runT P w es=k.runT P (w.setCell a v) (es.push ⟨.cell a,true,false⟩):=by
   cases v<;>first|exact Ak.elim|(simp only[Sem.runT,hv,I6];rfl)
  rw[e];exact R
 | new o k Γ=>
  intro G w es h hu;cases o with
  | cells c t dz=>
   obtain⟨rfl,Α⟩:=h;obtain⟨G',w',es',J,R⟩:=Γ w.heap.size (Α _ hu.fit.fresh) (hu.row c t);exact⟨G',w',es',J,R⟩
  | _=>
   obtain⟨G',w',es',J,R⟩:=Γ w.heap.size (h _ hu.fit.fresh) (hu.obj rfl);exact⟨G',w',es',J,R⟩
 | shape r k Γ=>
  intro G w es h hu;obtain⟨t,n,ι,Α⟩:=h;have e:w.shape? r=some (t,n):=by
   obtain⟨c,hb,ν⟩:=hu.fit.row r t n ι;simp[World.shape?,hb,ν]
  obtain⟨G',w',es',J,R⟩:=Γ _ Α hu;refine⟨G',w',es',J,?_⟩;simp only[Sem.runT,e];exact R
 | freeze a n k Γ=>intro G w es h hu;exact h.elim
 | frozen a k Γ=>
  intro G w es h hu;obtain⟨⟨t,n,ι⟩,Α⟩:=h;have e:w.frozen? a=false:=by
   obtain⟨c,hb,_⟩:=hu.fit.row a.block t n ι;simp[World.frozen?,hb]
  obtain⟨G',w',es',J,R⟩:=Γ _ Α hu;refine⟨G',w',es',J,?_⟩;simp only[Sem.runT,e];exact R
 | getObj r k Γ=>
  intro G w es h hu;obtain⟨o,ω,s',Α⟩:=h;obtain⟨hb,b3⟩:=hu.fit.obj r o ω;have ar:=e1 hb;have tg:=hu.push (e:=⟨.obj r,false,false⟩) ⟨rfl,(hu.jr.obj r ⟨o,ω⟩).imp (λU=>⟨U,ar⟩) id⟩;obtain⟨G',w',es',J,R⟩:=Γ _ Α tg;refine⟨G',w',es',J,?_⟩;have e:(Sem.getObj r k).runT P w es=(k o).runT P w (es.push ⟨.obj r,false,false⟩):=by
   cases o<;>first|(simp only[Sem.runT,hb];first|done|rfl|(rw[s'];done))|(cases b3;done)
  rw[e];exact R
 | setObj r o k Γ=>
  intro G w es h hu;obtain⟨ι,b3,s',Α⟩:=h;obtain⟨⟨y,hb,Aj⟩,tg⟩:=hu.setObj ι b3;obtain⟨G',w',es',J,R⟩:=Γ Α tg;refine⟨G',w',es',J,?_⟩;have e:(Sem.setObj r o k).runT P w es=k.runT P {w with heap:=w.heap.setIfInBounds r o} (es.push ⟨.obj r,true,false⟩):=by
   cases y<;>first|(simp only[Sem.runT,hb,s'];done)|(cases Aj;done)
  rw[e];exact R
 | choose q k Γ=>
  intro G w es h hu;simp only[π] at h;by_cases Ψ:q.forced=true
  ·rw[if_pos Ψ] at h;obtain⟨G',w',es',J,R⟩:=Γ _ h hu;refine⟨G',w',es',J,?_⟩;simp only[Sem.runT,Ψ,if_true];exact R
  ·rw[if_neg Ψ] at h;obtain⟨G',w',es',J,R⟩:=Γ _ (h (w.tape w.drawn q)) (hu.draw (w.drawn+1));refine⟨G',w',es',J,?_⟩;simp only[Sem.runT,Ψ];exact R
 | sys c k Γ=>intro G w es h hu;exact h.elim
 | program k Γ=>
  intro G w es h hu;obtain⟨G',w',es',J,R⟩:=Γ P h hu;exact⟨G',w',es',J,R⟩
 | mark m k Γ=>
  intro G w es h hu;obtain⟨rfl,Α⟩:=h;obtain⟨G',w',es',J,R⟩:=Γ Α (hu.push (e:=⟨.mark .noRoom,false,true⟩) rfl);exact⟨G',w',es',J,R⟩
 | halt x=>
  intro G w es h hu;cases x<;>first|exact h.elim|skip
  exact⟨G,w,es,hu,.inr ⟨_,rfl,h⟩⟩
theorem mem_seen {fn:FuncId} {e:Event} (h:e∈seen P fn es):e∈es:=by
 unfold seen at h;obtain⟨l⟩:=es;have key:∀(l:List Event) (q:Bool) (kept:Array Event) (x:Event),x∈(l.foldl (λ(s:Bool×Array Event) e=>match e.loc with
   | .mark (Mark.extern f)=>((P.funcs[f]?).any (·.norace),s.2)
   | _=>(s.1,if s.1&&!e.sync then s.2 else s.2.push e)) (q,kept)).2->x∈kept\/x∈l:=by
  intro l
  induction l with
  | nil=>intro q kept x U;exact .inl U
  | cons y l Γ=>
   intro q kept x U;rw[List.foldl_cons] at U;rcases Γ _ _ x U with gN|gN
   ·split at gN
    ·exact .inl gN
    ·simp only at gN;split at gN
     ·exact .inl gN
     ·rcases Array.mem_push.1 gN with zY|rfl
      ·exact .inl zY
      ·exact .inr (by simp)
   ·exact .inr (by simp[gN])
 simp only[List.foldl_toArray'] at h;rcases key l _ #[] e h with U|U
 ·simp at U
 ·simpa using U
end
def b4 (P:Program) (Q:Value->Prop) (mn:Bool) (y:aK) (ai:Frame) (cs:List Frame) (H:υ):Prop:=Goes P Q mn (Go.Conc.G ai cs) {y with G:=H}
def fZ:Type:=aK->Prop
class bh where
 q:fZ->Prop
structure Seq [bh] (x:fZ):Prop where
 cls:bh.q x
 rel:∀y,x y->y.rel=false
 ao:∀y,x y->y.ao=λ_=>none
def aB (P:Program) (Q:Value->Prop) (mn:Bool) (x:fZ) (ai:Frame) (cs:List Frame) (H:υ):Prop:=∀y,x y->b4 P Q mn y ai cs H
def ai (b:Frame) (t:Array Value) (k:List Item):Frame:={b with tmps:=t,todo:=k}
section
variable {P:Program} {Q:Value->Prop} {mn:Bool} {x:fZ} {cs:List Frame} {H:υ} {b f:Frame} {t:Array Value} {k:List Item}
theorem b4.own {y:aK} (dN:y.rel=false) (fa:y.ao=λ_=>none) (h:∀w,Fits H w->∃f' cs' w' es H',stepG P mn (Go.Conc.G f cs) w=.go (Go.Conc.G f' cs') w' es/\dw H w H' w' es/\b4 P Q mn y f' cs' H'):b4 P Q mn y f cs H:=by
 refine Goes.step (λι=>by rw[show({y with G:=H}:aK).rel=y.rel from rfl,dN] at ι;cases ι) (.inr ⟨⟨rfl,rfl⟩,.inl λw ab hv=>?_⟩);obtain⟨f',cs',w',es,H',J,R,ς⟩:=h w ab;rw[J];refine⟨H',y.ao,⟨rfl,rfl⟩,R.keeps,R.fit,λb c t hb=>?_,R.jr,λb c hb=>.inl hb,λe he=>?_,λb c hb=>?_,ς⟩
 ·rw[fa] at hb;cases hb
 ·rw[if_neg (by rw[show({y with G:=H}:aK).rel=y.rel from rfl,dN];simp)];exact R.fx e he
 ·rw[fa] at hb;cases hb
variable [bh]
theorem aB.own (U:Seq x) (h:∀w,Fits H w->∃f' cs' w' es H',stepG P mn (Go.Conc.G f cs) w=.go (Go.Conc.G f' cs') w' es/\dw H w H' w' es/\aB P Q mn x f' cs' H'):aB P Q mn x f cs H:=
 λy ad=>.own (U.rel y ad) (U.ao y ad) λw ab=>let ⟨f',cs',w',es,H',a,b,c⟩:=h w ab;⟨f',cs',w',es,H',a,b,c y ad⟩
theorem aB.still (U:Seq x) {f':Frame} {cs':List Frame} (ν:∀w,stepG P mn (Go.Conc.G f cs) w=.go (Go.Conc.G f' cs') w #[]) (h:aB P Q mn x f' cs' H):aB P Q mn x f cs H:=
 .own U λw ab=>⟨f',cs',w,#[],H,ν w,.start ab,h⟩
theorem h7 (hb:b.mode=.run) (w:World):stepG P mn (Go.Conc.G (ai b t k) cs) w=stepG.exec P mn true (ai b t k) cs none w:=by
 obtain⟨fn,u2,td,Qd,rJ,kd,ro⟩:=b;simp only at hb;subst hb;rfl
section Qe
variable (U:Seq x) (hb:b.mode=.run)
include U hb
theorem aB.to {Χ:List Item} (ν:∀w,stepG.exec P mn true (ai b t k) cs none w=.go (Go.Conc.G (ai b t Χ) cs) w #[]) (h:aB P Q mn x (ai b t Χ) cs H):aB P Q mn x (ai b t k) cs H:=
 .still U (λw=>(h7 hb w).trans (ν w)) h
theorem aB.skip (h:aB P Q mn x (ai b t k) cs H):aB P Q mn x (ai b t (.code .skip::k)) cs H:=.to U hb (λ_=>rfl) h
theorem aB.inBlock {l:Nat} (h:aB P Q mn x (ai b t k) cs H):aB P Q mn x (ai b t (.inBlock l::k)) cs H:=.to U hb (λ_=>rfl) h
theorem aB.seq {a c:Code} (h:aB P Q mn x (ai b t (.code a::.code c::k)) cs H):aB P Q mn x (ai b t (.code (.seq a c)::k)) cs H:=.to U hb (λ_=>rfl) h
theorem aB.block {l:Nat} {c:Code} (h:aB P Q mn x (ai b t (.code c::.inBlock l::k)) cs H):aB P Q mn x (ai b t (.code (.block l c)::k)) cs H:=.to U hb (λ_=>rfl) h
theorem aB.loop {c:Code} (h:aB P Q mn x (ai b t (.code c::.inLoop c::k)) cs H):aB P Q mn x (ai b t (.code (.loop c)::k)) cs H:=.to U hb (λ_=>rfl) h
theorem aB.inLoop {c:Code} (h:aB P Q mn x (ai b t (.code c::.inLoop c::k)) cs H):aB P Q mn x (ai b t (.inLoop c::k)) cs H:=.to U hb (λ_=>rfl) h
theorem aB.region {id:Nat} {ops:Array Oper} (h:aB P Q mn x (ai b t (.inRegion ops (List.range ops.size)::k)) cs H):aB P Q mn x (ai b t (.code (.region id ops false)::k)) cs H:=.to U hb (λ_=>rfl) h
theorem aB.bm {ops:Array Oper} (h:aB P Q mn x (ai b t k) cs H):aB P Q mn x (ai b t (.inRegion ops []::k)) cs H:=.to U hb (λ_=>rfl) h
theorem aB.cond {c:Operand} {a e:Code} {v:Bool} (η:(ai b t k).eval c=.bool v) (h:aB P Q mn x (ai b t (.code (if v then a else e)::k)) cs H):aB P Q mn x (ai b t (.code (.cond c a e)::k)) cs H:=by
 refine .to U hb (λw=>?_) h;have a6:(ai b t (.code (.cond c a e)::k)).eval c=.bool v:=η;unfold stepG.exec;simp only[ai] at a6 ⊢;rw[a6];rfl
theorem aB.exit {l:Nat} {Χ:List Item} (he:exitTo l k=some Χ) (h:aB P Q mn x (ai b t Χ) cs H):aB P Q mn x (ai b t (.code (.exit l)::k)) cs H:=by
 refine .to U hb (λw=>?_) h;unfold stepG.exec;simp only[ai,he,Option.elim];rfl
theorem aB.draw {id:Nat} {ops:Array Oper} (h:∀n,aB P Q mn x (ai b t (.inRegion ops (Region.schedule (P.follows .mixedOrders) ops n)::k)) cs H):aB P Q mn x (ai b t (.code (.region id ops true)::k)) cs H:=by
 refine .own U λw ab=>⟨ai b t (.inRegion ops (Region.schedule (P.follows .mixedOrders) ops (w.tape w.drawn (.order b.fn id)))::k),cs,{w with drawn:=w.drawn+1},#[],H,?_,(dw.start ab).draw _,h _⟩;rw[h7 hb];rfl
theorem aB.ret (ι:b.roundOf=none) (h:aB P Q mn x {ai b t (.code .ret::k) with mode:=.returning} cs H):aB P Q mn x (ai b t (.code .ret::k)) cs H:=by
 refine .still U (λw=>?_) h;rw[h7 hb];unfold stepG.exec;simp only[ai,ι];rfl
theorem aB.qy (ι:b.roundOf=none) (h:aB P Q mn x {ai b t [] with mode:=.returning} cs H):aB P Q mn x (ai b t []) cs H:=by
 refine .still U (λw=>?_) h;rw[h7 hb];unfold stepG.exec;simp only[ai,ι];rfl
end Qe
end
end Go.TL
namespace Go.TL
open Go.Conc
open Go.ConcM (OsLater)
open Go.ConcN (sumTo upd sumTo_upd upd_ne upd_same sumTo_congr le_sumTo)
variable [bh]
def a8 (t:Array Value):Operand->Value
 | .tmp n=>t.getD n undef
 | .const v=>v
 | .global g=>.pointer (some ⟨g,0,none⟩)
 | .func f=>.func (.func f) #[] #[]
theorem xy (b:Frame) (t:Array Value) (k:List Item):(ai b t k).eval=a8 t:=by funext o;cases o<;>rfl
def put (o:Oper) (t:Array Value) (v:Value):Array Value:=match o.dst with|some d=>t.setIfInBounds d v|none=>t
def I7 (P:Program) (Q:Value->Prop) (mn:Bool) (x:fZ) (b:Frame) (t:Array Value) (ops:Array Oper) (i:Nat) (o:Oper) (rest:List Nat) (k:List Item) (cs:List Frame):Next->υ->Prop
 | .value v,H=>aB P Q mn x (ai b (put o t v) (.inRegion ops rest::k)) cs H
 | .skip,H=>aB P Q mn x (ai b (put o t undef) (.inRegion ops rest::k)) cs H
 | .enter f args,H=>aB P Q mn x (Frame.enter P f args .normal) (ai b t (.inRegion ops (i::rest)::k)::cs) H
 | .round l f u2 Al qz,H=>aB P Q mn x (Frame.round l f u2 Al qz .normal) (ai b t (.inRegion ops (i::rest)::k)::cs) H
 | .defer d,H=>aB P Q mn x (ai {b with defers:=d::b.defers} (put o t undef) (.inRegion ops rest::k)) cs H
 | .recover,H=>b.roundOf=none/\match tryRecover (ai b t (.inRegion ops (i::rest)::k)) cs with
  | some (v,cs')=>aB P Q mn x (ai b (put o t v) (.inRegion ops rest::k)) cs' H
  | none=>aB P Q mn x (ai b (put o t .nilIface) (.inRegion ops rest::k)) cs H
 | _,_=>False
section
variable {P:Program} {Q:Value->Prop} {mn:Bool} {x:fZ} {cs:List Frame} {H:υ} {b f:Frame} {t:Array Value} {k:List Item}
theorem dw.sub {G0 G:υ} {w0 w:World} {es es':Array Event} (h:dw G0 w0 G w es) (ν:∀e∈es',e∈es):dw G0 w0 G w es':=⟨h.fit,h.keeps,h.jr,λe he=>h.fx e (ν e he)⟩
theorem ho {b:Frame} {ops:Array Oper} {i:Nat} {o:Oper} {rest:List Nat} {v:Value} (ω:ops[i]?=some o):(ai b t (.inRegion ops (i::rest)::k)).finish v=ai b (put o t v) (.inRegion ops rest::k):=by
 simp only[Frame.finish,ai,ω,Option.bind,put];cases o.dst<;>rfl
theorem aB.unwanted (U:Seq x) (hb:b.mode=.run) {ops:Array Oper} {i:Nat} {o:Oper} {rest:List Nat} (ω:ops[i]?=some o) (hw:Region.wanted o (yielded ops t)=false)
  (h:aB P Q mn x (ai b (put o t undef) (.inRegion ops rest::k)) cs H):aB P Q mn x (ai b t (.inRegion ops (i::rest)::k)) cs H:=by
 refine .still U (f':=ai b (put o t undef) (.inRegion ops rest::k)) (cs':=cs) (λw=>?_) h;rw[h7 hb,<-ho ω];have s0:((ops[i]?).map (Region.wanted · (yielded ops t))).getD false=false:=by simp[ω,hw]
 unfold stepG.exec;simp only[ai,s0];rfl
theorem aB.op (U:Seq x) (hb:b.mode=.run) {ops:Array Oper} {i:Nat} {o:Oper} {rest:List Nat} (ω:ops[i]?=some o) (hw:Region.wanted o (yielded ops t)=true) (hd:b.roundOf=none\/∀c,o.op≠.defer c)
  (h:π P (execOp (a8 t) o) H (I7 P Q mn x b t ops i o rest k cs) (λv H'=>aB P Q mn x {ai b t (.inRegion ops (i::rest)::k) with mode:=.panicking [{v,recovered:=false}]} cs H')) :
  aB P Q mn x (ai b t (.inRegion ops (i::rest)::k)) cs H:=by
 refine .own U λw ab=>?_;obtain⟨H',w',es',hu,g0⟩:=π.sound (P:=P) (G0:=H) (w0:=w) (execOp (a8 t) o) h (dw.start ab);have xz:stepG P mn (Go.Conc.G (ai b t (.inRegion ops (i::rest)::k)) cs) w=stepG.apply P true (ai b t (.inRegion ops (i::rest)::k)) cs none (execOp (a8 t) o) w:=by
  rw[h7 hb];have s0:((ops[i]?).map (Region.wanted · (yielded ops t))).getD false=true:=by simp[ω,hw]
  have he:(ai b t (.inRegion ops (i::rest)::k)).oper?=some o:=by simp[Frame.oper?,ai,ω]
  unfold stepG.exec;simp only[ai,s0,if_true];simp only[ai] at he;unfold stepG.oper;simp only[he];rcases hd with hd|hd
  ·simp only[hd];rw[<-xy b t (.inRegion ops (i::rest)::k)];rfl
  ·cases ι:b.roundOf with
   | none=>rw[<-xy b t (.inRegion ops (i::rest)::k)];rfl
   | some l=>
    cases Θ:o.op<;>first|exact absurd Θ (hd _)|(simp only;rw[<-xy b t (.inRegion ops (i::rest)::k)];rfl)
 rw[xz];generalize fj:(if(ai b t (.inRegion ops (i::rest)::k)).kind==.early then #[] else es')=mC;have iW:∀e∈seen P b.fn mC,e∈es':=λe he=>by
  have:=mem_seen he;rw[<-fj] at this;split at this
  ·simp at this
  ·exact this
 have nm:∀v,(ai b t (.inRegion ops (i::rest)::k)).finish v=ai b (put o t v) (.inRegion ops rest::k):=λv=>ho ω;rcases g0 with⟨fF,dB,I⟩|⟨v,dB,c7⟩
 ·cases fF<;>first|exact I.elim|skip
  case value v=>exact⟨_,_,w',seen P b.fn mC,H',by unfold stepG.apply;simp only[dB,if_true];rw[fj,nm];simp[GStep.after,Go.Conc.G,ai],hu.sub iW,I⟩
  case skip=>exact⟨_,_,w',seen P b.fn mC,H',by unfold stepG.apply;simp only[dB,if_true];rw[fj,nm];simp[GStep.after,Go.Conc.G,ai],hu.sub iW,I⟩
  case enter f args=>exact⟨_,_,w',seen P b.fn mC,H',by unfold stepG.apply;simp only[dB,if_true];rw[fj];simp[GStep.after,Go.Conc.G,ai],hu.sub iW,I⟩
  case round l f u2 Al qz=>exact⟨_,_,w',seen P b.fn mC,H',by unfold stepG.apply;simp only[dB,if_true];rw[fj];simp[GStep.after,Go.Conc.G,ai],hu.sub iW,I⟩
  case defer d=>exact⟨_,_,w',seen P b.fn mC,H',by unfold stepG.apply;simp only[dB,if_true];rw[fj];simp[GStep.after,Go.Conc.G,Frame.finish,ai,put,ω];cases o.dst<;>rfl,hu.sub iW,I⟩
  case recover=>
   obtain⟨bZ,I⟩:=I;cases rK:tryRecover (ai b t (.inRegion ops (i::rest)::k)) cs with
   | none=>
    rw[rK] at I;exact⟨_,_,w',seen P b.fn mC,H',by unfold stepG.apply;simp only[dB,if_true];rw[fj,nm];simp only[ai] at rK ⊢;simp only[bZ];rw[bZ] at rK;rw[rK];simp[GStep.after,Go.Conc.G],hu.sub iW,I⟩
   | some r=>
    obtain⟨v,cs'⟩:=r;rw[rK] at I;exact⟨_,_,w',seen P b.fn mC,H',by unfold stepG.apply;simp only[dB,if_true];rw[fj];simp only[ai] at rK ⊢;simp only[bZ];rw[bZ] at rK;rw[rK];simp[GStep.after,Go.Conc.G];(have e:=nm v;simp only[ai,bZ] at e;exact e),hu.sub iW,I⟩
 ·exact⟨_,_,w',seen P b.fn mC,H',by unfold stepG.apply;simp only[dB,if_true];rw[fj];simp[GStep.after,Go.Conc.G,Frame.raise,ai,hb],hu.sub iW,c7⟩
end
section
variable {P:Program} {Q:Value->Prop} {mn:Bool} {x:fZ} {cs rest:List Frame} {H:υ} {b f c:Frame} {t:Array Value} {k:List Item} {fn:Func}
theorem u3 (hm:f.mode≠.run) (w:World):stepG P mn (Go.Conc.G f cs) w=unwind P mn f cs none w:=by
 obtain⟨a1,bg,cr,fX,rJ,m7,sS⟩:=f;cases rJ with
 | run=>exact absurd rfl hm
 | returning=>rfl
 | panicking ch=>rfl
theorem aB.back (U:Seq x) (hm:f.mode=.returning) (hd:f.defers=[]) (Α:f.kind=.normal\/f.kind=.wrapped) (cA:P.funcs[f.fn]?=some fn)
  (h:π P (results fn f.tmps) H (λv H'=>aB P Q mn x (c.finish v) rest H') (λ_ _=>False)):aB P Q mn x f (c::rest) H:=by
 refine .own U λw ab=>?_;obtain⟨H',w',es',hu,g0⟩:=π.sound (P:=P) (G0:=H) (w0:=w) (results fn f.tmps) h (dw.start ab);rcases g0 with⟨v,dB,I⟩|⟨v,dB,c7⟩
 ·refine⟨_,_,w',seen P f.fn es',H',?_,hu.sub λe he=>mem_seen he,I⟩;rw[u3 (by rw[hm];simp)];unfold unwind;simp only[hd,hm,cA,dB];unfold doReturn;rcases Α with Α|Α<;>simp[Α,GStep.after,Go.Conc.G]
 ·exact c7.elim
theorem aB.Ei (U:Seq x) (hm:f.mode=.returning) (hd:f.defers=[]) (Α:f.kind=.deferred) (cA:P.funcs[f.fn]?=some fn)
  (h:π P (results fn f.tmps) H (λ_ H'=>aB P Q mn x (match c.mode with
   | .panicking ({recovered:=true,..}::Qf)=>(match Qf.dropWhile (!·.goexit) with|[]=>{c with mode:=.returning}|r=>{c with mode:=.panicking r})
   | _=>c) rest H') (λ_ _=>False)):aB P Q mn x f (c::rest) H:=by
 refine .own U λw ab=>?_;obtain⟨H',w',es',hu,g0⟩:=π.sound (P:=P) (G0:=H) (w0:=w) (results fn f.tmps) h (dw.start ab);rcases g0 with⟨v,dB,I⟩|⟨v,dB,c7⟩
 ·refine⟨_,_,w',seen P f.fn es',H',?_,hu.sub λe he=>mem_seen he,I⟩;rw[u3 (by rw[hm];simp)];unfold unwind;simp only[hd,hm,cA,dB];unfold doReturn;simp only[Α,GStep.after];rw[Array.append_empty];rfl
 ·exact c7.elim
theorem aB.deferred (U:Seq x) (hm:f.mode≠.run) {d:Deferred} {ds:List Deferred} (hd:f.defers=d::ds) (η:∀r,d.target≠.collected r) (Ι:d.target≠.nil) {g:FuncId} {args:Array Value}
  (ι:∀w,(invoke d.target d.args).runT P w #[]=(.ok (.enter g args) w,#[])) (h:aB P Q mn x (Frame.enter P g args .deferred) ({f with defers:=ds}::cs) H):aB P Q mn x f cs H:=by
 refine .still U (λw=>?_) h;rw[u3 hm];unfold unwind;obtain⟨u4,as9⟩:=d;simp only at η Ι ι;have key:callDeferred P {f with defers:=ds} cs none ⟨u4,as9⟩ w=.go (Go.Conc.G (Frame.enter P g args .deferred) ({f with defers:=ds}::cs)) w #[]:=by
  unfold callDeferred;simp only[ι w];cases u4<;>first|exact absurd rfl Ι|(simp[GStep.after,seen,Go.Conc.G])
 cases u4 with
 | collected r=>exact absurd rfl (η r)
 | fn a b=>simp only[hd];exact key
 | nil=>exact absurd rfl Ι
 | builtin a b c d=>simp only[hd];exact key
 | coroexit c=>simp only[hd];exact key
theorem aB.raised (U:Seq x) {ch:List PanicEntry} (hm:f.mode=.panicking ch) (hd:f.defers=[]) (Qg:f.catches P=false) (h:aB P Q mn x (c.raise ch) rest H):aB P Q mn x f (c::rest) H:=by
 refine .still U (λw=>?_) h;rw[u3 (by rw[hm];simp)];unfold unwind;simp only[hd,hm,Qg];rfl
theorem aB.done (U:Seq x) (Η:∀y,x y->∀s,fi (y.tok s)) (rL:∀y,x y->y.deaf=0) (hm:f.mode=.returning) (hd:f.defers=[]) (Α:f.kind=.normal) (cA:P.funcs[f.fn]?=some fn) (aY:P.inits.idxOf? f.fn=none) {v:Value}
  (ι:results fn f.tmps=pure v) (Qh:Q v):aB P Q true x f [] H:=by
 intro y ad;refine Goes.stop (λι=>by rw[show({y with G:=H}:aK).rel=y.rel from rfl,U.rel y ad] at ι;cases ι) (.inl ⟨rfl,⟨rfl,rfl⟩,Η y ad,rL y ad,λw ab=>⟨v,#[],?_,λe he=>by simp at he,Qh⟩⟩);rw[u3 (by rw[hm];simp)];unfold unwind;simp only[hd,hm,cA,ι];have:(pure v:Sem Value).runT P w #[]=(.ok v w,#[]):=rfl;simp only[this];unfold doReturn;simp[Α,GStep.after,seen,aY]
end
end Go.TL
namespace Go.TL
open Go.Conc
inductive ζ where
 | z (v:Value)
 | Ω (cells:List ζ)
 | sl (ex:Bool) (k:Nat) (l:List ζ)
 | aR (l:List ζ)
 | bn (l:List ζ)
 | ae (id n i j:Nat)
 | ms (id n i len:Nat)
 | fn (f:Fn) (first captured:List ζ)
 | fc (t:TypeId) (a:ζ)
 | mp (id:Nat)
 | it (id:Nat)
 | ca
 deriving Inhabited
def ζ.cells:ζ->List ζ
 | .aR l=>l
 | a=>[a]
inductive Row where
 | cells (t:TypeId) (k:Nat) (l:List ζ)
 | map (es:List (ζ×ζ))
 | iter (m:Nat) (left:List (ζ×ζ)) (cur:Option (ζ×ζ))
 | dead
 deriving Inhabited
def Row.gn (r:Row) (n:Nat):Prop:=match r with|.cells _ _ l=>n<l.length|_=>True
abbrev aH:=List (Option (Nat×Nat))
abbrev al:=Nat->Nat->Option Value
inductive ah (S:al) (B:aH) (σ:List Row):ζ->Value->Prop where
 | z (v:Value):ah S B σ (.z v) v
 | Ω {cells:List ζ} (b o:Nat) (w:Nat->Value):(∀(j:Nat) (a:ζ),cells[j]?=some a->S b (o+j)=some (w j))->(∀(j:Nat) (a:ζ),cells[j]?=some a->ah S B σ a (w j))->ah S B σ (.Ω cells) (.pointer (some ⟨b,o,none⟩))
 | hN {ex:Bool} {k:Nat} (base:Option Addr) (cap:Nat):(ex=true->cap=0)->ah S B σ (.sl ex k []) (.slice base 0 cap)
 | sl {ex:Bool} {k:Nat} {l:List ζ} (b o cap:Nat) (w:Nat->Nat->Value):(ex=true->cap=l.length)->l.length<=cap->(∀(i:Nat) (e:ζ),l[i]?=some e->e.cells.length=k)->
   (∀(i:Nat) (e:ζ),l[i]?=some e->∀(j:Nat) (c:ζ),e.cells[j]?=some c->S b (o+i*k+j)=some (w i j))->(∀(i:Nat) (e:ζ),l[i]?=some e->∀(j:Nat) (c:ζ),e.cells[j]?=some c->ah S B σ c (w i j))->ah S B σ (.sl ex k l) (.slice (some ⟨b,o,none⟩) l.length cap)
 | aR {l:List ζ} (vs:Array Value):l.length=vs.size->(∀(i:Nat) (a:ζ) (v:Value),l[i]?=some a->vs[i]?=some v->ah S B σ a v)->ah S B σ (.aR l) (.agg vs)
 | bn {l:List ζ} (vs:Array Value):l.length=vs.size->(∀(i:Nat) (a:ζ) (v:Value),l[i]?=some a->vs[i]?=some v->ah S B σ a v)->ah S B σ (.bn l) (.tuple vs)
 | ae {id n i j k:Nat} {t:TypeId} {l:List ζ} {b N:Nat}:σ[id]?=some (.cells t k l)->l.length=n->B[id]?=some (some (b,N))->ah S B σ (.ae id n i j) (.pointer (some ⟨b,i*k+j,none⟩))
 | iD {id n i j:Nat} {r:Row} (v:Value):σ[id]?=some r->r.gn n->ah S B σ (.ae id n i j) v
 | ms {id n i len:Nat} {t:TypeId} {k:Nat} {l:List ζ} {bo:Option (Nat×Nat)} {base:Option Addr} (cap:Nat):σ[id]?=some (.cells t k l)->l.length=n->B[id]?=some bo->i+len<=n->len<=cap->
   (cap=0\/∃b N,bo=some (b,N)/\base=some ⟨b,i*k,none⟩/\(i+cap)*k<=N)->ah S B σ (.ms id n i len) (.slice base len cap)
 | h8 {id n i len:Nat} {r:Row} (v:Value):σ[id]?=some r->r.gn n->ah S B σ (.ms id n i len) v
 | fn {f:Fn} {cP cs:List ζ} (vs ws:Array Value):cP.length=vs.size->cs.length=ws.size->(∀(i:Nat) (a:ζ) (v:Value),cP[i]?=some a->vs[i]?=some v->ah S B σ a v)->(∀(i:Nat) (a:ζ) (v:Value),cs[i]?=some a->ws[i]?=some v->ah S B σ a v)->ah S B σ (.fn f cP cs) (.func f vs ws)
 | fc {t:TypeId} {a:ζ} (v:Value):ah S B σ a v->ah S B σ (.fc t a) (.iface t v)
 | mp {id:Nat} {es:List (ζ×ζ)} {b N:Nat}:σ[id]?=some (.map es)->B[id]?=some (some (b,N))->ah S B σ (.mp id) (.map (some b))
 | ku {id:Nat} (v:Value):σ[id]?=some .dead->ah S B σ (.mp id) v
 | it {id m:Nat} {left:List (ζ×ζ)} {cur:Option (ζ×ζ)} {b N:Nat}:σ[id]?=some (.iter m left cur)->B[id]?=some (some (b,N))->ah S B σ (.it id) (.pointer (some ⟨b,0,none⟩))
 | lY {id:Nat} (v:Value):σ[id]?=some .dead->ah S B σ (.it id) v
 | ca (v:Value):ah S B σ .ca v
def Row.to (r r':Row) (b Ρ:Option (Option (Nat×Nat))):Prop:=
 match r with
 | .cells t k l=>(∃dH,r'=.cells t k dH/\dH.length=l.length/\Ρ=b)\/∀n,n<=l.length->r'.gn n
 | .map _=>(∃es',r'=.map es'/\Ρ=b)\/r'=.dead
 | .iter m _ _=>(∃Ej Ek,r'=.iter m Ej Ek/\Ρ=b)\/r'=.dead
 | .dead=>r'=.dead
structure bQ (S aj:al) (B B':aH) (σ σ':List Row):Prop where
 cX:∀b o v,S b o=some v->aj b o=some v
 rows:∀(id:Nat) (r:Row),σ[id]?=some r->∃r':Row,σ'[id]?=some r'/\r.to r' B[id]? B'[id]?
theorem Row.rM (r:Row) (b:Option (Option (Nat×Nat))):r.to r b b:=by
 cases r with
 | cells t k l=>exact .inl ⟨l,rfl,rfl,rfl⟩
 | map es=>exact .inl ⟨es,rfl,rfl⟩
 | iter m l c=>exact .inl ⟨l,c,rfl,rfl⟩
 | dead=>rfl
theorem bQ.refl (S:al) (B:aH) (σ:List Row):bQ S S B B σ σ:=⟨λ_ _ _ h=>h,λ_ r h=>⟨r,h,r.rM _⟩⟩
theorem Row.El {r r':Row} {b Ρ:Option (Option (Nat×Nat))} {n:Nat} (h:r.to r' b Ρ) (Ι:r.gn n):r'.gn n:=by
 cases r with
 | cells t k l=>
  rcases h with⟨dH,rfl,J,_⟩|h
  ·simp only[Row.gn] at Ι ⊢;omega
  ·exact h n (Nat.le_of_lt Ι)
 | map es=>rcases h with⟨es',rfl,_⟩|rfl<;>trivial
 | iter m l c=>rcases h with⟨dH,c',rfl,_⟩|rfl<;>trivial
 | dead=>cases h;trivial
theorem Row.Qi {r r' Am:Row} {b Ρ I8:Option (Option (Nat×Nat))} (h:r.to r' b Ρ) (k:r'.to Am Ρ I8):r.to Am b I8:=by
 cases r with
 | cells t e l=>
  rcases h with⟨dH,rfl,J,rfl⟩|h
  ·rcases k with⟨Qj,rfl,R,rfl⟩|k
   ·exact .inl ⟨Qj,rfl,R.trans J,rfl⟩
   ·exact .inr λn Ι=>k n (by omega)
  ·exact .inr λn Ι=>Row.El k (h n Ι)
 | map es=>
  rcases h with⟨es',rfl,rfl⟩|rfl
  ·exact k
  ·cases k;exact .inr rfl
 | iter m l c=>
  rcases h with⟨dH,c',rfl,rfl⟩|rfl
  ·exact k
  ·cases k;exact .inr rfl
 | dead=>cases h;exact k
theorem bQ.trans {S aj xA:al} {B B' xB:aH} {σ σ' xC:List Row} (h:bQ S aj B B' σ σ') (k:bQ aj xA B' xB σ' xC):bQ S xA B xB σ xC:=
 ⟨λb o v x=>k.cX b o v (h.cX b o v x),λid r ι=>by
  obtain⟨r',J,R⟩:=h.rows id r ι;obtain⟨Am,ς,Κ⟩:=k.rows id r' J;exact⟨Am,ς,Row.Qi R Κ⟩⟩
theorem ah.later {S aj:al} {B B':aH} {σ σ':List Row} (Β:bQ S aj B B' σ σ') {a:ζ} {v:Value} (h:ah S B σ a v):ah aj B' σ' a v:=by
 induction h with
 | z v=>exact .z v
 | Ω b o w J _ Γ=>exact .Ω b o w (λj a γ=>Β.cX _ _ _ (J j a γ)) Γ
 | hN base cap h=>exact .hN base cap h
 | sl b o cap w J R ς Κ _ Γ=>exact .sl b o cap w J R ς (λi e hi j c γ=>Β.cX _ _ _ (Κ i e hi j c γ)) Γ
 | aR vs J _ Γ=>exact .aR vs J Γ
 | bn vs J _ Γ=>exact .bn vs J Γ
 | ae J R ς=>
  obtain⟨r',Δ,Ε⟩:=Β.rows _ _ J;rcases Ε with⟨dH,rfl,a3,cg⟩|Ε
  ·exact .ae Δ (a3.trans R) (by rw[cg];exact ς)
  ·exact .iD _ Δ (Ε _ (by omega))
 | iD v J R=>
  obtain⟨r',Δ,Ε⟩:=Β.rows _ _ J;exact .iD _ Δ (Row.El Ε R)
 | ms cap J R ς Κ aF aV=>
  obtain⟨r',Δ,Ε⟩:=Β.rows _ _ J;rcases Ε with⟨dH,rfl,a3,cg⟩|Ε
  ·exact .ms cap Δ (a3.trans R) (by rw[cg];exact ς) Κ aF aV
  ·exact .h8 _ Δ (Ε _ (by omega))
 | h8 v J R=>
  obtain⟨r',Δ,Ε⟩:=Β.rows _ _ J;exact .h8 _ Δ (Row.El Ε R)
 | fn vs ws J R _ _ qA k8=>exact .fn vs ws J R qA k8
 | fc v _ Γ=>exact .fc v Γ
 | mp J R=>
  obtain⟨r',Δ,Ε⟩:=Β.rows _ _ J;rcases Ε with⟨es',rfl,cg⟩|rfl
  ·exact .mp Δ (by rw[cg];exact R)
  ·exact .ku _ Δ
 | ku v J=>
  obtain⟨r',Δ,Ε⟩:=Β.rows _ _ J;cases Ε;exact .ku _ Δ
 | it J R=>
  obtain⟨r',Δ,Ε⟩:=Β.rows _ _ J;rcases Ε with⟨dH,c',rfl,cg⟩|rfl
  ·exact .it Δ (by rw[cg];exact R)
  ·exact .lY _ Δ
 | lY v J=>
  obtain⟨r',Δ,Ε⟩:=Β.rows _ _ J;cases Ε;exact .lY _ Δ
 | ca v=>exact .ca v
end Go.TL
