import Derived.Test.YtlabjopijpkiaaaGreatCAE
set_option maxHeartbeats 16000000
set_option maxRecDepth 20000
set_option linter.unusedSectionVars false
set_option linter.unusedSimpArgs false
set_option linter.unusedVariables false
namespace Go.TL
open Go.Conc
open Go.ConcM (OsLater)
open Go.ConcN (sumTo upd sumTo_upd upd_ne upd_same sumTo_congr le_sumTo)
theorem TG (sp:Spec):cT (aV.new sp)=0:=by simp[cT,aV.new]
theorem TH (sp:Spec):mwd (aV.new sp)=0:=by simp[mwd,aV.new]
section
variable {P:Program} {Q:Value->Prop} {bn:World} {c c':dc} {gs:Array Goroutine} {w w':World} {t:Trace} {i:Nat} {g g':Goroutine} {es:Array Event}
variable {f:Bool×Goroutine×a2->gy (Bool×Goroutine×a2)}
theorem Inv.seen (h:Inv P Q bn c gs w t) (Ο:gs[i]?=some g)
  (mem:hq c'.H c'.aN c'.O bn w) (hold:iV c'.H c'.aN c'.O bn.heap.size) (bU:jm c'.H c'.aN c'.tok c'.O c'.bw c'.deaf w.heap.size t)
  (bj:eY gs.size c'.tok c'.spec c'.view c'.rel c'.O c'.bw c'.home) (eF:xJ c'.H c'.tok c'.O) (et:vU gs.size c'.tok c'.rel c'.bw c'.home c'.dJ t) (fW:xK c'.aN c'.tok c'.O c'.rel c'.dJ t)
  (Gy:Rec P Q c' i g) (γ:∀j,j≠i->c'.x j=c.x j/\c'.T j=c.T j) (dH:∀s o,c.O s=some o->c'.O s=some o):Inv P Q bn c' gs w t:=by
 refine⟨h.pos,mem,hold,bU,bj,eF,et,fW,λj b hb=>?_⟩;by_cases e:j=i
 ·subst e;rw[Ο] at hb;cases hb;exact Gy
 ·obtain⟨cQ,J,U⟩:=h.vW j b hb;obtain⟨Γ,Δ⟩:=γ j e;have Ν:c'.tok j=c.tok j:=congrArg a2.tok Γ;refine⟨cQ,by rw[Γ,Δ];exact J,U.imp id λ⟨a1,a9,s,o,cK,gx,h6⟩=>⟨a1,a9,s,o,dH s o cK,by rw[Ν];exact gx,by rw[Ν];exact h6⟩⟩
theorem Inv.TI (h:Inv P Q bn c gs w t) (Ο:gs[i]?=some g) {b:Nat} {cs:Array Value} {ty:TypeId} (hb:c.aN i b=some (cs,ty)) {dj:a2}
  (h4:dj={c.x i with aN:=upd (c.aN i) b none,G:=⟨λΨ o=>if Ψ=b then(cs[o]?).map (·,true) else(c.H (.inl i)).aP Ψ o,λΨ=>if Ψ=b then some (ty,cs.size) else(c.H (.inl i)).row Ψ,(c.H (.inl i)).obj⟩}) (aI:l5 P Q f (i==0) g dj):CM P Q bn c gs w t i f:=by
 let G':Α:=⟨λΨ o=>if Ψ=b then(cs[o]?).map (·,true) else(c.H (.inl i)).aP Ψ o,λΨ=>if Ψ=b then some (ty,cs.size) else(c.H (.inl i)).row Ψ,(c.H (.inl i)).obj⟩;obtain⟨f1,f2,f3⟩:=h.hold.fresh i b _ hb;have L3:=h.mem.mN i b cs ty hb;have CX:∀Ψ o,Ψ≠b->G'.aP Ψ o=(c.H (.inl i)).aP Ψ o:=λΨ o e=>by simp[G',e]
 have TJ:∀o,G'.aP b o=(cs[o]?).map (·,true):=λo=>by simp[G']
 have L4:∀Ψ o,Ψ≠b->(G'.has Ψ o↔(c.H (.inl i)).has Ψ o):=λΨ o e=>by unfold Α.has;rw[CX Ψ o e]
 have L5:∀Ψ o,Ψ≠b->(G'.owns Ψ o↔(c.H (.inl i)).owns Ψ o):=λΨ o e=>by unfold Α.owns;rw[CX Ψ o e]
 have TK:∀Ψ,G'.fg Ψ↔(c.H (.inl i)).fg Ψ:=λΨ=>Iff.rfl
 have L6:∀Ψ,Ψ≠b->(c.H (.inl i)).off Ψ->G'.off Ψ:=λΨ e ψ=>⟨λo aY=>ψ.1 o ((L4 Ψ o e).1 aY),ψ.2⟩
 let c':dc:={c with H:=bO c.H (.inl i) G',aN:=upd c.aN i (upd (c.aN i) b none),T:=upd c.T i (f (i==0,g,dj))}
 have fX:∀j Ψ v,upd c.aN i (upd (c.aN i) b none) j Ψ=some v->c.aN j Ψ=some v/\Ψ≠b:=λj Ψ v hv=>by
  by_cases e:j=i
  ·subst e;rw[upd_same] at hv;by_cases aM:Ψ=b
   ·subst aM;rw[upd_same] at hv;cases hv
   ·rw[upd_ne _ _ aM] at hv;exact⟨hv,aM⟩
  ·rw[upd_ne _ _ e] at hv;exact⟨hv,λaM=>by rw[aM,f3 j e] at hv;cases hv⟩
 have TM:∀s o Ψ,c.O s=some o->ez s o.toSpec Ψ->Ψ≠b:=λs o Ψ ν dV e=>by
  have:=(h.hold.kS s o Ψ ν dV).2.2 i;rw[e,hb] at this;cases this
 have ap:∀k,k≠.inl i->Apart G' (c.H k):=λk χ=>by
  have a:=h.hold.apart _ _ (Ne.symm χ);refine⟨λΨ o x y=>?_,λΨ o x y=>?_,λΨ x y=>a.obj Ψ x y⟩
  ·by_cases e:Ψ=b
   ·subst e;exact(f2 k).1 o y
   ·exact a.aP Ψ o ((L5 Ψ o e).1 x) y
  ·by_cases e:Ψ=b
   ·subst e;exact(f2 k).1 o ⟨_,x.choose_spec⟩
   ·exact a.q8 Ψ o x ((L4 Ψ o e).1 y)
 have oq:c'.x i=dj:=by rw[h4];simp[c',G',dc.x,upd_same]
 refine⟨c',h.seen (c':=c') Ο ⟨λk=>?_,λj Ψ cs' j1 hv=>h.mem.mN j Ψ cs' j1 (fX j Ψ _ hv).1,h.mem.fV,h.mem.keep⟩
  ⟨λk l jK=>?_,λk Ψ o ψ=>?_,λk Ψ ψ=>?_,λj Ψ v hv=>?_,λs o Ψ ν dV=>?_,h.hold.lg,h.hold.p1,λΨ dV=>?_⟩ ⟨h.bU.race,h.bU.low,h.bU.norel,λk=>?_,λj Ψ v hv=>h.bU.o5 j Ψ v (fX j Ψ v hv).1,h.bU.cont,h.bU.hears⟩ h.bj (h.eF.zL λΨ=>jr c.H i G' Ψ) h.et
  ⟨h.fW.jH,λj Ψ v hv=>h.fW.vV j Ψ v (fX j Ψ v hv).1⟩ ⟨g,?_,.inl rfl⟩ (λj δ=>⟨?_,upd_ne _ _ δ⟩) λ_ _ a=>a,_,rfl⟩
 ·show Fits (bO c.H (.inl i) G' k) w;by_cases e:k=.inl i
  ·subst e;rw[dS];have ev:=h.mem.fit (.inl i);refine⟨λΨ o v p ε=>?_,λΨ t' jE ι=>?_,ev.obj⟩
   ·by_cases aM:Ψ=b
    ·subst aM;rw[TJ] at ε;cases γ:cs[o]? with
     | none=>rw[γ] at ε;cases ε
     | some fr=>rw[γ] at ε;cases ε;exact od L3 γ
    ·rw[CX Ψ o aM] at ε;exact ev.aP Ψ o v p ε
   ·by_cases aM:Ψ=b
    ·subst aM;simp[G'] at ι;obtain⟨rfl,rfl⟩:=ι;exact⟨cs,L3,rfl⟩
    ·simp[G',aM] at ι;exact ev.row Ψ t' jE ι
  ·rw[bP _ _ e];exact h.mem.fit k
 ·show Apart (bO c.H (.inl i) G' k) (bO c.H (.inl i) G' l);by_cases e:k=.inl i
  ·subst e;rw[dS,bP _ _ (Ne.symm jK)];exact ap l (Ne.symm jK)
  ·rw[bP _ _ e];by_cases aM:l=.inl i
   ·subst aM;rw[dS];exact(ap k e).symm
   ·rw[bP _ _ aM];exact h.hold.apart k l jK
 ·replace ψ:(bO c.H (.inl i) G' k).owns Ψ o:=ψ
  by_cases e:k=.inl i
  ·subst e;rw[dS] at ψ;by_cases aM:Ψ=b
   ·subst aM;exact f1
   ·exact h.hold.high _ _ _ ((L5 Ψ o aM).1 ψ)
  ·rw[bP _ _ e] at ψ;exact h.hold.high _ _ _ ψ
 ·replace ψ:(bO c.H (.inl i) G' k).fg Ψ:=ψ
  by_cases e:k=.inl i
  ·subst e;rw[dS] at ψ;exact h.hold.oj _ _ ((TK Ψ).1 ψ)
  ·rw[bP _ _ e] at ψ;exact h.hold.oj _ _ ψ
 ·obtain⟨l4,bA⟩:=fX j Ψ v hv;obtain⟨a1,a9,cK⟩:=h.hold.fresh j Ψ v l4;refine⟨a1,λk=>?_,λbJ aH=>?_⟩
  ·show(bO c.H (.inl i) G' k).off Ψ;by_cases e:k=.inl i
   ·subst e;rw[dS];exact L6 Ψ bA (a9 _)
   ·rw[bP _ _ e];exact a9 k
  ·cases γ:c'.aN bJ Ψ with
   | none=>rfl
   | some fr=>have:=(fX bJ Ψ fr γ).1;rw[cK bJ aH] at this;cases this
 ·obtain⟨a1,a9,cK⟩:=h.hold.kS s o Ψ ν dV;have bA:=TM s o Ψ ν dV;refine⟨a1,λk=>?_,λbJ=>?_⟩
  ·show(bO c.H (.inl i) G' k).off Ψ;by_cases e:k=.inl i
   ·subst e;rw[dS];exact L6 Ψ bA (a9 _)
   ·rw[bP _ _ e];exact a9 k
  ·cases γ:c'.aN bJ Ψ with
   | none=>rfl
   | some fr=>have:=(fX bJ Ψ fr γ).1;rw[cK bJ] at this;cases this
 ·show bO c.H (.inl i) G' (.inr Ψ)=Α.empty;rw[jr];exact h.hold.eF Ψ dV
 ·show dy t (j3 c.tok c.O t k) (bO c.H (.inl i) G' k);by_cases e:k=.inl i
  ·subst e;rw[dS];have π:=h.bU.perms (.inl i);refine⟨λΨ o v p ε k a κ ξ hw=>?_,π.obj⟩;by_cases aM:Ψ=b
   ·exfalso;refine h.bU.o5 i b _ hb k a κ ?_;rw[ξ];exact aM
   ·rw[CX Ψ o aM] at ε;exact π.aP Ψ o v p ε k a κ ξ hw
  ·rw[bP _ _ e];exact h.bU.perms k
 ·rw[oq];show j2 P Q (upd c.T i (f (i==0,g,dj)) i) _ _ _;rw[upd_same];exact aI
 ·have gm:(Sum.inl j:cN)≠.inl i:=λx=>δ (by cases x;rfl);simp[c',dc.x,upd_ne _ _ δ,bP _ _ gm]
theorem Inv.less (h:Inv P Q bn c gs w t) (Ο:gs[i]?=some g) {G':Α} (ν:Sub G' (c.H (.inl i))) (aI:l5 P Q f (i==0) g {c.x i with G:=G'}):CM P Q bn c gs w t i f:=by
 let dj:a2:={c.x i with G:=G'}
 let c':dc:={c with H:=bO c.H (.inl i) G',T:=upd c.T i (f (i==0,g,dj))}
 have oq:c'.x i=dj:=by simp[c',dj,dc.x]
 have TN:upd c.aN i (c.aN i)=c.aN:=CK rfl
 have hm:=h.mem.own h.hold i (fI.refl _ _ w) (ν.fits (h.mem.fit (.inl i))) (h.mem.mN i) rfl
 have aY:=h.hold.own h.mem h.mem.keep.size i (G':=G') (V':=c.aN i) ⟨λb o v p ε=>.inr (let ⟨fL,an,π⟩:=ν.aP b o v p ε;⟨v,fL,an,π⟩),λb hb=>.inr (ν.fg hb)⟩ (λb x γ=>.inl γ);rw[TN] at hm aY;refine⟨c',h.seen (c':=c') Ο hm aY ⟨h.bU.race,h.bU.low,h.bU.norel,λk=>?_,h.bU.o5,h.bU.cont,h.bU.hears⟩ h.bj (h.eF.zL λΨ=>jr c.H i G' Ψ) h.et h.fW ⟨g,?_,.inl rfl⟩ (λj δ=>⟨?_,upd_ne _ _ δ⟩) λ_ _ a=>a,_,rfl⟩
 ·show dy t (j3 c.tok c.O t k) (bO c.H (.inl i) G' k);by_cases e:k=.inl i
  ·subst e;rw[dS];exact(h.bU.perms (.inl i)).sub ν
  ·rw[bP _ _ e];exact h.bU.perms k
 ·rw[oq];show j2 P Q (upd c.T i (f (i==0,g,dj)) i) _ _ _;rw[upd_same];exact aI
 ·have gm:(Sum.inl j:cN)≠.inl i:=λx=>δ (by cases x;rfl);simp[c',dc.x,bP _ _ gm]
theorem Inv.group (h:Inv P Q bn c gs w t) (Ο:gs[i]?=some g) {s:Nat} {sp:Spec} {ty:TypeId} {G' E:Α} (ν:c.aN i s=some (#[.int .u64 0,.int .u32 0],ty)) (fA:∀m,sp.aZ=some m->m≠s/\∃j1,c.aN i m=some (#[.int .i32 0,.int .u32 0],j1))
  (eu:c.rel i=false) (b7:Split (c.H (.inl i)) G' E) (cR:sp.aZ≠none->sp.ar [] E) {dj:a2}
  (h4:dj={c.x i with G:=G',aN:=λb=>if b=s\/sp.aZ=some b then none else c.aN i b,tok:=upd (c.tok i) s (.par 0 0 .add),spec:=upd (c.spec i) s (some sp),view:=upd (c.view i) s none}) (aI:l5 P Q f (i==0) g dj):CM P Q bn c gs w t i f:=by
 have bf:i<gs.size:=mW Ο
 have CY:c.O s=none:=by
  cases γ:c.O s with
  | none=>rfl
  | some o=>have:=(h.hold.kS s o s γ (.inl rfl)).2.2 i;rw[ν] at this;cases this
 have g8:∀b,ez s sp b->∃v,c.aN i b=some v:=λb hb=>by
  rcases hb with rfl|hb
  ·exact⟨_,ν⟩
  ·obtain⟨_,j1,J⟩:=fA b hb;exact⟨_,J⟩
 have mY:∀r o b,c.O r=some o->ez r o.toSpec b->¬ez s sp b:=λr o b ι hb dV=>by
  obtain⟨v,hv⟩:=g8 b dV;have:=(h.hold.kS r o b ι hb).2.2 i;rw[hv] at this;cases this
 have kB:∀r o,c.O r=some o->r≠s:=λr o ι e=>by rw[e,CY] at ι;cases ι
 let V':Nat->Option (Array Value×TypeId):=λb=>if b=s\/sp.aZ=some b then none else c.aN i b
 let O':=upd c.O s (some (aV.new sp))
 have fX:∀j b v,upd c.aN i V' j b=some v->c.aN j b=some v/\¬ez s sp b:=λj b v hv=>by
  by_cases e:j=i
  ·subst e;rw[upd_same] at hv;by_cases aM:b=s\/sp.aZ=some b
   ·simp[V',aM] at hv
   ·simp[V',aM] at hv;exact⟨hv,aM⟩
  ·rw[upd_ne _ _ e] at hv;refine⟨hv,λhb=>?_⟩;obtain⟨fr,l4⟩:=g8 b hb;have:=(h.hold.fresh i b fr l4).2.2 j e;rw[this] at hv;cases hv
 have L7:∀j b,c.aN j b=none->upd c.aN i V' j b=none:=λj b e=>by
  cases γ:upd c.aN i V' j b with
  | none=>rfl
  | some v=>have:=(fX j b v γ).1;rw[e] at this;cases this
 have TO:∀j b,ez s sp b->upd c.aN i V' j b=none:=λj b hb=>by
  cases γ:upd c.aN i V' j b with
  | none=>rfl
  | some v=>exact absurd hb (fX j b v γ).2
 have hr:∀r q,O' r=some q->(r=s/\q=aV.new sp)\/(r≠s/\c.O r=some q):=λr q Ξ=>by
  by_cases e:r=s
  ·subst e;rw[show O' r=some (aV.new sp) from upd_same ..] at Ξ;cases Ξ;exact .inl ⟨rfl,rfl⟩
  ·rw[show O' r=c.O r from upd_ne _ _ e] at Ξ;exact .inr ⟨e,Ξ⟩
 have holdA:iV c.H (upd c.aN i V') O' bn.heap.size:=by
  refine⟨h.hold.apart,h.hold.high,h.hold.oj,λj b v hv=>?_,λr o b ι hb=>?_,λr r' o o' b ι ft hb dV=>?_,λr o m ι hm=>?_,λb hb=>h.hold.eF b λr o ι hi=>hb r o (by rw[show O' r=c.O r from upd_ne _ _ (kB r o ι)];exact ι) hi⟩
  ·obtain⟨a1,a9,cK⟩:=h.hold.fresh j b v (fX j b v hv).1;exact⟨a1,a9,λbJ aH=>L7 bJ b (cK bJ aH)⟩
  ·rcases hr r o ι with⟨rfl,rfl⟩|⟨e,ft⟩
   ·obtain⟨v,hv⟩:=g8 b hb;obtain⟨a1,a9,_⟩:=h.hold.fresh i b v hv;exact⟨a1,a9,λj=>TO j b hb⟩
   ·obtain⟨a1,a9,cK⟩:=h.hold.kS r o b ft hb;exact⟨a1,a9,λj=>L7 j b (cK j)⟩
  ·rcases hr r o ι with⟨rfl,rfl⟩|⟨e,sJ⟩<;>rcases hr r' o' ft with⟨rfl,rfl⟩|⟨aM,xU⟩
   ·rfl
   ·exact absurd hb (mY r' o' b xU dV)
   ·exact absurd dV (mY r o b sJ hb)
   ·exact h.hold.lg r r' o o' b sJ xU hb dV
  ·rcases hr r o ι with⟨rfl,rfl⟩|⟨e,ft⟩
   ·exact(fA m hm).1
   ·exact h.hold.p1 r o m ft hm
 have L8:O' s=some (aV.new sp):=upd_same ..
 have L9:c.H (.inr s)=Α.empty:=h.hold.eF s λr o ι hi=>mY r o s ι hi (.inl rfl)
 have mT:∀r q,O' r=some q->At r q w:=λr q Ξ=>by
  rcases hr r q Ξ with⟨rfl,rfl⟩|⟨_,cl⟩
  ·refine⟨⟨ty,?_⟩,λm hm=>let ⟨_,j1,hv⟩:=fA m hm;⟨j1,?_⟩⟩
   ·rw[TG];exact h.mem.mN i r _ _ ν
   ·rw[TH];exact h.mem.mN i m _ _ hv
  ·exact h.mem.fV _ _ cl
 obtain⟨bH,j7,jL,GI,ln,GJ,GK,GL⟩:∃bH:cN->Α,bH (.inl i)=G'/\(∀j,j≠i->bH (.inl j)=c.H (.inl j))/\(∀b,¬ez s sp b->bH (.inr b)=c.H (.inr b))/\(bH (.inr s)=Α.empty/\∀m,sp.aZ=some m->bH (.inr m)=E)/\
   iV bH (upd c.aN i V') O' bn.heap.size/\hq bH (upd c.aN i V') O' bn w/\∀a,dy t (j3 (b' c.tok i s (.par 0 0 .add)) O' t a) (bH a):=by
  have xS:=h.bU.perms (.inl i)
  have L':∀a,(∀b,a=.inr b->¬ez s sp b)->dy t (j3 (b' c.tok i s (.par 0 0 .add)) O' t a) (c.H a):=λa κ=>by
   refine(h.bU.perms a).mono λk χ=>?_;cases a with
   | inl j=>exact χ
   | inr b=>
    refine χ.imp id λχ r o ι hb j δ=>?_;rcases hr r o ι with⟨rfl,rfl⟩|⟨e,ft⟩
    ·exact absurd hb (κ b rfl)
    ·rw[e8 _ (λx=>e x.2)] at δ;exact χ r o ft hb j δ
  have Ma:hq c.H (upd c.aN i V') c.O bn w:=h.mem.xQ λj b v hv=>(fX j b v hv).1
  have h7:(Sum.inl i:cN)≠.inr s:=ζ;cases hm:sp.aZ with
  | none=>
   refine⟨bO (bO c.H (.inl i) G') (.inr s) Α.empty,?_,λj δ=>?_,λb hb=>?_,⟨dS ..,λm e=>(by cases e)⟩,?_,Ma.two (b7.l.fits (h.mem.fit (.inl i))) (vR w) mT,λa=>?_⟩
   ·rw[bP _ _ h7,dS]
   ·rw[bP _ _ ζ,bP _ _ (λe=>δ (by cases e;rfl))]
   ·have:(Sum.inr b:cN)≠.inr s:=λe=>hb (by cases e;exact .inl rfl);rw[bP _ _ this,jr]
   ·exact holdA.two h7 b7.l.rj (Sub.empty _) (Apart.um _) ⟨λs o ν=>⟨o,ν,rfl⟩,λs o ν=>⟨o,ν,rfl⟩⟩ λx γ=>by
     rcases γ with e|e
     ·cases e;exact⟨s,_,L8,.inl rfl⟩
     ·cases e
   ·by_cases Δ:a=.inr s
    ·subst Δ;rw[dS];exact dy.empty
    ·rw[bP _ _ Δ];by_cases Γ:a=.inl i
     ·subst Γ;rw[dS];exact xS.sub b7.l
     ·rw[bP _ _ Γ];refine L' a λb e hb=>?_;subst e;rcases hb with rfl|hb
      ·exact Δ rfl
      ·rw[hm] at hb;cases hb
  | some m=>
   have sI:=(fA m hm).1
   have gm:(Sum.inl i:cN)≠.inr m:=ζ;refine⟨bO (bO c.H (.inl i) G') (.inr m) E,?_,λj δ=>?_,λb hb=>?_,⟨?_,λcb e=>?_⟩,?_,Ma.two (b7.l.fits (h.mem.fit (.inl i))) (b7.r.fits (h.mem.fit (.inl i))) mT,λa=>?_⟩
   ·rw[bP _ _ gm,dS]
   ·rw[bP _ _ ζ,bP _ _ (λe=>δ (by cases e;rfl))]
   ·have:(Sum.inr b:cN)≠.inr m:=λe=>hb (by cases e;exact .inr hm);rw[bP _ _ this,jr]
   ·have:(Sum.inr s:cN)≠.inr m:=λe=>sI (by cases e;rfl);rw[bP _ _ this,jr];exact L9
   ·cases e;rw[dS]
   ·exact holdA.two gm b7.l.rj b7.r.rj b7.apart ⟨λs o ν=>⟨o,ν,rfl⟩,λs o ν=>⟨o,ν,rfl⟩⟩ λx γ=>by
     rcases γ with e|e
     ·cases e;exact⟨s,_,L8,.inr hm⟩
     ·cases e
   ·by_cases Δ:a=.inr m
    ·subst Δ;rw[dS];refine(xS.sub b7.r).mono λk χ=>.inr λr o ι hb j δ=>?_;rcases hr r o ι with⟨rfl,rfl⟩|⟨e,ft⟩
     ·by_cases e:j=i
      ·subst e;exact χ
      ·rw[sG _ e,h.bj.bare r CY j] at δ;exact absurd rfl δ
     ·exact absurd (.inr hm) (mY r o m ft hb)
    ·rw[bP _ _ Δ];by_cases Γ:a=.inl i
     ·subst Γ;rw[dS];exact xS.sub b7.l
     ·rw[bP _ _ Γ];by_cases a4:a=.inr s
      ·subst a4;rw[L9];exact dy.empty
      ·refine L' a λb e hb=>?_;subst e;rcases hb with rfl|hb
       ·exact a4 rfl
       ·rw[hm] at hb;cases hb;exact Δ rfl
 let c':dc:={c with H:=bH,aN:=upd c.aN i V',tok:=b' c.tok i s (.par 0 0 .add),spec:=upd c.spec i (upd (c.spec i) s (some sp)),view:=upd c.view i (upd (c.view i) s none),O:=O',bw:=upd c.bw s i,T:=upd c.T i (f (i==0,g,dj))}
 have oq:c'.x i=dj:=by rw[h4];simp[c',V',dc.x,upd_same,vZ,j7]
 have qa:∀j r,r≠s->b' c.tok i s (.par 0 0 .add) j r=c.tok j r:=λj r ι=>e8 _ λx=>ι x.2
 have sE:∀j,j≠0->c.rel j=true->c.home j≠s:=λj an δ e=>by
  obtain⟨op,a1,a9,_⟩:=h.et.c1 j an δ;have e2:=h.et.dY (c.dJ j) j (by simp[Trace.g?,a1,a9]);obtain⟨k,m,g,χ⟩:=h.bj.sB j an e2;rw[e,h.bj.bare s CY j] at χ;cases χ
 refine⟨c',h.seen (c':=c') Ο GK GJ ⟨h.bU.race,h.bU.low,h.bU.norel,GL,λj b v hv=>h.bU.o5 j b v (fX j b v hv).1,λr o b ι hb k a κ fs=>?_,h.bU.hears⟩ (h.bj.Tx CY bf eu sp) ⟨λr q m Ξ hm cm iX=>?_,λr q Ξ cm=>?_⟩
  ⟨h.et.dY,h.et.c1,λj an δ cm=>?_,λj an δ a b=>?_⟩ ⟨λr q m Ξ hm p op π κ=>?_,λj b v hv=>h.fW.vV j b v (fX j b v hv).1⟩ ⟨g,?_,.inl rfl⟩ (λj δ=>⟨?_,upd_ne _ _ δ⟩) (λr o ι=>?_),_,rfl⟩
 ·rcases hr r o ι with⟨rfl,rfl⟩|⟨e,ft⟩
  ·obtain⟨v,hv⟩:=g8 b hb;exact absurd fs (h.bU.o5 i b v hv k a κ)
  ·have:=h.bU.cont r o b ft hb k a κ fs
   show _\/(_/\_=some (upd c.bw s i r));rw[upd_ne _ _ e];exact this
 ·rcases hr r q Ξ with⟨rfl,rfl⟩|⟨e,cl⟩
  ·show sp.ar [] (bH (.inr m));rw[ln.2 m hm];exact cR (by have:sp.aZ=some m:=hm;rw[this];simp)
  ·show q.ar q.L (bH (.inr m));rw[GI m (mY r q m cl (.inr hm))];exact h.eF.p6 r q m cl hm (λj jJ p x=>cm j jJ p (by show b' c.tok i s _ j r=_;rw[qa j r e];exact x)) λj k L g x=>iX j k L g (by show b' c.tok i s _ j r=_;rw[qa j r e];exact x)
 ·rcases hr r q Ξ with⟨rfl,rfl⟩|⟨e,cl⟩
  ·show lZ sp.D [] (bH (.inr r));rw[ln.1];rfl
  ·show lZ q.D q.ak (bH (.inr r));rw[GI r (mY r q r cl (.inl rfl))];exact h.eF.mR r q cl λj jJ p x=>cm j jJ p (by show b' c.tok i s _ j r=_;rw[qa j r e];exact x)
 ·obtain⟨q,p,Ξ⟩:=cm;have e:=sE j an δ;have CZ:c'.bw (c.home j)=c.bw (c.home j):=upd_ne _ _ e;show Knows t (c'.bw (c.home j)) (c.dJ j);rw[CZ];refine h.et.c2 j an δ ⟨q,p,?_⟩;have:b' c.tok i s (.par 0 0 .add) (c'.bw (c.home j)) (c.home j)=.par q p .bm:=Ξ
  rwa [qa _ _ e,CZ] at this
 ·have e:=sE j an δ
  have CZ:c'.bw (c.home j)=c.bw (c.home j):=upd_ne _ _ e
  show Before t (c.dJ j) (c.dJ (c'.bw (c.home j)))
  have bT:c'.bw (c.home j)≠0:=a
  have Ψ:c.rel (c'.bw (c.home j))=true:=b;rw[CZ] at bT Ψ ⊢;exact h.et.c3 j an δ bT Ψ
 ·rcases hr r q Ξ with⟨rfl,rfl⟩|⟨e,cl⟩
  ·obtain⟨v,hv⟩:=g8 m (.inr hm);exact absurd κ (h.fW.vV i m v hv op (mem_of_getElem? π))
  ·obtain⟨⟨k,mu,g,μ⟩,Ε⟩:=h.fW.jH r q m cl hm p op π κ;exact⟨⟨k,mu,g,by show b' c.tok i s _ _ r=_;rw[qa _ r e];exact μ⟩,Ε⟩
 ·rw[oq];show j2 P Q (upd c.T i (f (i==0,g,dj)) i) _ _ _;rw[upd_same];exact aI
 ·simp[c',dc.x,upd_ne _ _ δ,sG _ δ,jL j δ]
 ·show O' r=some o;rw[show O' r=c.O r from upd_ne _ _ (kB r o ι)];exact ι
theorem Inv.ghost (h:Inv P Q bn c gs w t) (Ο:gs[i]?=some g) (χ:Gf (i==0) (l5 P Q f) g (c.x i)):CM P Q bn c gs w t i f:=by
 rcases χ with⟨G',J,U⟩|⟨b,cs,ty,J,U⟩|⟨s,sp,ty,G',E,J,μ,Ε,au,bd,g7⟩
 ·exact h.less Ο J U
 ·exact h.TI Ο J rfl U
 ·exact h.group Ο J μ Ε au bd rfl g7
end
section
variable {P:Program} {Q:Value->Prop} {bn:World} {c c':dc} {gs:Array Goroutine} {w w':World} {t:Trace} {i:Nat} {g g':Goroutine} {es:Array Event}
theorem Inv.step (h:Inv P Q bn c gs w t) (Ο:gs[i]?=some g) (eh:g.status=.running):(∃v es,i=0/\stepG P true g w=.ended (.done v) w es/\∀sl w1,Good P (λv w'=>Q v/\fI (λ_ _=>False) (λ_=>False) bn w') (crowd gs w1 sl) (.done v) w (t++MemOp.ofEvents 0 g.frame.fn g.frame.place es))\/
  ∃f,c.T i=.node f/\(ix P Q bn c gs w t i f\/Gf (i==0) (l5 P Q f) g (c.x i)):=by
 obtain⟨cQ,ι,ε⟩:=h.vW i g Ο;rcases ε with rfl|⟨_,rfl,_⟩
 ·have main:Cv P (i==0) g (c.x i) Q->(∃v es,i=0/\stepG P true g w=.ended (.done v) w es/\∀sl w1,Good P (λv w'=>Q v/\fI (λ_ _=>False) (λ_=>False) bn w') (crowd gs w1 sl) (.done v) w (t++MemOp.ofEvents 0 g.frame.fn g.frame.place es)):=λν=>by
   rcases ν with⟨an,ν⟩|⟨_,ν⟩
   ·have e:i=0:=by simpa using an
    subst e;obtain⟨v,es,J,U⟩:=h.Lz Ο ν none w;refine⟨v,es,rfl,J,λsl w1=>?_⟩;obtain⟨fr,es',xV,hI⟩:=h.Lz Ο ν sl w1;rw[J] at xV;cases xV;exact hI
   ·rw[ν.2.2.1] at eh;cases eh
  cases Ι:c.T i with
  | leaf=>rw[Ι] at ι;exact .inl (main ι.2)
  | node f=>
   have ft:=ι;rw[Ι] at ι;rcases ι.2 with ν|χ
   ·exact .inl (main ν)
   ·refine .inr ⟨f,rfl,?_⟩;rcases χ with χ|⟨GQ,χ⟩
    ·exact .inl (h.quits Ο χ)
    ·rcases χ with χ|χ|χ|χ|χ|χ|χ|χ|χ|χ
     ·exact .inl (h.Gk Ο χ)
     ·exact .inl (h.S2 Ο χ)
     ·exact .inl (h.S3 Ο χ)
     ·exact .inl (h.atom Ο GQ ft χ)
     ·exact .inl (h.CO Ο χ)
     ·exact .inl (h.GD Ο χ)
     ·exact .inl (h.GF Ο χ)
     ·exact .inl (h.CP Ο χ)
     ·exact .inl (h.GP Ο χ)
     ·exact .inr χ
 ·cases eh
theorem Inv.TP (h:Inv P Q bn c gs w t):∀g∈gs,Go.Conc.awake g:=λg Ο=>by
 obtain⟨j,δ⟩:=Array.mem_iff_getElem?.1 Ο;intro t' Ν;rcases h.stat δ with e|⟨_,e,_⟩|⟨e,_⟩<;>rw[e] at Ν<;>cases Ν
theorem Inv.comes:∀(L:List (gy (Bool×Goroutine×a2))) (k:Nat) (c:dc) (j6:List Nat) (gs:Array Goroutine) (w:World) (t:Trace) (sl:Option (Nat×Nat)),j6.map c.T=L->Ord j6 gs.size->xL gs=k->Inv P Q bn c gs w t->Comes P Q bn (crowd gs w sl) t:=by
 intro L
 induction L using (nC.wf (B:=Bool×Goroutine×a2)).induction with
 | _ L GR=>
  intro k
  induction k using Nat.strongRecOn with
  | _ k sK=>
   intro c j6 gs w t sl ai dH χ h;subst ai χ;obtain⟨i,g,d,zW,Ο,eh,cH⟩:=crowd_pick (P:=P) (w:=w) (sl:=sl) h.TP h.awake;have c9:=h.at d;have bf:i<gs.size:=mW Ο;rcases c9.step Ο eh with⟨v,es,rfl,J,U⟩|⟨f,Ι,GU⟩
   ·have ι:=runT_many_ended (sl:=zW) Ο (by simpa using J);rw[ι] at cH;exact Comes.last cH (U sl w)
   ·rcases GU with GU|TQ
    ·obtain⟨c',rp,w',u,ι,dP,iy⟩:=GU zW;rw[ι] at cH;refine Comes.next cH ?_;rcases iy with⟨cv,kk,rm⟩|⟨cv,kk,GV,rm⟩|⟨cv,rm,aO⟩
     ·exact GR _ (by rw[rm];exact dH.one bf Ι kk) _ c' j6 rp w' _ zW rfl (by rw[cv];exact dH) rfl dP
     ·obtain⟨CJ,TR,TS⟩:=dH.two bf Ι kk GV;exact GR _ (by rw[rm];exact TS) _ c' CJ rp w' _ zW rfl (by rw[cv];exact TR) rfl dP
     ·exact sK _ aO c' j6 rp w' _ zW (by rw[rm]) (by rw[cv];exact dH) rfl dP
    ·
     obtain⟨c',dP,kk,rm⟩:=h.ghost (f:=f) Ο TQ;exact GR _ (by rw[rm];exact dH.one bf Ι kk) _ c' j6 gs w t sl rfl dH rfl dP
end
def Α.l7 (w:World):Α:=
 ⟨λb o=>match w.heap[b]? with|some (.cells c _ _)=>(c[o]?).map (·,false)|_=>none,
  λb=>match w.heap[b]? with|some (.cells c t ef)=>if ef=(0,0) then some (t,c.size) else none|_=>none,λ_=>none⟩
theorem Α.TT (w:World):Fits (Α.l7 w) w:=by
 refine⟨λb o v p h=>?_,λb t n h=>?_,λb x h=>(by cases h)⟩
 ·simp only[Α.l7] at h;cases hb:w.heap[b]? with
  | none=>rw[hb] at h;cases h
  | some x=>
   rw[hb] at h;cases x with
   | cells c t ef=>
    simp only at h;cases ε:c[o]? with
    | none=>rw[ε] at h;cases h
    | some fr=>rw[ε] at h;cases h;exact od hb ε
   | _=>cases h
 ·simp only[Α.l7] at h;cases hb:w.heap[b]? with
  | none=>rw[hb] at h;cases h
  | some x=>
   rw[hb] at h;cases x with
   | cells c t' ef=>
    simp only at h;split at h
    ·rename_i e;cases h;exact⟨c,by rw[e],rfl⟩
    ·cases h
   | _=>cases h
theorem Α.TU (w:World) (b o:Nat):¬(Α.l7 w).owns b o:=λ⟨v,h⟩=>by
 simp only[Α.l7] at h;cases hb:w.heap[b]? with
 | none=>rw[hb] at h;cases h
 | some x=>
  rw[hb] at h;cases x with
  | cells c t ef=>
   simp only at h;cases ε:c[o]? with
   | none=>rw[ε] at h;cases h
   | some fr=>rw[ε] at h;cases h
  | _=>cases h
def a2.start (w:World):a2:=⟨Α.l7 w,λ_=>none,λ_=>.nil,λ_=>none,λ_=>none,0,false⟩
theorem Goes.comes {P:Program} {Q:Value->Prop} {g:Goroutine} {w:World} (h:Goes P Q true g (a2.start w)):Comes P Q w (solo g w) #[]:=by
 obtain⟨T,Ι⟩:=h;let c:dc:={H:=bO (λ_=>Α.empty) (.inl 0) (Α.l7 w),aN:=λ_ _=>none,tok:=λ_ _=>.nil,spec:=λ_ _=>none,view:=λ_ _=>none,deaf:=λ_=>0,rel:=λ_=>false,T:=λ_=>T,O:=λ_=>none,bw:=λ_=>0,home:=λ_=>0,dJ:=λ_=>0};have γ:c.x 0=a2.start w:=by simp[c,dc.x,a2.start]
 have Β:∀k,k≠.inl 0->c.H k=Α.empty:=λk χ=>bP (λ_=>Α.empty) (Α.l7 w) χ
 have sL:c.H (.inl 0)=Α.l7 w:=dS (λ_=>Α.empty) (.inl 0) (Α.l7 w)
 have GW:∀k b o,¬(c.H k).owns b o:=λk b o ψ=>by
  by_cases e:k=.inl 0
  ·subst e;rw[sL] at ψ;exact Α.TU w b o ψ
  ·rw[Β k e] at ψ;obtain⟨v,hv⟩:=ψ;cases hv
 have Mb:∀k b,¬(c.H k).fg b:=λk b ψ=>by
  by_cases e:k=.inl 0
  ·subst e;rw[sL] at ψ;obtain⟨v,hv⟩:=ψ;cases hv
  ·rw[Β k e] at ψ;obtain⟨v,hv⟩:=ψ;cases hv
 have hΘ:∀i:Nat,(#[]:Trace)[i]?=none:=λi=>ζ
 have cv:(#[g]:Array Goroutine).size=1:=rfl
 have inv:Inv P Q w c #[g] w #[]:=by
  refine⟨ζ,⟨λk=>?_,λj b c t hb=>(by cases hb),λs o ν=>(by cases ν),fI.refl _ _ _⟩,
   ⟨λk l _=>⟨λb o ψ=>absurd ψ (GW k b o),λb o ψ=>absurd ψ (GW l b o),λb ψ=>absurd ψ (Mb k b)⟩,λk b o ψ=>absurd ψ (GW k b o),λk b ψ=>absurd ψ (Mb k b),λj b v hv=>(by cases hv),λs o b ν=>(by cases ν),λs bk o o' b ν=>(by cases ν),λs o m ν=>(by cases ν),λb _=>Β _ ζ⟩,
   ⟨λsaid ⟨i,j,_,⟨a,b,κ,_⟩,_⟩=>(by simp[Trace.act?] at κ),λop Μ=>(by simp at Μ),λop Μ=>(by simp at Μ),λk=>⟨λb o v p _ i a κ=>(by simp[touchAt,Trace.act?] at κ),λb _ i a κ=>(by simp[touchAt,Trace.act?] at κ)⟩,λj b v hv=>(by cases hv),λs o b ν=>(by cases ν),λj=>rfl⟩,
   ?_,⟨λs o m ν=>(by cases ν),λs o ν=>(by cases ν)⟩,⟨λk a χ=>(by simp[Trace.g?] at χ),λj _ δ=>(by cases δ),λj _ δ=>(by cases δ),λj _ δ=>(by cases δ)⟩,⟨λs o m ν=>(by cases ν),λj b v hv=>(by cases hv)⟩,λj b hb=>?_⟩
  ·by_cases e:k=.inl 0
   ·subst e;rw[sL];exact Α.TT w
   ·rw[Β k e];exact vR w
  ·exact⟨λs o ν=>(by cases ν),λs _ j=>rfl,λj s _=>rfl,λj s sp ν=>(by cases ν),λj s φ o ν=>(by cases ν),λj s k L g o ν=>(by cases ν),λj s m p aQ ν=>(by cases ν),λj s k m g ν=>(by cases ν),λj an δ=>(by rw[cv] at δ;omega),λj k m g _ ν=>(by cases ν),rfl,λj s ν=>(by cases ν),λj s k m g o ν=>(by cases ν),λs j bJ k m g cb g' ν=>(by cases ν),λs j k m g q p aQ ν=>(by cases ν),λs o ν=>(by cases ν),λs o ν=>(by cases ν)⟩
  ·have δ:j=0:=by have:=mW hb;rw[cv] at this;omega
   subst δ;simp at hb;subst hb;exact⟨g,by rw[γ];exact Ι,.inl rfl⟩
 rw[solo_eq_crowd];exact Inv.comes _ _ c [0] #[g] w #[] none rfl ⟨ζ,λi=>ζ⟩ rfl inv
def Α.fresh (G:Α) (r:Nat):Prop:=(∀o,G.aP r o=none)/\G.row r=none/\G.obj r=none/\∀b,r<b->(∀o,G.aP b o=none)/\G.row b=none/\G.obj b=none
def Α.v7 (G:Α) (a:Addr) (v:Value):Α:={G with aP:=λb o=>if b=a.block/\o=a.off then some (v,true) else G.aP b o}
def Α.dL (G:Α) (r:Nat) (c:Array Value) (t:TypeId):Α:=⟨λb o=>if b=r then(c[o]?).map (·,true) else G.aP b o,λb=>if b=r then some (t,c.size) else G.row b,G.obj⟩
def Α.bK (G:Α) (r:Nat) (x:Obj):Α:={G with obj:=λb=>if b=r then some x else G.obj b}
def One:Value->Prop
 | .agg _|.tuple _=>False
 | _=>True
def ς {α:Type} (P:Program):Sem α->Α->(α->Α->Prop)->(Value->Α->Prop)->Prop
 | .pure a,G,K,_=>K a G
 | .load m a k,G,K,E=>m=.plain/\a.spot=none/\∃v p,G.aP a.block a.off=some (v,p)/\ς P (k v) G K E
 | .store m a v k,G,K,E=>m=.plain/\a.spot=none/\G.owns a.block a.off/\(∃t n,G.row a.block=some (t,n))/\One v/\ς P k (G.v7 a v) K E
 | .new (.cells c t ef) k,G,K,E=>ef=(0,0)/\∀r,G.fresh r->ς P (k r) (G.dL r c t) K E
 | .new o k,G,K,E=>∀r,G.fresh r->ς P (k r) (G.bK r o) K E
 | .shape r k,G,K,E=>∃t n,G.row r=some (t,n)/\ς P (k (some (t,n))) G K E
 | .freeze _ _ _,_,_,_=>False
 | .frozen a k,G,K,E=>(∃t n,G.row a.block=some (t,n))/\ς P (k false) G K E
 | .getObj r k,G,K,E=>∃o,G.obj r=some o/\o.isChan=false/\ς P (k o) G K E
 | .setObj r o k,G,K,E=>G.fg r/\Obj.sw o=false/\o.isChan=false/\ς P k (G.bK r o) K E
 | .choose q k,G,K,E=>if q.forced then ς P (k 0) G K E else ∀n,ς P (k (q.cut n)) G K E
 | .sys _ _,_,_,_=>False
 | .program k,G,K,E=>ς P (k P) G K E
 | .mark m k,G,K,E=>m=.noRoom/\ς P k G K E
 | .halt (.panic v),G,_,E=>E v G
 | .halt _,_,_,_=>False
structure ec (G0:Α) (w0:World) (G:Α) (w:World) (es:Array Event):Prop where
 fit:Fits G w
 keeps:fI G0.owns G0.fg w0 w
 kV:Ct G0 G w0.heap.size
 gB:∀e∈es,hG G0 w0.heap.size w.heap.size e
theorem ec.start {G:Α} {w:World} (h:Fits G w):ec G w G w #[]:=
 ⟨h,fI.refl _ _ _,⟨λb o v p h=>.inr ⟨v,p,h,id⟩,λb h=>.inr h⟩,λe he=>by simp at he⟩
section
variable {G0 G:Α} {w0 w:World} {es:Array Event}
theorem Fits.bare (h:Fits G w) {b:Nat} (hb:w.heap.size<=b):(∀o,G.aP b o=none)/\G.row b=none/\G.obj b=none:=by
 refine⟨λo=>?_,?_,?_⟩
 ·cases ε:G.aP b o with
  | none=>rfl
  | some x=>obtain⟨c,t,ef,hb,_⟩:=q9 (h.aP _ _ x.1 x.2 ε);have:=fJ hb;omega
 ·cases ε:G.row b with
  | none=>rfl
  | some x=>obtain⟨c,hb,_⟩:=h.row _ x.1 x.2 ε;have:=fJ hb;omega
 ·cases ε:G.obj b with
  | none=>rfl
  | some x=>have:=fJ (h.obj _ x ε).1;omega
theorem Fits.fresh (h:Fits G w):G.fresh w.heap.size:=
 ⟨(h.bare (Nat.le_refl _)).1,(h.bare (Nat.le_refl _)).2.1,(h.bare (Nat.le_refl _)).2.2,λ_ hb=>h.bare (Nat.le_of_lt hb)⟩
theorem Α.GX {H H':Α} (J:∀b o,H'.aP b o=none->H.aP b o=none) (U:∀b,H'.row b=none->H.row b=none) (μ:∀b,H'.obj b=none->H.obj b=none) (r:Nat) (h:H'.fresh r):H.fresh r:=
 ⟨λo=>J _ _ (h.1 o),U _ h.2.1,μ _ h.2.2.1,λb hb=>⟨λo=>J _ _ ((h.2.2.2 b hb).1 o),U _ (h.2.2.2 b hb).2.1,μ _ (h.2.2.2 b hb).2.2⟩⟩
theorem Α.Mc {H:Α} {r:Nat} (ι:H.fresh r) (c:Array Value) (t:TypeId):∀b,(H.dL r c t).fresh b->H.fresh b:=
 Α.GX (λb o h=>by
  by_cases e:b=r
  ·subst e;exact ι.1 o
  ·simpa[Α.dL,e] using h) (λb h=>by
  by_cases e:b=r
  ·subst e;exact ι.2.1
  ·simpa[Α.dL,e] using h) (λb h=>h)
theorem Α.GY {H:Α} {r:Nat} {x:Obj}:∀b,(H.bK r x).fresh b->H.fresh b:=
 Α.GX (λb o h=>h) (λb h=>h) (λb h=>by
  by_cases e:b=r
  ·subst e;simp[Α.bK] at h
  ·simpa[Α.bK,e] using h)
theorem hG.mono {n jE Md:Nat} {e:Event} (h:hG G n jE e) (Ζ:jE<=Md):hG G n Md e:=by
 obtain⟨loc,wr,o6⟩:=e;cases loc with
 | cell a=>exact h.imp (λx=>⟨x.1,R⟩) id
 | obj r=>exact⟨h.1,h.2.imp (λx=>⟨x.1,R⟩) id⟩
 | _=>exact h
theorem ec.read (h:ec G0 w0 G w es) {a:Addr} {v:Value} {p:Bool} (κ:a.spot=none) (ε:G.aP a.block a.off=some (v,p)):w.cell? a=some v/\ec G0 w0 G w (es.push ⟨.cell a,false,false⟩):=by
 obtain⟨b,o,sp⟩:=a;simp only at κ ε;subst κ;have hv:=h.fit.aP b o v p ε;refine⟨hv,h.fit,h.keeps,h.kV,λe he=>?_⟩;rcases Array.mem_push.1 he with he|rfl
 ·exact h.gB e he
 ·rcases h.kV.aP b o v p ε with Ζ|⟨v0,fL,an,_⟩
  ·obtain⟨c,t,ef,hb,_⟩:=q9 hv;exact .inl ⟨Ζ,fJ hb⟩
  ·exact .inr ⟨rfl,_,an⟩
theorem heap_setCell {a:Addr} {v:Value} {c:Array Value} {t:TypeId} {ef:Nat×Nat} (κ:a.spot=none) (hb:w.heap[a.block]?=some (.cells c t ef)):(w.setCell a v).heap=w.heap.setIfInBounds a.block (.cells (c.setIfInBounds a.off v) t ef):=by
 obtain⟨b,o,sp⟩:=a;simp only at κ hb;subst κ;have aO:=fJ hb;simp only[World.setCell];apply Array.ext_getElem?;intro j;rw[Array.getElem?_modify];by_cases e:b=j
 ·subst e;rw[Array.getElem?_setIfInBounds_self_of_lt aO,if_pos rfl,hb];simp
 ·rw[Array.getElem?_setIfInBounds_ne e,if_neg e]
theorem ec.write (h:ec G0 w0 G w es) {a:Addr} {v:Value} (κ:a.spot=none) (ε:G.owns a.block a.off):(∃u,w.cell? a=some u)/\ec G0 w0 (G.v7 a v) (w.setCell a v) (es.push ⟨.cell a,true,false⟩):=by
 obtain⟨b,o,sp⟩:=a;simp only at κ ε;subst κ;obtain⟨u,hu⟩:=ε;have hv:=h.fit.aP b o u true hu;obtain⟨c,t,ef,hb,TV⟩:=q9 hv;have aO:=fJ hb;have aY:=heap_setCell (w:=w) (a:=⟨b,o,none⟩) (v:=v) rfl hb;have cv:(w.setCell ⟨b,o,none⟩ v).heap.size=w.heap.size:=by rw[aY];simp
 have qb:(w.setCell ⟨b,o,none⟩ v).heap[b]?=some (.cells (c.setIfInBounds o v) t ef):=by rw[aY,Array.getElem?_setIfInBounds_self_of_lt aO]
 have qc:∀j,b≠j->(w.setCell ⟨b,o,none⟩ v).heap[j]?=w.heap[j]?:=λj δ=>by rw[aY,Array.getElem?_setIfInBounds_ne δ]
 have ψ:o<c.size:=(Array.getElem?_eq_some_iff.1 TV).1
 have Me:b<w0.heap.size->G0.owns b o:=λj8=>by
  rcases h.kV.aP b o u true hu with Ζ|⟨v0,fL,an,π⟩
  ·omega
  ·exact⟨v0,by rw[an,π rfl]⟩
 refine⟨⟨u,hv⟩,⟨λΨ o' fr fj a3=>?_,λΨ t' jE ι=>?_,λΨ x γ=>?_⟩,⟨by rw[cv];exact h.keeps.size,λΨ c' t' Mf dV=>?_,λΨ x dV γ Ζ=>?_,h.keeps.os,h.keeps.output,h.keeps.tape⟩,⟨λΨ o' fr fj a3=>?_,h.kV.obj⟩,λe he=>?_⟩
 ·simp only[Α.v7] at a3;by_cases e:Ψ=b/\o'=o
  ·obtain⟨rfl,rfl⟩:=e;rw[if_pos ⟨rfl,rfl⟩] at a3;cases a3;exact od qb (by rw[Array.getElem?_setIfInBounds_self_of_lt ψ])
  ·rw[if_neg e] at a3;have:=h.fit.aP Ψ o' fr fj a3;by_cases Γ:Ψ=b
   ·subst Γ;have Δ:o≠o':=λx=>e ⟨rfl,x.symm⟩;obtain⟨c2,t2,Mg,gP,ot⟩:=q9 this;rw[hb] at gP;cases gP;exact od qb (by rw[Array.getElem?_setIfInBounds_ne Δ];exact ot)
   ·obtain⟨c2,t2,Mg,gP,ot⟩:=q9 this;exact od (by rw[qc Ψ (Ne.symm Γ)];exact gP) ot
 ·obtain⟨c2,gP,eg⟩:=h.fit.row Ψ t' jE ι;by_cases Γ:Ψ=b
  ·subst Γ;rw[hb] at gP;cases gP;exact⟨_,qb,by simpa using eg⟩
  ·exact⟨c2,by rw[qc Ψ (Ne.symm Γ)];exact gP,eg⟩
 ·obtain⟨gP,kW⟩:=h.fit.obj Ψ x γ;have Γ:b≠Ψ:=λe=>by subst e;rw[hb] at gP;cases gP;cases kW
  exact⟨by rw[qc Ψ Γ];exact gP,kW⟩
 ·obtain⟨c2,J,U,μ⟩:=h.keeps.cells Ψ c' t' Mf dV;by_cases Γ:Ψ=b
  ·subst Γ;rw[hb] at J;cases J;refine⟨_,qb,by simpa using U,λo' j5=>?_⟩;have Δ:o≠o':=λe=>by subst e;exact j5 (Me (fJ dV))
   rw[Array.getElem?_setIfInBounds_ne Δ];exact μ o' j5
  ·exact⟨c2,by rw[qc Ψ (Ne.symm Γ)];exact J,U,μ⟩
 ·have J:=h.keeps.nz Ψ x dV γ Ζ
  have Γ:b≠Ψ:=λe=>by subst e;rw[hb] at J;cases J;cases γ
  rw[qc Ψ Γ];exact J
 ·simp only[Α.v7] at a3;by_cases e:Ψ=b/\o'=o
  ·obtain⟨rfl,rfl⟩:=e;rw[if_pos ⟨rfl,rfl⟩] at a3;cases a3;rcases h.kV.aP _ _ _ _ hu with Ζ|⟨v0,fL,an,π⟩
   ·exact .inl Ζ
   ·exact .inr ⟨v0,fL,an,π⟩
  ·rw[if_neg e] at a3;exact h.kV.aP Ψ o' fr fj a3
 ·rw[cv];rcases Array.mem_push.1 he with he|rfl
  ·exact h.gB e he
  ·rcases Nat.lt_or_ge b w0.heap.size with j8|j8
   ·refine .inr ⟨rfl,?_⟩;exact Me j8
   ·exact .inl ⟨j8,aO⟩
theorem zX {x:Obj} {j:Nat} (δ:j<w.heap.size):(w.heap.push x)[j]?=w.heap[j]?:=by
 rw[Array.getElem?_push,if_neg R]
theorem C0 {x:Obj}:(w.heap.push x)[w.heap.size]?=some x:=ζ
theorem ec.new (h:ec G0 w0 G w es) {x:Obj} {G':Α} (ε:∀b o,b≠w.heap.size->G'.aP b o=G.aP b o) (ι:∀b,b≠w.heap.size->G'.row b=G.row b) (ψ:∀b,b≠w.heap.size->G'.obj b=G.obj b)
  (Τ:Fits {aP:=λb o=>if b=w.heap.size then G'.aP b o else none,row:=λb=>if b=w.heap.size then G'.row b else none,obj:=λb=>if b=w.heap.size then G'.obj b else none} {w with heap:=w.heap.push x}) :
  ec G0 w0 G' {w with heap:=w.heap.push x} es:=by
 have hle:=h.keeps.size;refine⟨⟨λb o v p hb=>?_,λb t n hb=>?_,λb y hb=>?_⟩,⟨by simp;omega,λb c t ef hb=>?_,λb y hb Κ Ζ=>?_,h.keeps.os,h.keeps.output,h.keeps.tape⟩,⟨λb o v p hb=>?_,λb ⟨y,hb⟩=>?_⟩,λe he=>(h.gB e he).mono ζ⟩
 ·by_cases e:b=w.heap.size
  ·exact Τ.aP b o v p (by simp only[e,if_true];rw[<-e];exact hb)
  ·rw[ε b o e] at hb;obtain⟨c2,t2,Mg,gP,ot⟩:=q9 (h.fit.aP b o v p hb);exact od (w:={w with heap:=w.heap.push x}) (by show(w.heap.push x)[b]?=_;rw[zX (fJ gP)];exact gP) ot
 ·by_cases e:b=w.heap.size
  ·exact Τ.row b t n (by simp only[e,if_true];rw[<-e];exact hb)
  ·rw[ι b e] at hb;obtain⟨c2,gP,eg⟩:=h.fit.row b t n hb;exact⟨c2,by show(w.heap.push x)[b]?=_;rw[zX (fJ gP)];exact gP,eg⟩
 ·by_cases e:b=w.heap.size
  ·exact Τ.obj b y (by simp only[e,if_true];rw[<-e];exact hb)
  ·rw[ψ b e] at hb;obtain⟨gP,Κ⟩:=h.fit.obj b y hb;exact⟨by show(w.heap.push x)[b]?=_;rw[zX (fJ gP)];exact gP,Κ⟩
 ·obtain⟨c2,J,U,μ⟩:=h.keeps.cells b c t ef hb;exact⟨c2,by show(w.heap.push x)[b]?=_;rw[zX (fJ J)];exact J,U,μ⟩
 ·have J:=h.keeps.nz b y hb Κ Ζ
  show(w.heap.push x)[b]?=_;rw[zX (fJ J)];exact J
 ·by_cases e:b=w.heap.size
  ·exact .inl R
  ·rw[ε b o e] at hb;exact h.kV.aP b o v p hb
 ·by_cases e:b=w.heap.size
  ·exact .inl R
  ·rw[ψ b e] at hb;exact h.kV.obj b ⟨y,hb⟩
end
section
variable {G0 G:Α} {w0 w:World} {es:Array Event} {P:Program}
theorem ec.push (h:ec G0 w0 G w es) {e:Event} (he:hG G0 w0.heap.size w.heap.size e):ec G0 w0 G w (es.push e):=
 ⟨h.fit,h.keeps,h.kV,λx γ=>(Array.mem_push.1 γ).elim (h.gB x) λy=>y▸he⟩
theorem ec.draw (h:ec G0 w0 G w es) (n:Nat):ec G0 w0 G {w with drawn:=n} es:=
 ⟨⟨h.fit.aP,h.fit.row,h.fit.obj⟩,⟨h.keeps.size,h.keeps.cells,h.keeps.nz,h.keeps.os,h.keeps.output,h.keeps.tape⟩,h.kV,h.gB⟩
theorem ec.row (h:ec G0 w0 G w es) (c:Array Value) (t:TypeId):ec G0 w0 (G.dL w.heap.size c t) {w with heap:=w.heap.push (.cells c t (0,0))} es:=by
 refine h.new (λb o hb=>by simp[Α.dL,hb]) (λb hb=>by simp[Α.dL,hb]) (λb hb=>rfl) ⟨λb o v p hb=>?_,λb t' n hb=>?_,λb y hb=>?_⟩
 ·by_cases e:b=w.heap.size
  ·simp[Α.dL,e] at hb;obtain⟨lu,gP,rfl,rfl⟩:=hb;rw[e];exact od (w:={w with heap:=w.heap.push (.cells c t (0,0))}) C0 gP
  ·simp[e] at hb
 ·by_cases e:b=w.heap.size
  ·simp[Α.dL,e] at hb;obtain⟨rfl,rfl⟩:=hb;rw[e];exact⟨c,C0,rfl⟩
  ·simp[e] at hb
 ·by_cases e:b=w.heap.size
  ·simp only[e,if_true,Α.dL] at hb;rw[h.fit.fresh.2.2.1] at hb;cases hb
  ·simp[e] at hb
theorem ec.obj (h:ec G0 w0 G w es) {x:Obj} (γ:Obj.sw x=false):ec G0 w0 (G.bK w.heap.size x) {w with heap:=w.heap.push x} es:=by
 refine h.new (λb o hb=>rfl) (λb hb=>rfl) (λb hb=>by simp[Α.bK,hb]) ⟨λb o v p hb=>?_,λb t' n hb=>?_,λb y hb=>?_⟩
 ·by_cases e:b=w.heap.size
  ·simp only[e,if_true,Α.bK] at hb;rw[h.fit.fresh.1] at hb;cases hb
  ·simp[e] at hb
 ·by_cases e:b=w.heap.size
  ·simp only[e,if_true,Α.bK] at hb;rw[h.fit.fresh.2.1] at hb;cases hb
  ·simp[e] at hb
 ·by_cases e:b=w.heap.size
  ·simp[Α.bK,e] at hb;subst hb;rw[e];exact⟨C0,γ⟩
  ·simp[e] at hb
theorem ec.setObj (h:ec G0 w0 G w es) {r:Nat} {x:Obj} (ι:G.fg r) (γ:Obj.sw x=false):(∃y,w.heap[r]?=some y/\Obj.sw y=false)/\ec G0 w0 (G.bK r x) {w with heap:=w.heap.setIfInBounds r x} (es.push ⟨.obj r,true,false⟩):=by
 obtain⟨y,Κ⟩:=ι;obtain⟨hb,C1⟩:=h.fit.obj r y Κ;have aO:=fJ hb;have qb:(w.heap.setIfInBounds r x)[r]?=some x:=Array.getElem?_setIfInBounds_self_of_lt aO;have qc:∀j,r≠j->(w.heap.setIfInBounds r x)[j]?=w.heap[j]?:=λj δ=>Array.getElem?_setIfInBounds_ne δ;have GZ:∀b c t ef,w.heap[b]?=some (.cells c t ef)->r≠b:=λb c t ef ε e=>by subst e;rw[hb] at ε;cases ε;cases C1
 refine⟨⟨y,hb,C1⟩,⟨λb o v p ε=>?_,λb t n ε=>?_,λb z Φ=>?_⟩,⟨by simp;exact h.keeps.size,λb c t ef ε=>?_,λb z ε Φ Ζ=>?_,h.keeps.os,h.keeps.output,h.keeps.tape⟩,⟨h.kV.aP,λb Φ=>?_⟩,λe he=>?_⟩
 ·obtain⟨c,t,ef,J,U⟩:=q9 (h.fit.aP b o v p ε);exact od (w:={w with heap:=w.heap.setIfInBounds r x}) (by show(w.heap.setIfInBounds r x)[b]?=_;rw[qc b (GZ b c t ef J)];exact J) U
 ·obtain⟨c,J,U⟩:=h.fit.row b t n ε;exact⟨c,by show(w.heap.setIfInBounds r x)[b]?=_;rw[qc b (GZ b c t _ J)];exact J,U⟩
 ·by_cases e:b=r
  ·subst e;simp[Α.bK] at Φ;subst Φ;exact⟨qb,γ⟩
  ·simp[Α.bK,e] at Φ;obtain⟨J,U⟩:=h.fit.obj b z Φ;exact⟨by show(w.heap.setIfInBounds r x)[b]?=_;rw[qc b (Ne.symm e)];exact J,U⟩
 ·obtain⟨c2,J,U,μ⟩:=h.keeps.cells b c t ef ε;exact⟨c2,by show(w.heap.setIfInBounds r x)[b]?=_;rw[qc b (GZ b c2 t ef J)];exact J,U,μ⟩
 ·have J:=h.keeps.nz b z ε Φ Ζ
  have e:r≠b:=λe=>by
   subst e;rcases h.kV.obj r ⟨y,Κ⟩ with γ|γ
   ·have:=fJ ε;omega
   ·exact Ζ γ
  show(w.heap.setIfInBounds r x)[b]?=_;rw[qc b e];exact J
 ·by_cases e:b=r
  ·subst e;exact h.kV.obj b ⟨y,Κ⟩
  ·obtain⟨z,Φ⟩:=Φ;simp[Α.bK,e] at Φ;exact h.kV.obj b ⟨z,Φ⟩
 ·simp only[Array.size_setIfInBounds];rcases Array.mem_push.1 he with he|rfl
  ·exact h.gB e he
  ·exact⟨rfl,(h.kV.obj r ⟨y,Κ⟩).imp (λγ=>⟨γ,aO⟩) id⟩
theorem ς.sound {α:Type} {K:α->Α->Prop} {E:Value->Α->Prop} (s:Sem α):∀{G:Α} {w:World} {es:Array Event},ς P s G K E->ec G0 w0 G w es->
  ∃G' w' es',ec G0 w0 G' w' es'/\((∃a,s.runT P w es=(.ok a w',es')/\K a G')\/(∃v,s.runT P w es=(.halt (.panic v) w',es')/\E v G')):=by
 induction s with
 | pure a=>intro G w es h hu;exact⟨G,w,es,hu,.inl ⟨a,rfl,h⟩⟩
 | load m a k ω=>
  intro G w es h hu;obtain⟨rfl,κ,v,p,ε,χ⟩:=h;obtain⟨hv,v8⟩:=hu.read κ ε;obtain⟨G',w',es',J,U⟩:=ω v χ v8;refine⟨G',w',es',J,?_⟩;simp only[Sem.runT,hv];exact U
 | store m a v k ω=>
  intro G w es h hu;obtain⟨rfl,κ,ε,⟨t,n,bQ⟩,C2,χ⟩:=h;obtain⟨⟨u,hv⟩,v8⟩:=hu.write (v:=v) κ ε;obtain⟨G',w',es',J,U⟩:=ω χ v8;have Mh:w.frozen? a=false:=by
   obtain⟨c,hb,_⟩:=hu.fit.row a.block t n bQ;simp[World.frozen?,hb]
  refine⟨G',w',es',J,?_⟩;have e:(Sem.store .plain a v k).runT P w es=k.runT P (w.setCell a v) (es.push ⟨.cell a,true,false⟩):=by
   cases v<;>first|exact C2.elim|(simp only[Sem.runT,hv,Mh];rfl)
  rw[e];exact U
 | new o k ω=>
  intro G w es h hu;cases o with
  | cells c t ef=>
   obtain⟨rfl,χ⟩:=h;obtain⟨G',w',es',J,U⟩:=ω w.heap.size (χ _ hu.fit.fresh) (hu.row c t);exact⟨G',w',es',J,U⟩
  | _=>
   obtain⟨G',w',es',J,U⟩:=ω w.heap.size (h _ hu.fit.fresh) (hu.obj rfl);exact⟨G',w',es',J,U⟩
 | shape r k ω=>
  intro G w es h hu;obtain⟨t,n,ι,χ⟩:=h;have e:w.shape? r=some (t,n):=by
   obtain⟨c,hb,ν⟩:=hu.fit.row r t n ι;simp[World.shape?,hb,ν]
  obtain⟨G',w',es',J,U⟩:=ω _ χ hu;refine⟨G',w',es',J,?_⟩;simp only[Sem.runT,e];exact U
 | freeze a n k ω=>intro G w es h hu;exact h.elim
 | frozen a k ω=>
  intro G w es h hu;obtain⟨⟨t,n,ι⟩,χ⟩:=h;have e:w.frozen? a=false:=by
   obtain⟨c,hb,_⟩:=hu.fit.row a.block t n ι;simp[World.frozen?,hb]
  obtain⟨G',w',es',J,U⟩:=ω _ χ hu;refine⟨G',w',es',J,?_⟩;simp only[Sem.runT,e];exact U
 | getObj r k ω=>
  intro G w es h hu;obtain⟨o,ψ,lj,χ⟩:=h;obtain⟨hb,cm⟩:=hu.fit.obj r o ψ;have aO:=fJ hb;have v8:=hu.push (e:=⟨.obj r,false,false⟩) ⟨rfl,(hu.kV.obj r ⟨o,ψ⟩).imp (λγ=>⟨γ,aO⟩) id⟩;obtain⟨G',w',es',J,U⟩:=ω _ χ v8;refine⟨G',w',es',J,?_⟩;have e:(Sem.getObj r k).runT P w es=(k o).runT P w (es.push ⟨.obj r,false,false⟩):=by
   cases o<;>first|(simp only[Sem.runT,hb];first|done|rfl|(rw[lj];done))|(cases cm;done)
  rw[e];exact U
 | setObj r o k ω=>
  intro G w es h hu;obtain⟨ι,cm,lj,χ⟩:=h;obtain⟨⟨y,hb,C1⟩,v8⟩:=hu.setObj ι cm;obtain⟨G',w',es',J,U⟩:=ω χ v8;refine⟨G',w',es',J,?_⟩;have e:(Sem.setObj r o k).runT P w es=k.runT P {w with heap:=w.heap.setIfInBounds r o} (es.push ⟨.obj r,true,false⟩):=by
   cases y<;>first|(simp only[Sem.runT,hb,lj];done)|(cases C1;done)
  rw[e];exact U
 | choose q k ω=>
  intro G w es h hu;simp only[ς] at h;by_cases Ξ:q.forced=true
  ·rw[if_pos Ξ] at h;obtain⟨G',w',es',J,U⟩:=ω _ h hu;refine⟨G',w',es',J,?_⟩;simp only[Sem.runT,Ξ,if_true];exact U
  ·rw[if_neg Ξ] at h;obtain⟨G',w',es',J,U⟩:=ω _ (h (w.tape w.drawn q)) (hu.draw (w.drawn+1));refine⟨G',w',es',J,?_⟩;simp only[Sem.runT,Ξ];exact U
 | sys c k ω=>intro G w es h hu;exact h.elim
 | program k ω=>
  intro G w es h hu;obtain⟨G',w',es',J,U⟩:=ω P h hu;exact⟨G',w',es',J,U⟩
 | mark m k ω=>
  intro G w es h hu;obtain⟨rfl,χ⟩:=h;obtain⟨G',w',es',J,U⟩:=ω χ (hu.push (e:=⟨.mark .noRoom,false,true⟩) rfl);exact⟨G',w',es',J,U⟩
 | halt x=>
  intro G w es h hu;cases x<;>first|exact h.elim|skip
  exact⟨G,w,es,hu,.inr ⟨_,rfl,h⟩⟩
theorem mem_seen {fn:FuncId} {e:Event} (h:e∈seen P fn es):e∈es:=by
 unfold seen at h;obtain⟨l⟩:=es;have key:∀(l:List Event) (q:Bool) (kept:Array Event) (x:Event),x∈(l.foldl (λ(s:Bool×Array Event) e=>match e.loc with
   | .mark (Mark.extern f)=>((P.funcs[f]?).any (·.norace),s.2)
   | _=>(s.1,if s.1&&!e.sync then s.2 else s.2.push e)) (q,kept)).2->x∈kept\/x∈l:=by
  intro l
  induction l with
  | nil=>intro q kept x γ;exact .inl γ
  | cons y l ω=>
   intro q kept x γ;rw[List.foldl_cons] at γ;rcases ω _ _ x γ with h4|h4
   ·split at h4
    ·exact .inl h4
    ·simp only at h4;split at h4
     ·exact .inl h4
     ·rcases Array.mem_push.1 h4 with CG|rfl
      ·exact .inl CG
      ·exact .inr ζ
   ·exact .inr (by simp[h4])
 simp only[List.foldl_toArray'] at h;rcases key l _ #[] e h with γ|γ
 ·simp at γ
 ·simpa using γ
end
def cC (P:Program) (Q:Value->Prop) (mn:Bool) (y:a2) (ax:Frame) (cs:List Frame) (H:Α):Prop:=Goes P Q mn (Go.Conc.G ax cs) {y with G:=H}
def g9:Type:=a2->Prop
class bp where
 q:g9->Prop
structure Seq [bp] (x:g9):Prop where
 cls:bp.q x
 rel:∀y,x y->y.rel=false
 aN:∀y,x y->y.aN=λ_=>none
def aU (P:Program) (Q:Value->Prop) (mn:Bool) (x:g9) (ax:Frame) (cs:List Frame) (H:Α):Prop:=∀y,x y->cC P Q mn y ax cs H
def ax (b:Frame) (t:Array Value) (k:List Item):Frame:={b with tmps:=t,todo:=k}
section
variable {P:Program} {Q:Value->Prop} {mn:Bool} {x:g9} {cs:List Frame} {H:Α} {b f:Frame} {t:Array Value} {k:List Item}
theorem cC.own {y:a2} (eu:y.rel=false) (fX:y.aN=λ_=>none) (h:∀w,Fits H w->∃f' cs' w' es H',stepG P mn (Go.Conc.G f cs) w=.go (Go.Conc.G f' cs') w' es/\ec H w H' w' es/\cC P Q mn y f' cs' H'):cC P Q mn y f cs H:=by
 refine Goes.step (λι=>by rw[show({y with G:=H}:a2).rel=y.rel from rfl,eu] at ι;cases ι) (.inr ⟨⟨rfl,rfl⟩,.inl λw Τ hv=>?_⟩);obtain⟨f',cs',w',es,H',J,U,μ⟩:=h w Τ;rw[J];refine⟨H',y.aN,⟨rfl,rfl⟩,U.keeps,U.fit,λb c t hb=>?_,U.kV,λb c hb=>.inl hb,λe he=>?_,λb c hb=>?_,μ⟩
 ·rw[fX] at hb;cases hb
 ·rw[if_neg (by rw[show({y with G:=H}:a2).rel=y.rel from rfl,eu];simp)];exact U.gB e he
 ·rw[fX] at hb;cases hb
variable [bp]
theorem aU.own (γ:Seq x) (h:∀w,Fits H w->∃f' cs' w' es H',stepG P mn (Go.Conc.G f cs) w=.go (Go.Conc.G f' cs') w' es/\ec H w H' w' es/\aU P Q mn x f' cs' H'):aU P Q mn x f cs H:=
 λy Κ=>.own (γ.rel y Κ) (γ.aN y Κ) λw Τ=>let ⟨f',cs',w',es,H',a,b,c⟩:=h w Τ;⟨f',cs',w',es,H',a,b,c y Κ⟩
theorem aU.still (γ:Seq x) {f':Frame} {cs':List Frame} (ν:∀w,stepG P mn (Go.Conc.G f cs) w=.go (Go.Conc.G f' cs') w #[]) (h:aU P Q mn x f' cs' H):aU P Q mn x f cs H:=
 .own γ λw Τ=>⟨f',cs',w,#[],H,ν w,.start Τ,h⟩
theorem jN (hb:b.mode=.run) (w:World):stepG P mn (Go.Conc.G (ax b t k) cs) w=stepG.exec P mn true (ax b t k) cs none w:=by
 obtain⟨fn,xW,td,TW,uB,kd,ro⟩:=b;simp only at hb;subst hb;rfl
section TX
variable (γ:Seq x) (hb:b.mode=.run)
include γ hb
theorem aU.to {af:List Item} (ν:∀w,stepG.exec P mn true (ax b t k) cs none w=.go (Go.Conc.G (ax b t af) cs) w #[]) (h:aU P Q mn x (ax b t af) cs H):aU P Q mn x (ax b t k) cs H:=
 .still γ (λw=>(jN hb w).trans (ν w)) h
theorem aU.skip (h:aU P Q mn x (ax b t k) cs H):aU P Q mn x (ax b t (.code .skip::k)) cs H:=.to γ hb (λ_=>rfl) h
theorem aU.inBlock {l:Nat} (h:aU P Q mn x (ax b t k) cs H):aU P Q mn x (ax b t (.inBlock l::k)) cs H:=.to γ hb (λ_=>rfl) h
theorem aU.seq {a c:Code} (h:aU P Q mn x (ax b t (.code a::.code c::k)) cs H):aU P Q mn x (ax b t (.code (.seq a c)::k)) cs H:=.to γ hb (λ_=>rfl) h
theorem aU.block {l:Nat} {c:Code} (h:aU P Q mn x (ax b t (.code c::.inBlock l::k)) cs H):aU P Q mn x (ax b t (.code (.block l c)::k)) cs H:=.to γ hb (λ_=>rfl) h
theorem aU.loop {c:Code} (h:aU P Q mn x (ax b t (.code c::.inLoop c::k)) cs H):aU P Q mn x (ax b t (.code (.loop c)::k)) cs H:=.to γ hb (λ_=>rfl) h
theorem aU.inLoop {c:Code} (h:aU P Q mn x (ax b t (.code c::.inLoop c::k)) cs H):aU P Q mn x (ax b t (.inLoop c::k)) cs H:=.to γ hb (λ_=>rfl) h
theorem aU.region {id:Nat} {ops:Array Oper} (h:aU P Q mn x (ax b t (.inRegion ops (List.range ops.size)::k)) cs H):aU P Q mn x (ax b t (.code (.region id ops false)::k)) cs H:=.to γ hb (λ_=>rfl) h
theorem aU.bF {ops:Array Oper} (h:aU P Q mn x (ax b t k) cs H):aU P Q mn x (ax b t (.inRegion ops []::k)) cs H:=.to γ hb (λ_=>rfl) h
theorem aU.cond {c:Operand} {a e:Code} {v:Bool} (ε:(ax b t k).eval c=.bool v) (h:aU P Q mn x (ax b t (.code (if v then a else e)::k)) cs H):aU P Q mn x (ax b t (.code (.cond c a e)::k)) cs H:=by
 refine .to γ hb (λw=>?_) h;have a3:(ax b t (.code (.cond c a e)::k)).eval c=.bool v:=ε;unfold stepG.exec;simp only[ax] at a3 ⊢;rw[a3];rfl
theorem aU.exit {l:Nat} {af:List Item} (he:exitTo l k=some af) (h:aU P Q mn x (ax b t af) cs H):aU P Q mn x (ax b t (.code (.exit l)::k)) cs H:=by
 refine .to γ hb (λw=>?_) h;unfold stepG.exec;simp only[ax,he,Option.elim];rfl
theorem aU.draw {id:Nat} {ops:Array Oper} (h:∀n,aU P Q mn x (ax b t (.inRegion ops (Region.schedule (P.follows .mixedOrders) ops n)::k)) cs H):aU P Q mn x (ax b t (.code (.region id ops true)::k)) cs H:=by
 refine .own γ λw Τ=>⟨ax b t (.inRegion ops (Region.schedule (P.follows .mixedOrders) ops (w.tape w.drawn (.order b.fn id)))::k),cs,{w with drawn:=w.drawn+1},#[],H,?_,(ec.start Τ).draw _,h _⟩;rw[jN hb];rfl
theorem aU.ret (ι:b.roundOf=none) (h:aU P Q mn x {ax b t (.code .ret::k) with mode:=.returning} cs H):aU P Q mn x (ax b t (.code .ret::k)) cs H:=by
 refine .still γ (λw=>?_) h;rw[jN hb];unfold stepG.exec;simp only[ax,ι];rfl
theorem aU.sM (ι:b.roundOf=none) (h:aU P Q mn x {ax b t [] with mode:=.returning} cs H):aU P Q mn x (ax b t []) cs H:=by
 refine .still γ (λw=>?_) h;rw[jN hb];unfold stepG.exec;simp only[ax,ι];rfl
end TX
end
end Go.TL
namespace Go.TL
open Go.Conc
open Go.ConcM (OsLater)
open Go.ConcN (sumTo upd sumTo_upd upd_ne upd_same sumTo_congr le_sumTo)
variable [bp]
def bl (t:Array Value):Operand->Value
 | .tmp n=>t.getD n undef
 | .const v=>v
 | .global g=>.pointer (some ⟨g,0,none⟩)
 | .func f=>.func (.func f) #[] #[]
theorem zY (b:Frame) (t:Array Value) (k:List Item):(ax b t k).eval=bl t:=by funext o;cases o<;>rfl
def put (o:Oper) (t:Array Value) (v:Value):Array Value:=match o.dst with|some d=>t.setIfInBounds d v|none=>t
def Mi (P:Program) (Q:Value->Prop) (mn:Bool) (x:g9) (b:Frame) (t:Array Value) (ops:Array Oper) (i:Nat) (o:Oper) (rest:List Nat) (k:List Item) (cs:List Frame):Next->Α->Prop
 | .value v,H=>aU P Q mn x (ax b (put o t v) (.inRegion ops rest::k)) cs H
 | .skip,H=>aU P Q mn x (ax b (put o t undef) (.inRegion ops rest::k)) cs H
 | .enter f args,H=>aU P Q mn x (Frame.enter P f args .normal) (ax b t (.inRegion ops (i::rest)::k)::cs) H
 | .round l f xW C3 sN,H=>aU P Q mn x (Frame.round l f xW C3 sN .normal) (ax b t (.inRegion ops (i::rest)::k)::cs) H
 | .defer d,H=>aU P Q mn x (ax {b with defers:=d::b.defers} (put o t undef) (.inRegion ops rest::k)) cs H
 | .recover,H=>b.roundOf=none/\match tryRecover (ax b t (.inRegion ops (i::rest)::k)) cs with
  | some (v,cs')=>aU P Q mn x (ax b (put o t v) (.inRegion ops rest::k)) cs' H
  | none=>aU P Q mn x (ax b (put o t .nilIface) (.inRegion ops rest::k)) cs H
 | _,_=>False
section
variable {P:Program} {Q:Value->Prop} {mn:Bool} {x:g9} {cs:List Frame} {H:Α} {b f:Frame} {t:Array Value} {k:List Item}
theorem ec.sub {G0 G:Α} {w0 w:World} {es es':Array Event} (h:ec G0 w0 G w es) (ν:∀e∈es',e∈es):ec G0 w0 G w es':=⟨h.fit,h.keeps,h.kV,λe he=>h.gB e (ν e he)⟩
theorem iY {b:Frame} {ops:Array Oper} {i:Nat} {o:Oper} {rest:List Nat} {v:Value} (ψ:ops[i]?=some o):(ax b t (.inRegion ops (i::rest)::k)).finish v=ax b (put o t v) (.inRegion ops rest::k):=by
 simp only[Frame.finish,ax,ψ,Option.bind,put];cases o.dst<;>rfl
theorem aU.unwanted (γ:Seq x) (hb:b.mode=.run) {ops:Array Oper} {i:Nat} {o:Oper} {rest:List Nat} (ψ:ops[i]?=some o) (hw:Region.wanted o (yielded ops t)=false)
  (h:aU P Q mn x (ax b (put o t undef) (.inRegion ops rest::k)) cs H):aU P Q mn x (ax b t (.inRegion ops (i::rest)::k)) cs H:=by
 refine .still γ (f':=ax b (put o t undef) (.inRegion ops rest::k)) (cs':=cs) (λw=>?_) h;rw[jN hb,<-iY ψ];have vP:((ops[i]?).map (Region.wanted · (yielded ops t))).getD false=false:=by simp[ψ,hw]
 unfold stepG.exec;simp only[ax,vP];rfl
theorem aU.op (γ:Seq x) (hb:b.mode=.run) {ops:Array Oper} {i:Nat} {o:Oper} {rest:List Nat} (ψ:ops[i]?=some o) (hw:Region.wanted o (yielded ops t)=true) (hd:b.roundOf=none\/∀c,o.op≠.defer c)
  (h:ς P (execOp (bl t) o) H (Mi P Q mn x b t ops i o rest k cs) (λv H'=>aU P Q mn x {ax b t (.inRegion ops (i::rest)::k) with mode:=.panicking [{v,recovered:=false}]} cs H')) :
  aU P Q mn x (ax b t (.inRegion ops (i::rest)::k)) cs H:=by
 refine .own γ λw Τ=>?_;obtain⟨H',w',es',hu,iy⟩:=ς.sound (P:=P) (G0:=H) (w0:=w) (execOp (bl t) o) h (ec.start Τ);have zZ:stepG P mn (Go.Conc.G (ax b t (.inRegion ops (i::rest)::k)) cs) w=stepG.apply P true (ax b t (.inRegion ops (i::rest)::k)) cs none (execOp (bl t) o) w:=by
  rw[jN hb];have vP:((ops[i]?).map (Region.wanted · (yielded ops t))).getD false=true:=by simp[ψ,hw]
  have he:(ax b t (.inRegion ops (i::rest)::k)).oper?=some o:=by simp[Frame.oper?,ax,ψ]
  unfold stepG.exec;simp only[ax,vP,if_true];simp only[ax] at he;unfold stepG.oper;simp only[he];rcases hd with hd|hd
  ·simp only[hd];rw[<-zY b t (.inRegion ops (i::rest)::k)];rfl
  ·cases ι:b.roundOf with
   | none=>rw[<-zY b t (.inRegion ops (i::rest)::k)];rfl
   | some l=>
    cases Μ:o.op<;>first|exact absurd Μ (hd _)|(simp only;rw[<-zY b t (.inRegion ops (i::rest)::k)];rfl)
 rw[zZ];generalize gl:(if(ax b t (.inRegion ops (i::rest)::k)).kind==.early then #[] else es')=ou;have kC:∀e∈seen P b.fn ou,e∈es':=λe he=>by
  have:=mem_seen he;rw[<-gl] at this;split at this
  ·simp at this
  ·exact this
 have pe:∀v,(ax b t (.inRegion ops (i::rest)::k)).finish v=ax b (put o t v) (.inRegion ops rest::k):=λv=>iY ψ;rcases iy with⟨dZ,eh,θ⟩|⟨v,eh,dz⟩
 ·cases dZ<;>first|exact θ.elim|skip
  case value v=>exact⟨_,_,w',seen P b.fn ou,H',by unfold stepG.apply;simp only[eh,if_true];rw[gl,pe];simp[GStep.after,Go.Conc.G,ax],hu.sub kC,θ⟩
  case skip=>exact⟨_,_,w',seen P b.fn ou,H',by unfold stepG.apply;simp only[eh,if_true];rw[gl,pe];simp[GStep.after,Go.Conc.G,ax],hu.sub kC,θ⟩
  case enter f args=>exact⟨_,_,w',seen P b.fn ou,H',by unfold stepG.apply;simp only[eh,if_true];rw[gl];simp[GStep.after,Go.Conc.G,ax],hu.sub kC,θ⟩
  case round l f xW C3 sN=>exact⟨_,_,w',seen P b.fn ou,H',by unfold stepG.apply;simp only[eh,if_true];rw[gl];simp[GStep.after,Go.Conc.G,ax],hu.sub kC,θ⟩
  case defer d=>exact⟨_,_,w',seen P b.fn ou,H',by unfold stepG.apply;simp only[eh,if_true];rw[gl];simp[GStep.after,Go.Conc.G,Frame.finish,ax,put,ψ];cases o.dst<;>rfl,hu.sub kC,θ⟩
  case recover=>
   obtain⟨cu,θ⟩:=θ;cases uC:tryRecover (ax b t (.inRegion ops (i::rest)::k)) cs with
   | none=>
    rw[uC] at θ;exact⟨_,_,w',seen P b.fn ou,H',by unfold stepG.apply;simp only[eh,if_true];rw[gl,pe];simp only[ax] at uC ⊢;simp only[cu];rw[cu] at uC;rw[uC];simp[GStep.after,Go.Conc.G],hu.sub kC,θ⟩
   | some r=>
    obtain⟨v,cs'⟩:=r;rw[uC] at θ;exact⟨_,_,w',seen P b.fn ou,H',by unfold stepG.apply;simp only[eh,if_true];rw[gl];simp only[ax] at uC ⊢;simp only[cu];rw[cu] at uC;rw[uC];simp[GStep.after,Go.Conc.G];(have e:=pe v;simp only[ax,cu] at e;exact e),hu.sub kC,θ⟩
 ·exact⟨_,_,w',seen P b.fn ou,H',by unfold stepG.apply;simp only[eh,if_true];rw[gl];simp[GStep.after,Go.Conc.G,Frame.raise,ax,hb],hu.sub kC,dz⟩
end
section
variable {P:Program} {Q:Value->Prop} {mn:Bool} {x:g9} {cs rest:List Frame} {H:Α} {b f c:Frame} {t:Array Value} {k:List Item} {fn:Func}
theorem xX (hm:f.mode≠.run) (w:World):stepG P mn (Go.Conc.G f cs) w=unwind P mn f cs none w:=by
 obtain⟨a1,a9,cK,gx,uB,mM,vH⟩:=f;cases uB with
 | run=>exact absurd rfl hm
 | returning=>rfl
 | panicking ch=>rfl
theorem aU.back (γ:Seq x) (hm:f.mode=.returning) (hd:f.defers=[]) (χ:f.kind=.normal\/f.kind=.wrapped) (bL:P.funcs[f.fn]?=some fn)
  (h:ς P (results fn f.tmps) H (λv H'=>aU P Q mn x (c.finish v) rest H') (λ_ _=>False)):aU P Q mn x f (c::rest) H:=by
 refine .own γ λw Τ=>?_;obtain⟨H',w',es',hu,iy⟩:=ς.sound (P:=P) (G0:=H) (w0:=w) (results fn f.tmps) h (ec.start Τ);rcases iy with⟨v,eh,θ⟩|⟨v,eh,dz⟩
 ·refine⟨_,_,w',seen P f.fn es',H',?_,hu.sub λe he=>mem_seen he,θ⟩;rw[xX (by rw[hm];simp)];unfold unwind;simp only[hd,hm,bL,eh];unfold doReturn;rcases χ with χ|χ<;>simp[χ,GStep.after,Go.Conc.G]
 ·exact dz.elim
theorem aU.G1 (γ:Seq x) (hm:f.mode=.returning) (hd:f.defers=[]) (χ:f.kind=.deferred) (bL:P.funcs[f.fn]?=some fn)
  (h:ς P (results fn f.tmps) H (λ_ H'=>aU P Q mn x (match c.mode with
   | .panicking ({recovered:=true,..}::TY)=>(match TY.dropWhile (!·.goexit) with|[]=>{c with mode:=.returning}|r=>{c with mode:=.panicking r})
   | _=>c) rest H') (λ_ _=>False)):aU P Q mn x f (c::rest) H:=by
 refine .own γ λw Τ=>?_;obtain⟨H',w',es',hu,iy⟩:=ς.sound (P:=P) (G0:=H) (w0:=w) (results fn f.tmps) h (ec.start Τ);rcases iy with⟨v,eh,θ⟩|⟨v,eh,dz⟩
 ·refine⟨_,_,w',seen P f.fn es',H',?_,hu.sub λe he=>mem_seen he,θ⟩;rw[xX (by rw[hm];simp)];unfold unwind;simp only[hd,hm,bL,eh];unfold doReturn;simp only[χ,GStep.after];rw[Array.append_empty];rfl
 ·exact dz.elim
theorem aU.deferred (γ:Seq x) (hm:f.mode≠.run) {d:Deferred} {ds:List Deferred} (hd:f.defers=d::ds) (ε:∀r,d.target≠.collected r) (Ζ:d.target≠.nil) {g:FuncId} {args:Array Value}
  (ι:∀w,(invoke d.target d.args).runT P w #[]=(.ok (.enter g args) w,#[])) (h:aU P Q mn x (Frame.enter P g args .deferred) ({f with defers:=ds}::cs) H):aU P Q mn x f cs H:=by
 refine .still γ (λw=>?_) h;rw[xX hm];unfold unwind;obtain⟨xY,as9⟩:=d;simp only at ε Ζ ι;have key:callDeferred P {f with defers:=ds} cs none ⟨xY,as9⟩ w=.go (Go.Conc.G (Frame.enter P g args .deferred) ({f with defers:=ds}::cs)) w #[]:=by
  unfold callDeferred;simp only[ι w];cases xY<;>first|exact absurd rfl Ζ|(simp[GStep.after,seen,Go.Conc.G])
 cases xY with
 | collected r=>exact absurd rfl (ε r)
 | fn a b=>simp only[hd];exact key
 | nil=>exact absurd rfl Ζ
 | builtin a b c d=>simp only[hd];exact key
 | coroexit c=>simp only[hd];exact key
theorem aU.raised (γ:Seq x) {ch:List PanicEntry} (hm:f.mode=.panicking ch) (hd:f.defers=[]) (TZ:f.catches P=false) (h:aU P Q mn x (c.raise ch) rest H):aU P Q mn x f (c::rest) H:=by
 refine .still γ (λw=>?_) h;rw[xX (by rw[hm];simp)];unfold unwind;simp only[hd,hm,TZ];rfl
theorem aU.done (γ:Seq x) (Ν:∀y,x y->∀s,gk (y.tok s)) (uD:∀y,x y->y.deaf=0) (hm:f.mode=.returning) (hd:f.defers=[]) (χ:f.kind=.normal) (bL:P.funcs[f.fn]?=some fn) (bf:P.inits.idxOf? f.fn=none) {v:Value}
  (ι:results fn f.tmps=pure v) (T0:Q v):aU P Q true x f [] H:=by
 intro y Κ;refine Goes.stop (λι=>by rw[show({y with G:=H}:a2).rel=y.rel from rfl,γ.rel y Κ] at ι;cases ι) (.inl ⟨rfl,⟨rfl,rfl⟩,Ν y Κ,uD y Κ,λw Τ=>⟨v,#[],?_,λe he=>by simp at he,T0⟩⟩);rw[xX (by rw[hm];simp)];unfold unwind;simp only[hd,hm,bL,ι];have:(pure v:Sem Value).runT P w #[]=(.ok v w,#[]):=rfl;simp only[this];unfold doReturn;simp[χ,GStep.after,seen,bf]
end
end Go.TL
namespace Go.TL
open Go.Conc
inductive η where
 | z (v:Value)
 | ao (cells:List η)
 | sl (ex:Bool) (k:Nat) (l:List η)
 | a0 (l:List η)
 | bq (l:List η)
 | ah (id n i j:Nat)
 | ms (id n i len:Nat)
 | fn (f:Fn) (first captured:List η)
 | fY (t:TypeId) (a:η)
 | mp (id:Nat)
 | it (id:Nat)
 | cg
 deriving Inhabited
def η.cells:η->List η
 | .a0 l=>l
 | a=>[a]
inductive Row where
 | cells (t:TypeId) (k:Nat) (l:List η)
 | map (es:List (η×η))
 | iter (m:Nat) (left:List (η×η)) (cur:Option (η×η))
 | dead
 deriving Inhabited
def Row.hx (r:Row) (n:Nat):Prop:=match r with|.cells _ _ l=>n<l.length|_=>True
abbrev aW:=List (Option (Nat×Nat))
abbrev aL:=Nat->Nat->Option Value
inductive av (S:aL) (B:aW) (σ:List Row):η->Value->Prop where
 | z (v:Value):av S B σ (.z v) v
 | ao {cells:List η} (b o:Nat) (w:Nat->Value):(∀(j:Nat) (a:η),cells[j]?=some a->S b (o+j)=some (w j))->(∀(j:Nat) (a:η),cells[j]?=some a->av S B σ a (w j))->av S B σ (.ao cells) (.pointer (some ⟨b,o,none⟩))
 | iB {ex:Bool} {k:Nat} (base:Option Addr) (cap:Nat):(ex=true->cap=0)->av S B σ (.sl ex k []) (.slice base 0 cap)
 | sl {ex:Bool} {k:Nat} {l:List η} (b o cap:Nat) (w:Nat->Nat->Value):(ex=true->cap=l.length)->l.length<=cap->(∀(i:Nat) (e:η),l[i]?=some e->e.cells.length=k)->
   (∀(i:Nat) (e:η),l[i]?=some e->∀(j:Nat) (c:η),e.cells[j]?=some c->S b (o+i*k+j)=some (w i j))->(∀(i:Nat) (e:η),l[i]?=some e->∀(j:Nat) (c:η),e.cells[j]?=some c->av S B σ c (w i j))->av S B σ (.sl ex k l) (.slice (some ⟨b,o,none⟩) l.length cap)
 | a0 {l:List η} (vs:Array Value):l.length=vs.size->(∀(i:Nat) (a:η) (v:Value),l[i]?=some a->vs[i]?=some v->av S B σ a v)->av S B σ (.a0 l) (.agg vs)
 | bq {l:List η} (vs:Array Value):l.length=vs.size->(∀(i:Nat) (a:η) (v:Value),l[i]?=some a->vs[i]?=some v->av S B σ a v)->av S B σ (.bq l) (.tuple vs)
 | ah {id n i j k:Nat} {t:TypeId} {l:List η} {b N:Nat}:σ[id]?=some (.cells t k l)->l.length=n->B[id]?=some (some (b,N))->av S B σ (.ah id n i j) (.pointer (some ⟨b,i*k+j,none⟩))
 | j9 {id n i j:Nat} {r:Row} (v:Value):σ[id]?=some r->r.hx n->av S B σ (.ah id n i j) v
 | ms {id n i len:Nat} {t:TypeId} {k:Nat} {l:List η} {bo:Option (Nat×Nat)} {base:Option Addr} (cap:Nat):σ[id]?=some (.cells t k l)->l.length=n->B[id]?=some bo->i+len<=n->len<=cap->
   (cap=0\/∃b N,bo=some (b,N)/\base=some ⟨b,i*k,none⟩/\(i+cap)*k<=N)->av S B σ (.ms id n i len) (.slice base len cap)
 | jO {id n i len:Nat} {r:Row} (v:Value):σ[id]?=some r->r.hx n->av S B σ (.ms id n i len) v
 | fn {f:Fn} {df cs:List η} (vs ws:Array Value):df.length=vs.size->cs.length=ws.size->(∀(i:Nat) (a:η) (v:Value),df[i]?=some a->vs[i]?=some v->av S B σ a v)->(∀(i:Nat) (a:η) (v:Value),cs[i]?=some a->ws[i]?=some v->av S B σ a v)->av S B σ (.fn f df cs) (.func f vs ws)
 | fY {t:TypeId} {a:η} (v:Value):av S B σ a v->av S B σ (.fY t a) (.iface t v)
 | mp {id:Nat} {es:List (η×η)} {b N:Nat}:σ[id]?=some (.map es)->B[id]?=some (some (b,N))->av S B σ (.mp id) (.map (some b))
 | l8 {id:Nat} (v:Value):σ[id]?=some .dead->av S B σ (.mp id) v
 | it {id m:Nat} {left:List (η×η)} {cur:Option (η×η)} {b N:Nat}:σ[id]?=some (.iter m left cur)->B[id]?=some (some (b,N))->av S B σ (.it id) (.pointer (some ⟨b,0,none⟩))
 | nI {id:Nat} (v:Value):σ[id]?=some .dead->av S B σ (.it id) v
 | cg (v:Value):av S B σ .cg v
def Row.to (r r':Row) (b Ψ:Option (Option (Nat×Nat))):Prop:=
 match r with
 | .cells t k l=>(∃ep,r'=.cells t k ep/\ep.length=l.length/\Ψ=b)\/∀n,n<=l.length->r'.hx n
 | .map _=>(∃es',r'=.map es'/\Ψ=b)\/r'=.dead
 | .iter m _ _=>(∃G2 G3,r'=.iter m G2 G3/\Ψ=b)\/r'=.dead
 | .dead=>r'=.dead
structure b3 (S aF:aL) (B B':aW) (σ σ':List Row):Prop where
 dm:∀b o v,S b o=some v->aF b o=some v
 rows:∀(id:Nat) (r:Row),σ[id]?=some r->∃r':Row,σ'[id]?=some r'/\r.to r' B[id]? B'[id]?
theorem Row.sO (r:Row) (b:Option (Option (Nat×Nat))):r.to r b b:=by
 cases r with
 | cells t k l=>exact .inl ⟨l,rfl,rfl,rfl⟩
 | map es=>exact .inl ⟨es,rfl,rfl⟩
 | iter m l c=>exact .inl ⟨l,c,rfl,rfl⟩
 | dead=>rfl
theorem b3.refl (S:aL) (B:aW) (σ:List Row):b3 S S B B σ σ:=⟨λ_ _ _ h=>h,λ_ r h=>⟨r,h,r.sO _⟩⟩
theorem Row.G4 {r r':Row} {b Ψ:Option (Option (Nat×Nat))} {n:Nat} (h:r.to r' b Ψ) (Ζ:r.hx n):r'.hx n:=by
 cases r with
 | cells t k l=>
  rcases h with⟨ep,rfl,J,_⟩|h
  ·simp only[Row.hx] at Ζ ⊢;omega
  ·exact h n (Nat.le_of_lt Ζ)
 | map es=>rcases h with⟨es',rfl,_⟩|rfl<;>trivial
 | iter m l c=>rcases h with⟨ep,c',rfl,_⟩|rfl<;>trivial
 | dead=>cases h;trivial
theorem Row.T1 {r r' C4:Row} {b Ψ Mj:Option (Option (Nat×Nat))} (h:r.to r' b Ψ) (k:r'.to C4 Ψ Mj):r.to C4 b Mj:=by
 cases r with
 | cells t e l=>
  rcases h with⟨ep,rfl,J,rfl⟩|h
  ·rcases k with⟨T2,rfl,U,rfl⟩|k
   ·exact .inl ⟨T2,rfl,U.trans J,rfl⟩
   ·exact .inr λn Ζ=>k n R
  ·exact .inr λn Ζ=>Row.G4 k (h n Ζ)
 | map es=>
  rcases h with⟨es',rfl,rfl⟩|rfl
  ·exact k
  ·cases k;exact .inr rfl
 | iter m l c=>
  rcases h with⟨ep,c',rfl,rfl⟩|rfl
  ·exact k
  ·cases k;exact .inr rfl
 | dead=>cases h;exact k
theorem b3.trans {S aF z0:aL} {B B' z1:aW} {σ σ' z2:List Row} (h:b3 S aF B B' σ σ') (k:b3 aF z0 B' z1 σ' z2):b3 S z0 B z1 σ z2:=
 ⟨λb o v x=>k.dm b o v (h.dm b o v x),λid r ι=>by
  obtain⟨r',J,U⟩:=h.rows id r ι;obtain⟨C4,μ,Ε⟩:=k.rows id r' J;exact⟨C4,μ,Row.T1 U Ε⟩⟩
theorem av.later {S aF:aL} {B B':aW} {σ σ':List Row} (ξ:b3 S aF B B' σ σ') {a:η} {v:Value} (h:av S B σ a v):av aF B' σ' a v:=by
 induction h with
 | z v=>exact .z v
 | ao b o w J _ ω=>exact .ao b o w (λj a δ=>ξ.dm _ _ _ (J j a δ)) ω
 | iB base cap h=>exact .iB base cap h
 | sl b o cap w J U μ Ε _ ω=>exact .sl b o cap w J U μ (λi e hi j c δ=>ξ.dm _ _ _ (Ε i e hi j c δ)) ω
 | a0 vs J _ ω=>exact .a0 vs J ω
 | bq vs J _ ω=>exact .bq vs J ω
 | ah J U μ=>
  obtain⟨r',Γ,Δ⟩:=ξ.rows _ _ J;rcases Δ with⟨ep,rfl,a4,cM⟩|Δ
  ·exact .ah Γ (a4.trans U) (by rw[cM];exact μ)
  ·exact .j9 _ Γ (Δ _ R)
 | j9 v J U=>
  obtain⟨r',Γ,Δ⟩:=ξ.rows _ _ J;exact .j9 _ Γ (Row.G4 Δ U)
 | ms cap J U μ Ε au bd=>
  obtain⟨r',Γ,Δ⟩:=ξ.rows _ _ J;rcases Δ with⟨ep,rfl,a4,cM⟩|Δ
  ·exact .ms cap Γ (a4.trans U) (by rw[cM];exact μ) Ε au bd
  ·exact .jO _ Γ (Δ _ R)
 | jO v J U=>
  obtain⟨r',Γ,Δ⟩:=ξ.rows _ _ J;exact .jO _ Γ (Row.G4 Δ U)
 | fn vs ws J U _ _ sP mZ=>exact .fn vs ws J U sP mZ
 | fY v _ ω=>exact .fY v ω
 | mp J U=>
  obtain⟨r',Γ,Δ⟩:=ξ.rows _ _ J;rcases Δ with⟨es',rfl,cM⟩|rfl
  ·exact .mp Γ (by rw[cM];exact U)
  ·exact .l8 _ Γ
 | l8 v J=>
  obtain⟨r',Γ,Δ⟩:=ξ.rows _ _ J;cases Δ;exact .l8 _ Γ
 | it J U=>
  obtain⟨r',Γ,Δ⟩:=ξ.rows _ _ J;rcases Δ with⟨ep,c',rfl,cM⟩|rfl
  ·exact .it Γ (by rw[cM];exact U)
  ·exact .nI _ Γ
 | nI v J=>
  obtain⟨r',Γ,Δ⟩:=ξ.rows _ _ J;cases Δ;exact .nI _ Γ
 | cg v=>exact .cg v
end Go.TL
