import Derived.Test.YtlabjopijpkiaaaGreatVAE
set_option maxHeartbeats 16000000
set_option maxRecDepth 20000
set_option linter.unusedSectionVars false
set_option linter.unusedSimpArgs false
set_option linter.unusedVariables false
namespace Go.TL
open Go.Conc
open Go.ConcM (OsLater)
open Go.ConcN (sumTo upd sumTo_upd upd_ne upd_same sumTo_congr le_sumTo)
theorem S9 (sp:Spec):cW (aS.new sp)=0:=by simp[cW,aS.new]
theorem S' (sp:Spec):mwd (aS.new sp)=0:=by simp[mwd,aS.new]
section
variable {P:Program} {Q:Value->Prop} {bq:World} {c c':de} {gs:Array Goroutine} {w w':World} {t:Trace} {i:Nat} {g g':Goroutine} {es:Array Event}
variable {f:Bool×Goroutine×aZ->gw (Bool×Goroutine×aZ)}
theorem Inv.seen (h:Inv P Q bq c gs w t) (Ξ:gs[i]?=some g)
  (mem:ha c'.H c'.aM c'.O bq w) (hold:iB c'.H c'.aM c'.O bq.heap.size) (bU:iV c'.H c'.aM c'.tok c'.O c'.bz c'.deaf w.heap.size t)
  (bh:eS gs.size c'.tok c'.spec c'.view c'.rel c'.O c'.bz c'.home) (eE:w7 c'.H c'.tok c'.O) (ek:vh gs.size c'.tok c'.rel c'.bz c'.home c'.dH t) (fW:w8 c'.aM c'.tok c'.O c'.rel c'.dH t)
  (F8:Rec P Q c' i g) (γ:∀j,j≠i->c'.x j=c.x j/\c'.T j=c.T j) (dD:∀s o,c.O s=some o->c'.O s=some o):Inv P Q bq c' gs w t:=by
 refine⟨h.pos,mem,hold,bU,bh,eE,ek,fW,λj b hb=>?_⟩;by_cases e:j=i
 ·subst e;rw[Ξ] at hb;cases hb;exact F8
 ·obtain⟨cP,J,U⟩:=h.vj j b hb;obtain⟨Δ,Γ⟩:=γ j e;have Ν:c'.tok j=c.tok j:=congrArg aZ.tok Δ;refine⟨cP,by rw[Δ,Γ];exact J,U.imp id λ⟨a1,bd,s,o,cI,gv,hT⟩=>⟨a1,bd,s,o,dD s o cI,by rw[Ν];exact gv,by rw[Ν];exact hT⟩⟩
theorem Inv.Ta (h:Inv P Q bq c gs w t) (Ξ:gs[i]?=some g) {b:Nat} {cs:Array Value} {ty:TypeId} (hb:c.aM i b=some (cs,ty)) {dn:aZ}
  (hR:dn={c.x i with aM:=upd (c.aM i) b none,G:=⟨λΨ o=>if Ψ=b then(cs[o]?).map (·,true) else(c.H (.inl i)).aO Ψ o,λΨ=>if Ψ=b then some (ty,cs.size) else(c.H (.inl i)).row Ψ,(c.H (.inl i)).obj⟩}) (aN:lR P Q f (i==0) g dn):B9 P Q bq c gs w t i f:=by
 let G':χ:=⟨λΨ o=>if Ψ=b then(cs[o]?).map (·,true) else(c.H (.inl i)).aO Ψ o,λΨ=>if Ψ=b then some (ty,cs.size) else(c.H (.inl i)).row Ψ,(c.H (.inl i)).obj⟩;obtain⟨f1,f2,f3⟩:=h.hold.fresh i b _ hb;have LC:=h.mem.mr i b cs ty hb;have Ck:∀Ψ o,Ψ≠b->G'.aO Ψ o=(c.H (.inl i)).aO Ψ o:=λΨ o e=>by simp[G',e]
 have Tb:∀o,G'.aO b o=(cs[o]?).map (·,true):=λo=>by simp[G']
 have LD:∀Ψ o,Ψ≠b->(G'.has Ψ o↔(c.H (.inl i)).has Ψ o):=λΨ o e=>by unfold χ.has;rw[Ck Ψ o e]
 have LF:∀Ψ o,Ψ≠b->(G'.owns Ψ o↔(c.H (.inl i)).owns Ψ o):=λΨ o e=>by unfold χ.owns;rw[Ck Ψ o e]
 have Tc:∀Ψ,G'.e' Ψ↔(c.H (.inl i)).e' Ψ:=λΨ=>Iff.rfl
 have LG:∀Ψ,Ψ≠b->(c.H (.inl i)).off Ψ->G'.off Ψ:=λΨ e ω=>⟨λo a0=>ω.1 o ((LD Ψ o e).1 a0),ω.2⟩
 let c':de:={c with H:=bP c.H (.inl i) G',aM:=upd c.aM i (upd (c.aM i) b none),T:=upd c.T i (f (i==0,g,dn))}
 have fX:∀j Ψ v,upd c.aM i (upd (c.aM i) b none) j Ψ=some v->c.aM j Ψ=some v/\Ψ≠b:=λj Ψ v hv=>by
  by_cases e:j=i
  ·subst e;rw[upd_same] at hv;by_cases aQ:Ψ=b
   ·subst aQ;rw[upd_same] at hv;cases hv
   ·rw[upd_ne _ _ aQ] at hv;exact⟨hv,aQ⟩
  ·rw[upd_ne _ _ e] at hv;exact⟨hv,λaQ=>by rw[aQ,f3 j e] at hv;cases hv⟩
 have Td:∀s o Ψ,c.O s=some o->ew s o.toSpec Ψ->Ψ≠b:=λs o Ψ ν dT e=>by
  have:=(h.hold.kE s o Ψ ν dT).2.2 i;rw[e,hb] at this;cases this
 have ap:∀k,k≠.inl i->Apart G' (c.H k):=λk ς=>by
  have a:=h.hold.apart _ _ (Ne.symm ς);refine⟨λΨ o x y=>?_,λΨ o x y=>?_,λΨ x y=>a.obj Ψ x y⟩
  ·by_cases e:Ψ=b
   ·subst e;exact(f2 k).1 o y
   ·exact a.aO Ψ o ((LF Ψ o e).1 x) y
  ·by_cases e:Ψ=b
   ·subst e;exact(f2 k).1 o ⟨_,x.choose_spec⟩
   ·exact a.qH Ψ o x ((LD Ψ o e).1 y)
 have n5:c'.x i=dn:=by rw[hR];simp[c',G',de.x,upd_same]
 refine⟨c',h.seen (c':=c') Ξ ⟨λk=>?_,λj Ψ cs' jP hv=>h.mem.mr j Ψ cs' jP (fX j Ψ _ hv).1,h.mem.fV,h.mem.keep⟩
  ⟨λk l jw=>?_,λk Ψ o ω=>?_,λk Ψ ω=>?_,λj Ψ v hv=>?_,λs o Ψ ν dT=>?_,h.hold.kY,h.hold.pE,λΨ dT=>?_⟩ ⟨h.bU.race,h.bU.low,h.bU.norel,λk=>?_,λj Ψ v hv=>h.bU.oG j Ψ v (fX j Ψ v hv).1,h.bU.cont,h.bU.hears⟩ h.bh (h.eE.zf λΨ=>iY c.H i G' Ψ) h.ek
  ⟨h.fW.ju,λj Ψ v hv=>h.fW.vi j Ψ v (fX j Ψ v hv).1⟩ ⟨g,?_,.inl rfl⟩ (λj ε=>⟨?_,upd_ne _ _ ε⟩) λ_ _ a=>a,_,rfl⟩
 ·show Fits (bP c.H (.inl i) G' k) w;by_cases e:k=.inl i
  ·subst e;rw[dQ];have c0:=h.mem.fit (.inl i);refine⟨λΨ o v p δ=>?_,λΨ t' jq ι=>?_,c0.obj⟩
   ·by_cases aQ:Ψ=b
    ·subst aQ;rw[Tb] at δ;cases γ:cs[o]? with
     | none=>rw[γ] at δ;cases δ
     | some fr=>rw[γ] at δ;cases δ;exact nV LC γ
    ·rw[Ck Ψ o aQ] at δ;exact c0.aO Ψ o v p δ
   ·by_cases aQ:Ψ=b
    ·subst aQ;simp[G'] at ι;obtain⟨rfl,rfl⟩:=ι;exact⟨cs,LC,rfl⟩
    ·simp[G',aQ] at ι;exact c0.row Ψ t' jq ι
  ·rw[bQ _ _ e];exact h.mem.fit k
 ·show Apart (bP c.H (.inl i) G' k) (bP c.H (.inl i) G' l);by_cases e:k=.inl i
  ·subst e;rw[dQ,bQ _ _ (Ne.symm jw)];exact ap l (Ne.symm jw)
  ·rw[bQ _ _ e];by_cases aQ:l=.inl i
   ·subst aQ;rw[dQ];exact(ap k e).symm
   ·rw[bQ _ _ aQ];exact h.hold.apart k l jw
 ·replace ω:(bP c.H (.inl i) G' k).owns Ψ o:=ω
  by_cases e:k=.inl i
  ·subst e;rw[dQ] at ω;by_cases aQ:Ψ=b
   ·subst aQ;exact f1
   ·exact h.hold.high _ _ _ ((LF Ψ o aQ).1 ω)
  ·rw[bQ _ _ e] at ω;exact h.hold.high _ _ _ ω
 ·replace ω:(bP c.H (.inl i) G' k).e' Ψ:=ω
  by_cases e:k=.inl i
  ·subst e;rw[dQ] at ω;exact h.hold.n1 _ _ ((Tc Ψ).1 ω)
  ·rw[bQ _ _ e] at ω;exact h.hold.n1 _ _ ω
 ·obtain⟨lQ,bA⟩:=fX j Ψ v hv;obtain⟨a1,bd,cI⟩:=h.hold.fresh j Ψ v lQ;refine⟨a1,λk=>?_,λbK aH=>?_⟩
  ·show(bP c.H (.inl i) G' k).off Ψ;by_cases e:k=.inl i
   ·subst e;rw[dQ];exact LG Ψ bA (bd _)
   ·rw[bQ _ _ e];exact bd k
  ·cases γ:c'.aM bK Ψ with
   | none=>rfl
   | some fr=>have:=(fX bK Ψ fr γ).1;rw[cI bK aH] at this;cases this
 ·obtain⟨a1,bd,cI⟩:=h.hold.kE s o Ψ ν dT;have bA:=Td s o Ψ ν dT;refine⟨a1,λk=>?_,λbK=>?_⟩
  ·show(bP c.H (.inl i) G' k).off Ψ;by_cases e:k=.inl i
   ·subst e;rw[dQ];exact LG Ψ bA (bd _)
   ·rw[bQ _ _ e];exact bd k
  ·cases γ:c'.aM bK Ψ with
   | none=>rfl
   | some fr=>have:=(fX bK Ψ fr γ).1;rw[cI bK] at this;cases this
 ·show bP c.H (.inl i) G' (.inr Ψ)=χ.empty;rw[iY];exact h.hold.eE Ψ dT
 ·show dv t (jR c.tok c.O t k) (bP c.H (.inl i) G' k);by_cases e:k=.inl i
  ·subst e;rw[dQ];have ψ:=h.bU.perms (.inl i);refine⟨λΨ o v p δ k a κ ο hw=>?_,ψ.obj⟩;by_cases aQ:Ψ=b
   ·exfalso;refine h.bU.oG i b _ hb k a κ ?_;rw[ο];exact aQ
   ·rw[Ck Ψ o aQ] at δ;exact ψ.aO Ψ o v p δ k a κ ο hw
  ·rw[bQ _ _ e];exact h.bU.perms k
 ·rw[n5];show jQ P Q (upd c.T i (f (i==0,g,dn)) i) _ _ _;rw[upd_same];exact aN
 ·have gl:(Sum.inl j:cM)≠.inl i:=λx=>ε (by cases x;rfl);simp[c',de.x,upd_ne _ _ ε,bQ _ _ gl]
theorem Inv.less (h:Inv P Q bq c gs w t) (Ξ:gs[i]?=some g) {G':χ} (ν:Sub G' (c.H (.inl i))) (aN:lR P Q f (i==0) g {c.x i with G:=G'}):B9 P Q bq c gs w t i f:=by
 let dn:aZ:={c.x i with G:=G'}
 let c':de:={c with H:=bP c.H (.inl i) G',T:=upd c.T i (f (i==0,g,dn))}
 have n5:c'.x i=dn:=by simp[c',dn,de.x]
 have Te:upd c.aM i (c.aM i)=c.aM:=B7 rfl
 have hm:=h.mem.own h.hold i (fH.refl _ _ w) (ν.fits (h.mem.fit (.inl i))) (h.mem.mr i) rfl
 have a0:=h.hold.own h.mem h.mem.keep.size i (G':=G') (V':=c.aM i) ⟨λb o v p δ=>.inr (let ⟨fK,aj,ψ⟩:=ν.aO b o v p δ;⟨v,fK,aj,ψ⟩),λb hb=>.inr (ν.e' hb)⟩ (λb x γ=>.inl γ);rw[Te] at hm a0;refine⟨c',h.seen (c':=c') Ξ hm a0 ⟨h.bU.race,h.bU.low,h.bU.norel,λk=>?_,h.bU.oG,h.bU.cont,h.bU.hears⟩ h.bh (h.eE.zf λΨ=>iY c.H i G' Ψ) h.ek h.fW ⟨g,?_,.inl rfl⟩ (λj ε=>⟨?_,upd_ne _ _ ε⟩) λ_ _ a=>a,_,rfl⟩
 ·show dv t (jR c.tok c.O t k) (bP c.H (.inl i) G' k);by_cases e:k=.inl i
  ·subst e;rw[dQ];exact(h.bU.perms (.inl i)).sub ν
  ·rw[bQ _ _ e];exact h.bU.perms k
 ·rw[n5];show jQ P Q (upd c.T i (f (i==0,g,dn)) i) _ _ _;rw[upd_same];exact aN
 ·have gl:(Sum.inl j:cM)≠.inl i:=λx=>ε (by cases x;rfl);simp[c',de.x,bQ _ _ gl]
theorem Inv.group (h:Inv P Q bq c gs w t) (Ξ:gs[i]?=some g) {s:Nat} {sp:Spec} {ty:TypeId} {G' E:χ} (ν:c.aM i s=some (#[.int .u64 0,.int .u32 0],ty)) (fz:∀m,sp.aW=some m->m≠s/\∃jP,c.aM i m=some (#[.int .i32 0,.int .u32 0],jP))
  (ep:c.rel i=false) (b0:Split (c.H (.inl i)) G' E) (cQ:sp.aW≠none->sp.an [] E) {dn:aZ}
  (hR:dn={c.x i with G:=G',aM:=λb=>if b=s\/sp.aW=some b then none else c.aM i b,tok:=upd (c.tok i) s (.par 0 0 .add),spec:=upd (c.spec i) s (some sp),view:=upd (c.view i) s none}) (aN:lR P Q f (i==0) g dn):B9 P Q bq c gs w t i f:=by
 have br:i<gs.size:=mD Ξ
 have Cl:c.O s=none:=by
  cases γ:c.O s with
  | none=>rfl
  | some o=>have:=(h.hold.kE s o s γ (.inl rfl)).2.2 i;rw[ν] at this;cases this
 have lT:∀b,ew s sp b->∃v,c.aM i b=some v:=λb hb=>by
  rcases hb with rfl|hb
  ·exact⟨_,ν⟩
  ·obtain⟨_,jP,J⟩:=fz b hb;exact⟨_,J⟩
 have ns:∀r o b,c.O r=some o->ew r o.toSpec b->¬ew s sp b:=λr o b ι hb dT=>by
  obtain⟨v,hv⟩:=lT b dT;have:=(h.hold.kE r o b ι hb).2.2 i;rw[hv] at this;cases this
 have kl:∀r o,c.O r=some o->r≠s:=λr o ι e=>by rw[e,Cl] at ι;cases ι
 let V':Nat->Option (Array Value×TypeId):=λb=>if b=s\/sp.aW=some b then none else c.aM i b
 let O':=upd c.O s (some (aS.new sp))
 have fX:∀j b v,upd c.aM i V' j b=some v->c.aM j b=some v/\¬ew s sp b:=λj b v hv=>by
  by_cases e:j=i
  ·subst e;rw[upd_same] at hv;by_cases aQ:b=s\/sp.aW=some b
   ·simp[V',aQ] at hv
   ·simp[V',aQ] at hv;exact⟨hv,aQ⟩
  ·rw[upd_ne _ _ e] at hv;refine⟨hv,λhb=>?_⟩;obtain⟨fr,lQ⟩:=lT b hb;have:=(h.hold.fresh i b fr lQ).2.2 j e;rw[this] at hv;cases hv
 have LH:∀j b,c.aM j b=none->upd c.aM i V' j b=none:=λj b e=>by
  cases γ:upd c.aM i V' j b with
  | none=>rfl
  | some v=>have:=(fX j b v γ).1;rw[e] at this;cases this
 have Tf:∀j b,ew s sp b->upd c.aM i V' j b=none:=λj b hb=>by
  cases γ:upd c.aM i V' j b with
  | none=>rfl
  | some v=>exact absurd hb (fX j b v γ).2
 have hc:∀r q,O' r=some q->(r=s/\q=aS.new sp)\/(r≠s/\c.O r=some q):=λr q Φ=>by
  by_cases e:r=s
  ·subst e;rw[show O' r=some (aS.new sp) from upd_same ..] at Φ;cases Φ;exact .inl ⟨rfl,rfl⟩
  ·rw[show O' r=c.O r from upd_ne _ _ e] at Φ;exact .inr ⟨e,Φ⟩
 have holdA:iB c.H (upd c.aM i V') O' bq.heap.size:=by
  refine⟨h.hold.apart,h.hold.high,h.hold.n1,λj b v hv=>?_,λr o b ι hb=>?_,λr r' o o' b ι ft hb dT=>?_,λr o m ι hm=>?_,λb hb=>h.hold.eE b λr o ι hi=>hb r o (by rw[show O' r=c.O r from upd_ne _ _ (kl r o ι)];exact ι) hi⟩
  ·obtain⟨a1,bd,cI⟩:=h.hold.fresh j b v (fX j b v hv).1;exact⟨a1,bd,λbK aH=>LH bK b (cI bK aH)⟩
  ·rcases hc r o ι with⟨rfl,rfl⟩|⟨e,ft⟩
   ·obtain⟨v,hv⟩:=lT b hb;obtain⟨a1,bd,_⟩:=h.hold.fresh i b v hv;exact⟨a1,bd,λj=>Tf j b hb⟩
   ·obtain⟨a1,bd,cI⟩:=h.hold.kE r o b ft hb;exact⟨a1,bd,λj=>LH j b (cI j)⟩
  ·rcases hc r o ι with⟨rfl,rfl⟩|⟨e,pK⟩<;>rcases hc r' o' ft with⟨rfl,rfl⟩|⟨aQ,xh⟩
   ·rfl
   ·exact absurd hb (ns r' o' b xh dT)
   ·exact absurd dT (ns r o b pK hb)
   ·exact h.hold.kY r r' o o' b pK xh hb dT
  ·rcases hc r o ι with⟨rfl,rfl⟩|⟨e,ft⟩
   ·exact(fz m hm).1
   ·exact h.hold.pE r o m ft hm
 have LI:O' s=some (aS.new sp):=upd_same ..
 have LJ:c.H (.inr s)=χ.empty:=h.hold.eE s λr o ι hi=>ns r o s ι hi (.inl rfl)
 have mA:∀r q,O' r=some q->At r q w:=λr q Φ=>by
  rcases hc r q Φ with⟨rfl,rfl⟩|⟨_,cd⟩
  ·refine⟨⟨ty,?_⟩,λm hm=>let ⟨_,jP,hv⟩:=fz m hm;⟨jP,?_⟩⟩
   ·rw[S9];exact h.mem.mr i r _ _ ν
   ·rw[S'];exact h.mem.mr i m _ _ hv
  ·exact h.mem.fV _ _ cd
 obtain⟨bR,jW,jx,Gg,k4,Gh,Gi,Gj⟩:∃bR:cM->χ,bR (.inl i)=G'/\(∀j,j≠i->bR (.inl j)=c.H (.inl j))/\(∀b,¬ew s sp b->bR (.inr b)=c.H (.inr b))/\(bR (.inr s)=χ.empty/\∀m,sp.aW=some m->bR (.inr m)=E)/\
   iB bR (upd c.aM i V') O' bq.heap.size/\ha bR (upd c.aM i V') O' bq w/\∀a,dv t (jR (b4 c.tok i s (.par 0 0 .add)) O' t a) (bR a):=by
  have xf:=h.bU.perms (.inl i)
  have LK:∀a,(∀b,a=.inr b->¬ew s sp b)->dv t (jR (b4 c.tok i s (.par 0 0 .add)) O' t a) (c.H a):=λa κ=>by
   refine(h.bU.perms a).mono λk ς=>?_;cases a with
   | inl j=>exact ς
   | inr b=>
    refine ς.imp id λς r o ι hb j ε=>?_;rcases hc r o ι with⟨rfl,rfl⟩|⟨e,ft⟩
    ·exact absurd hb (κ b rfl)
    ·rw[e2 _ (λx=>e x.2)] at ε;exact ς r o ft hb j ε
  have LL:ha c.H (upd c.aM i V') c.O bq w:=h.mem.xe λj b v hv=>(fX j b v hv).1
  have hU:(Sum.inl i:cM)≠.inr s:=η;cases hm:sp.aW with
  | none=>
   refine⟨bP (bP c.H (.inl i) G') (.inr s) χ.empty,?_,λj ε=>?_,λb hb=>?_,⟨dQ ..,λm e=>(by cases e)⟩,?_,LL.two (b0.l.fits (h.mem.fit (.inl i))) (ve w) mA,λa=>?_⟩
   ·rw[bQ _ _ hU,dQ]
   ·rw[bQ _ _ η,bQ _ _ (λe=>ε (by cases e;rfl))]
   ·have:(Sum.inr b:cM)≠.inr s:=λe=>hb (by cases e;exact .inl rfl);rw[bQ _ _ this,iY]
   ·exact holdA.two hU b0.l.qQ (Sub.empty _) (Apart.tw _) ⟨λs o ν=>⟨o,ν,rfl⟩,λs o ν=>⟨o,ν,rfl⟩⟩ λx γ=>by
     rcases γ with e|e
     ·cases e;exact⟨s,_,LI,.inl rfl⟩
     ·cases e
   ·by_cases Γ:a=.inr s
    ·subst Γ;rw[dQ];exact dv.empty
    ·rw[bQ _ _ Γ];by_cases Δ:a=.inl i
     ·subst Δ;rw[dQ];exact xf.sub b0.l
     ·rw[bQ _ _ Δ];refine LK a λb e hb=>?_;subst e;rcases hb with rfl|hb
      ·exact Γ rfl
      ·rw[hm] at hb;cases hb
  | some m=>
   have sc:=(fz m hm).1
   have gl:(Sum.inl i:cM)≠.inr m:=η;refine⟨bP (bP c.H (.inl i) G') (.inr m) E,?_,λj ε=>?_,λb hb=>?_,⟨?_,λb5 e=>?_⟩,?_,LL.two (b0.l.fits (h.mem.fit (.inl i))) (b0.r.fits (h.mem.fit (.inl i))) mA,λa=>?_⟩
   ·rw[bQ _ _ gl,dQ]
   ·rw[bQ _ _ η,bQ _ _ (λe=>ε (by cases e;rfl))]
   ·have:(Sum.inr b:cM)≠.inr m:=λe=>hb (by cases e;exact .inr hm);rw[bQ _ _ this,iY]
   ·have:(Sum.inr s:cM)≠.inr m:=λe=>sc (by cases e;rfl);rw[bQ _ _ this,iY];exact LJ
   ·cases e;rw[dQ]
   ·exact holdA.two gl b0.l.qQ b0.r.qQ b0.apart ⟨λs o ν=>⟨o,ν,rfl⟩,λs o ν=>⟨o,ν,rfl⟩⟩ λx γ=>by
     rcases γ with e|e
     ·cases e;exact⟨s,_,LI,.inr hm⟩
     ·cases e
   ·by_cases Γ:a=.inr m
    ·subst Γ;rw[dQ];refine(xf.sub b0.r).mono λk ς=>.inr λr o ι hb j ε=>?_;rcases hc r o ι with⟨rfl,rfl⟩|⟨e,ft⟩
     ·by_cases e:j=i
      ·subst e;exact ς
      ·rw[sa _ e,h.bh.bare r Cl j] at ε;exact absurd rfl ε
     ·exact absurd (.inr hm) (ns r o m ft hb)
    ·rw[bQ _ _ Γ];by_cases Δ:a=.inl i
     ·subst Δ;rw[dQ];exact xf.sub b0.l
     ·rw[bQ _ _ Δ];by_cases a2:a=.inr s
      ·subst a2;rw[LJ];exact dv.empty
      ·refine LK a λb e hb=>?_;subst e;rcases hb with rfl|hb
       ·exact a2 rfl
       ·rw[hm] at hb;cases hb;exact Γ rfl
 let c':de:={c with H:=bR,aM:=upd c.aM i V',tok:=b4 c.tok i s (.par 0 0 .add),spec:=upd c.spec i (upd (c.spec i) s (some sp)),view:=upd c.view i (upd (c.view i) s none),O:=O',bz:=upd c.bz s i,T:=upd c.T i (f (i==0,g,dn))}
 have n5:c'.x i=dn:=by rw[hR];simp[c',V',de.x,upd_same,vm,jW]
 have pJ:∀j r,r≠s->b4 c.tok i s (.par 0 0 .add) j r=c.tok j r:=λj r ι=>e2 _ λx=>ι x.2
 have r8:∀j,j≠0->c.rel j=true->c.home j≠s:=λj aj ε e=>by
  obtain⟨op,a1,bd,_⟩:=h.ek.c1 j aj ε;have fe:=h.ek.ef (c.dH j) j (by simp[Trace.g?,a1,bd]);obtain⟨k,m,g,ς⟩:=h.bh.r5 j aj fe;rw[e,h.bh.bare s Cl j] at ς;cases ς
 refine⟨c',h.seen (c':=c') Ξ Gi Gh ⟨h.bU.race,h.bU.low,h.bU.norel,Gj,λj b v hv=>h.bU.oG j b v (fX j b v hv).1,λr o b ι hb k a κ fs=>?_,h.bU.hears⟩ (h.bh.SZ Cl br ep sp) ⟨λr q m Φ hm cw iD=>?_,λr q Φ cw=>?_⟩
  ⟨h.ek.ef,h.ek.c1,λj aj ε cw=>?_,λj aj ε a b=>?_⟩ ⟨λr q m Φ hm p op ψ κ=>?_,λj b v hv=>h.fW.vi j b v (fX j b v hv).1⟩ ⟨g,?_,.inl rfl⟩ (λj ε=>⟨?_,upd_ne _ _ ε⟩) (λr o ι=>?_),_,rfl⟩
 ·rcases hc r o ι with⟨rfl,rfl⟩|⟨e,ft⟩
  ·obtain⟨v,hv⟩:=lT b hb;exact absurd fs (h.bU.oG i b v hv k a κ)
  ·have:=h.bU.cont r o b ft hb k a κ fs
   show _\/(_/\_=some (upd c.bz s i r));rw[upd_ne _ _ e];exact this
 ·rcases hc r q Φ with⟨rfl,rfl⟩|⟨e,cd⟩
  ·show sp.an [] (bR (.inr m));rw[k4.2 m hm];exact cQ (by have:sp.aW=some m:=hm;rw[this];simp)
  ·show q.an q.L (bR (.inr m));rw[Gg m (ns r q m cd (.inr hm))];exact h.eE.pF r q m cd hm (λj jv p x=>cw j jv p (by show b4 c.tok i s _ j r=_;rw[pJ j r e];exact x)) λj k L g x=>iD j k L g (by show b4 c.tok i s _ j r=_;rw[pJ j r e];exact x)
 ·rcases hc r q Φ with⟨rfl,rfl⟩|⟨e,cd⟩
  ·show lN sp.D [] (bR (.inr r));rw[k4.1];rfl
  ·show lN q.D q.al (bR (.inr r));rw[Gg r (ns r q r cd (.inl rfl))];exact h.eE.mz r q cd λj jv p x=>cw j jv p (by show b4 c.tok i s _ j r=_;rw[pJ j r e];exact x)
 ·obtain⟨q,p,Φ⟩:=cw;have e:=r8 j aj ε;have Cm:c'.bz (c.home j)=c.bz (c.home j):=upd_ne _ _ e;show Knows t (c'.bz (c.home j)) (c.dH j);rw[Cm];refine h.ek.c2 j aj ε ⟨q,p,?_⟩;have:b4 c.tok i s (.par 0 0 .add) (c'.bz (c.home j)) (c.home j)=.par q p .bB:=Φ
  rwa [pJ _ _ e,Cm] at this
 ·have e:=r8 j aj ε
  have Cm:c'.bz (c.home j)=c.bz (c.home j):=upd_ne _ _ e
  show Before t (c.dH j) (c.dH (c'.bz (c.home j)))
  have cz:c'.bz (c.home j)≠0:=a
  have Ψ:c.rel (c'.bz (c.home j))=true:=b;rw[Cm] at cz Ψ ⊢;exact h.ek.c3 j aj ε cz Ψ
 ·rcases hc r q Φ with⟨rfl,rfl⟩|⟨e,cd⟩
  ·obtain⟨v,hv⟩:=lT m (.inr hm);exact absurd κ (h.fW.vi i m v hv op (mem_of_getElem? ψ))
  ·obtain⟨⟨k,mu,g,μ⟩,Θ⟩:=h.fW.ju r q m cd hm p op ψ κ;exact⟨⟨k,mu,g,by show b4 c.tok i s _ _ r=_;rw[pJ _ r e];exact μ⟩,Θ⟩
 ·rw[n5];show jQ P Q (upd c.T i (f (i==0,g,dn)) i) _ _ _;rw[upd_same];exact aN
 ·simp[c',de.x,upd_ne _ _ ε,sa _ ε,jx j ε]
 ·show O' r=some o;rw[show O' r=c.O r from upd_ne _ _ (kl r o ι)];exact ι
theorem Inv.ghost (h:Inv P Q bq c gs w t) (Ξ:gs[i]?=some g) (ς:FO (i==0) (lR P Q f) g (c.x i)):B9 P Q bq c gs w t i f:=by
 rcases ς with⟨G',J,U⟩|⟨b,cs,ty,J,U⟩|⟨s,sp,ty,G',E,J,μ,Θ,av,ba,gZ⟩
 ·exact h.less Ξ J U
 ·exact h.Ta Ξ J rfl U
 ·exact h.group Ξ J μ Θ av ba rfl gZ
end
section
variable {P:Program} {Q:Value->Prop} {bq:World} {c c':de} {gs:Array Goroutine} {w w':World} {t:Trace} {i:Nat} {g g':Goroutine} {es:Array Event}
theorem Inv.step (h:Inv P Q bq c gs w t) (Ξ:gs[i]?=some g) (eb:g.status=.running):(∃v es,i=0/\stepG P true g w=.ended (.done v) w es/\∀sl w1,Good P (λv w'=>Q v/\fH (λ_ _=>False) (λ_=>False) bq w') (crowd gs w1 sl) (.done v) w (t++MemOp.ofEvents 0 g.frame.fn g.frame.place es))\/
  ∃f,c.T i=.node f/\(h' P Q bq c gs w t i f\/FO (i==0) (lR P Q f) g (c.x i)):=by
 obtain⟨cP,ι,δ⟩:=h.vj i g Ξ;rcases δ with rfl|⟨_,rfl,_⟩
 ·have main:BT P (i==0) g (c.x i) Q->(∃v es,i=0/\stepG P true g w=.ended (.done v) w es/\∀sl w1,Good P (λv w'=>Q v/\fH (λ_ _=>False) (λ_=>False) bq w') (crowd gs w1 sl) (.done v) w (t++MemOp.ofEvents 0 g.frame.fn g.frame.place es)):=λν=>by
   rcases ν with⟨aj,ν⟩|⟨_,ν⟩
   ·have e:i=0:=by simpa using aj
    subst e;obtain⟨v,es,J,U⟩:=h.La Ξ ν none w;refine⟨v,es,rfl,J,λsl w1=>?_⟩;obtain⟨fr,es',xi,hs⟩:=h.La Ξ ν sl w1;rw[J] at xi;cases xi;exact hs
   ·rw[ν.2.2.1] at eb;cases eb
  cases Κ:c.T i with
  | leaf=>rw[Κ] at ι;exact .inl (main ι.2)
  | node f=>
   have ft:=ι;rw[Κ] at ι;rcases ι.2 with ν|ς
   ·exact .inl (main ν)
   ·refine .inr ⟨f,rfl,?_⟩;rcases ς with ς|⟨Gp,ς⟩
    ·exact .inl (h.quits Ξ ς)
    ·rcases ς with ς|ς|ς|ς|ς|ς|ς|ς|ς|ς
     ·exact .inl (h.FU Ξ ς)
     ·exact .inl (h.Ss Ξ ς)
     ·exact .inl (h.St Ξ ς)
     ·exact .inl (h.atom Ξ Gp ft ς)
     ·exact .inl (h.Cb Ξ ς)
     ·exact .inl (h.Gc Ξ ς)
     ·exact .inl (h.Gd Ξ ς)
     ·exact .inl (h.Cc Ξ ς)
     ·exact .inl (h.Gn Ξ ς)
     ·exact .inr ς
 ·cases eb
theorem Inv.Tg (h:Inv P Q bq c gs w t):∀g∈gs,Go.Conc.awake g:=λg Ξ=>by
 obtain⟨j,ε⟩:=Array.mem_iff_getElem?.1 Ξ;intro t' Ν;rcases h.stat ε with e|⟨_,e,_⟩|⟨e,_⟩<;>rw[e] at Ν<;>cases Ν
theorem Inv.comes:∀(L:List (gw (Bool×Goroutine×aZ))) (k:Nat) (c:de) (jV:List Nat) (gs:Array Goroutine) (w:World) (t:Trace) (sl:Option (Nat×Nat)),jV.map c.T=L->Ord jV gs.size->w9 gs=k->Inv P Q bq c gs w t->Comes P Q bq (crowd gs w sl) t:=by
 intro L
 induction L using (ni.wf (B:=Bool×Goroutine×aZ)).induction with
 | _ L Gq=>
  intro k
  induction k using Nat.strongRecOn with
  | _ k sd=>
   intro c jV gs w t sl ab dD ς h;subst ab ς;obtain⟨i,g,d,zo,Ξ,eb,cF⟩:=crowd_pick (P:=P) (w:=w) (sl:=sl) h.Tg h.awake;have dg:=h.at d;have br:i<gs.size:=mD Ξ;rcases dg.step Ξ eb with⟨v,es,rfl,J,U⟩|⟨f,Κ,Gr⟩
   ·have ι:=runT_many_ended (sl:=zo) Ξ (by simpa using J);rw[ι] at cF;exact Comes.last cF (U sl w)
   ·rcases Gr with Gr|Ti
    ·obtain⟨c',qV,w',u,ι,dO,ia⟩:=Gr zo;rw[ι] at cF;refine Comes.next cF ?_;rcases ia with⟨cv,kk,qS⟩|⟨cv,kk,Gs,qS⟩|⟨cv,qS,aP⟩
     ·exact Gq _ (by rw[qS];exact dD.one br Κ kk) _ c' jV qV w' _ zo rfl (by rw[cv];exact dD) rfl dO
     ·obtain⟨B6,Tj,Tk⟩:=dD.two br Κ kk Gs;exact Gq _ (by rw[qS];exact Tk) _ c' B6 qV w' _ zo rfl (by rw[cv];exact Tj) rfl dO
     ·exact sd _ aP c' jV qV w' _ zo (by rw[qS]) (by rw[cv];exact dD) rfl dO
    ·
     obtain⟨c',dO,kk,qS⟩:=h.ghost (f:=f) Ξ Ti;exact Gq _ (by rw[qS];exact dD.one br Κ kk) _ c' jV gs w t sl rfl dD rfl dO
end
def χ.lU (w:World):χ:=
 ⟨λb o=>match w.heap[b]? with|some (.cells c _ _)=>(c[o]?).map (·,false)|_=>none,
  λb=>match w.heap[b]? with|some (.cells c t d')=>if d'=(0,0) then some (t,c.size) else none|_=>none,λ_=>none⟩
theorem χ.Tl (w:World):Fits (χ.lU w) w:=by
 refine⟨λb o v p h=>?_,λb t n h=>?_,λb x h=>(by cases h)⟩
 ·simp only[χ.lU] at h;cases hb:w.heap[b]? with
  | none=>rw[hb] at h;cases h
  | some x=>
   rw[hb] at h;cases x with
   | cells c t d'=>
    simp only at h;cases δ:c[o]? with
    | none=>rw[δ] at h;cases h
    | some fr=>rw[δ] at h;cases h;exact nV hb δ
   | _=>cases h
 ·simp only[χ.lU] at h;cases hb:w.heap[b]? with
  | none=>rw[hb] at h;cases h
  | some x=>
   rw[hb] at h;cases x with
   | cells c t' d'=>
    simp only at h;split at h
    ·rename_i e;cases h;exact⟨c,by rw[e],rfl⟩
    ·cases h
   | _=>cases h
theorem χ.Tm (w:World) (b o:Nat):¬(χ.lU w).owns b o:=λ⟨v,h⟩=>by
 simp only[χ.lU] at h;cases hb:w.heap[b]? with
 | none=>rw[hb] at h;cases h
 | some x=>
  rw[hb] at h;cases x with
  | cells c t d'=>
   simp only at h;cases δ:c[o]? with
   | none=>rw[δ] at h;cases h
   | some fr=>rw[δ] at h;cases h
  | _=>cases h
def aZ.start (w:World):aZ:=⟨χ.lU w,λ_=>none,λ_=>.nil,λ_=>none,λ_=>none,0,false⟩
theorem Goes.comes {P:Program} {Q:Value->Prop} {g:Goroutine} {w:World} (h:Goes P Q true g (aZ.start w)):Comes P Q w (solo g w) #[]:=by
 obtain⟨T,Κ⟩:=h;let c:de:={H:=bP (λ_=>χ.empty) (.inl 0) (χ.lU w),aM:=λ_ _=>none,tok:=λ_ _=>.nil,spec:=λ_ _=>none,view:=λ_ _=>none,deaf:=λ_=>0,rel:=λ_=>false,T:=λ_=>T,O:=λ_=>none,bz:=λ_=>0,home:=λ_=>0,dH:=λ_=>0};have γ:c.x 0=aZ.start w:=by simp[c,de.x,aZ.start]
 have Α:∀k,k≠.inl 0->c.H k=χ.empty:=λk ς=>bQ (λ_=>χ.empty) (χ.lU w) ς
 have se:c.H (.inl 0)=χ.lU w:=dQ (λ_=>χ.empty) (.inl 0) (χ.lU w)
 have Gt:∀k b o,¬(c.H k).owns b o:=λk b o ω=>by
  by_cases e:k=.inl 0
  ·subst e;rw[se] at ω;exact χ.Tm w b o ω
  ·rw[Α k e] at ω;obtain⟨v,hv⟩:=ω;cases hv
 have LM:∀k b,¬(c.H k).e' b:=λk b ω=>by
  by_cases e:k=.inl 0
  ·subst e;rw[se] at ω;obtain⟨v,hv⟩:=ω;cases hv
  ·rw[Α k e] at ω;obtain⟨v,hv⟩:=ω;cases hv
 have gΞ:∀i:Nat,(#[]:Trace)[i]?=none:=λi=>η
 have cv:(#[g]:Array Goroutine).size=1:=rfl
 have inv:Inv P Q w c #[g] w #[]:=by
  refine⟨η,⟨λk=>?_,λj b c t hb=>(by cases hb),λs o ν=>(by cases ν),fH.refl _ _ _⟩,
   ⟨λk l _=>⟨λb o ω=>absurd ω (Gt k b o),λb o ω=>absurd ω (Gt l b o),λb ω=>absurd ω (LM k b)⟩,λk b o ω=>absurd ω (Gt k b o),λk b ω=>absurd ω (LM k b),λj b v hv=>(by cases hv),λs o b ν=>(by cases ν),λs bm o o' b ν=>(by cases ν),λs o m ν=>(by cases ν),λb _=>Α _ η⟩,
   ⟨λsaid ⟨i,j,_,⟨a,b,κ,_⟩,_⟩=>(by simp[Trace.act?] at κ),λop Μ=>(by simp at Μ),λop Μ=>(by simp at Μ),λk=>⟨λb o v p _ i a κ=>(by simp[touchAt,Trace.act?] at κ),λb _ i a κ=>(by simp[touchAt,Trace.act?] at κ)⟩,λj b v hv=>(by cases hv),λs o b ν=>(by cases ν),λj=>rfl⟩,
   ?_,⟨λs o m ν=>(by cases ν),λs o ν=>(by cases ν)⟩,⟨λk a ς=>(by simp[Trace.g?] at ς),λj _ ε=>(by cases ε),λj _ ε=>(by cases ε),λj _ ε=>(by cases ε)⟩,⟨λs o m ν=>(by cases ν),λj b v hv=>(by cases hv)⟩,λj b hb=>?_⟩
  ·by_cases e:k=.inl 0
   ·subst e;rw[se];exact χ.Tl w
   ·rw[Α k e];exact ve w
  ·exact⟨λs o ν=>(by cases ν),λs _ j=>rfl,λj s _=>rfl,λj s sp ν=>(by cases ν),λj s φ o ν=>(by cases ν),λj s k L g o ν=>(by cases ν),λj s m p aL ν=>(by cases ν),λj s k m g ν=>(by cases ν),λj aj ε=>(by rw[cv] at ε;omega),λj k m g _ ν=>(by cases ν),rfl,λj s ν=>(by cases ν),λj s k m g o ν=>(by cases ν),λs j bK k m g b5 g' ν=>(by cases ν),λs j k m g q p aL ν=>(by cases ν),λs o ν=>(by cases ν),λs o ν=>(by cases ν)⟩
  ·have ε:j=0:=by have:=mD hb;rw[cv] at this;omega
   subst ε;simp at hb;subst hb;exact⟨g,by rw[γ];exact Κ,.inl rfl⟩
 rw[solo_eq_crowd];exact Inv.comes _ _ c [0] #[g] w #[] none rfl ⟨η,λi=>η⟩ rfl inv
def χ.fresh (G:χ) (r:Nat):Prop:=(∀o,G.aO r o=none)/\G.row r=none/\G.obj r=none/\∀b,r<b->(∀o,G.aO b o=none)/\G.row b=none/\G.obj b=none
def χ.vq (G:χ) (a:Addr) (v:Value):χ:={G with aO:=λb o=>if b=a.block/\o=a.off then some (v,true) else G.aO b o}
def χ.dL (G:χ) (r:Nat) (c:Array Value) (t:TypeId):χ:=⟨λb o=>if b=r then(c[o]?).map (·,true) else G.aO b o,λb=>if b=r then some (t,c.size) else G.row b,G.obj⟩
def χ.bL (G:χ) (r:Nat) (x:Obj):χ:={G with obj:=λb=>if b=r then some x else G.obj b}
def One:Value->Prop
 | .agg _|.tuple _=>False
 | _=>True
def π {α:Type} (P:Program):Sem α->χ->(α->χ->Prop)->(Value->χ->Prop)->Prop
 | .pure a,G,K,_=>K a G
 | .load m a k,G,K,E=>m=.plain/\a.spot=none/\∃v p,G.aO a.block a.off=some (v,p)/\π P (k v) G K E
 | .store m a v k,G,K,E=>m=.plain/\a.spot=none/\G.owns a.block a.off/\(∃t n,G.row a.block=some (t,n))/\One v/\π P k (G.vq a v) K E
 | .new (.cells c t d') k,G,K,E=>d'=(0,0)/\∀r,G.fresh r->π P (k r) (G.dL r c t) K E
 | .new o k,G,K,E=>∀r,G.fresh r->π P (k r) (G.bL r o) K E
 | .shape r k,G,K,E=>∃t n,G.row r=some (t,n)/\π P (k (some (t,n))) G K E
 | .freeze _ _ _,_,_,_=>False
 | .frozen a k,G,K,E=>(∃t n,G.row a.block=some (t,n))/\π P (k false) G K E
 | .getObj r k,G,K,E=>∃o,G.obj r=some o/\o.isChan=false/\π P (k o) G K E
 | .setObj r o k,G,K,E=>G.e' r/\Obj.rW o=false/\o.isChan=false/\π P k (G.bL r o) K E
 | .choose q k,G,K,E=>if q.forced then π P (k 0) G K E else ∀n,π P (k (q.cut n)) G K E
 | .sys _ _,_,_,_=>False
 | .program k,G,K,E=>π P (k P) G K E
 | .mark m k,G,K,E=>m=.noRoom/\π P k G K E
 | .halt (.panic v),G,_,E=>E v G
 | .halt _,_,_,_=>False
structure dX (G0:χ) (w0:World) (G:χ) (w:World) (es:Array Event):Prop where
 fit:Fits G w
 keeps:fH G0.owns G0.e' w0 w
 kH:BR G0 G w0.heap.size
 gz:∀e∈es,hq G0 w0.heap.size w.heap.size e
theorem dX.start {G:χ} {w:World} (h:Fits G w):dX G w G w #[]:=
 ⟨h,fH.refl _ _ _,⟨λb o v p h=>.inr ⟨v,p,h,id⟩,λb h=>.inr h⟩,λe he=>by simp at he⟩
section
variable {G0 G:χ} {w0 w:World} {es:Array Event}
theorem Fits.bare (h:Fits G w) {b:Nat} (hb:w.heap.size<=b):(∀o,G.aO b o=none)/\G.row b=none/\G.obj b=none:=by
 refine⟨λo=>?_,?_,?_⟩
 ·cases δ:G.aO b o with
  | none=>rfl
  | some x=>obtain⟨c,t,d',hb,_⟩:=qI (h.aO _ _ x.1 x.2 δ);have:=fI hb;omega
 ·cases δ:G.row b with
  | none=>rfl
  | some x=>obtain⟨c,hb,_⟩:=h.row _ x.1 x.2 δ;have:=fI hb;omega
 ·cases δ:G.obj b with
  | none=>rfl
  | some x=>have:=fI (h.obj _ x δ).1;omega
theorem Fits.fresh (h:Fits G w):G.fresh w.heap.size:=
 ⟨(h.bare (Nat.le_refl _)).1,(h.bare (Nat.le_refl _)).2.1,(h.bare (Nat.le_refl _)).2.2,λ_ hb=>h.bare (Nat.le_of_lt hb)⟩
theorem χ.Gu {H H':χ} (J:∀b o,H'.aO b o=none->H.aO b o=none) (U:∀b,H'.row b=none->H.row b=none) (μ:∀b,H'.obj b=none->H.obj b=none) (r:Nat) (h:H'.fresh r):H.fresh r:=
 ⟨λo=>J _ _ (h.1 o),U _ h.2.1,μ _ h.2.2.1,λb hb=>⟨λo=>J _ _ ((h.2.2.2 b hb).1 o),U _ (h.2.2.2 b hb).2.1,μ _ (h.2.2.2 b hb).2.2⟩⟩
theorem χ.LN {H:χ} {r:Nat} (ι:H.fresh r) (c:Array Value) (t:TypeId):∀b,(H.dL r c t).fresh b->H.fresh b:=
 χ.Gu (λb o h=>by
  by_cases e:b=r
  ·subst e;exact ι.1 o
  ·simpa[χ.dL,e] using h) (λb h=>by
  by_cases e:b=r
  ·subst e;exact ι.2.1
  ·simpa[χ.dL,e] using h) (λb h=>h)
theorem χ.Gv {H:χ} {r:Nat} {x:Obj}:∀b,(H.bL r x).fresh b->H.fresh b:=
 χ.Gu (λb o h=>h) (λb h=>h) (λb h=>by
  by_cases e:b=r
  ·subst e;simp[χ.bL] at h
  ·simpa[χ.bL,e] using h)
theorem hq.mono {n jq LO:Nat} {e:Event} (h:hq G n jq e) (Ζ:jq<=LO):hq G n LO e:=by
 obtain⟨loc,wr,oH⟩:=e;cases loc with
 | cell a=>exact h.imp (λx=>⟨x.1,R⟩) id
 | obj r=>exact⟨h.1,h.2.imp (λx=>⟨x.1,R⟩) id⟩
 | _=>exact h
theorem dX.read (h:dX G0 w0 G w es) {a:Addr} {v:Value} {p:Bool} (κ:a.spot=none) (δ:G.aO a.block a.off=some (v,p)):w.cell? a=some v/\dX G0 w0 G w (es.push ⟨.cell a,false,false⟩):=by
 obtain⟨b,o,sp⟩:=a;simp only at κ δ;subst κ;have hv:=h.fit.aO b o v p δ;refine⟨hv,h.fit,h.keeps,h.kH,λe he=>?_⟩;rcases Array.mem_push.1 he with he|rfl
 ·exact h.gz e he
 ·rcases h.kH.aO b o v p δ with Ζ|⟨v0,fK,aj,_⟩
  ·obtain⟨c,t,d',hb,_⟩:=qI hv;exact .inl ⟨Ζ,fI hb⟩
  ·exact .inr ⟨rfl,_,aj⟩
theorem heap_setCell {a:Addr} {v:Value} {c:Array Value} {t:TypeId} {d':Nat×Nat} (κ:a.spot=none) (hb:w.heap[a.block]?=some (.cells c t d')):(w.setCell a v).heap=w.heap.setIfInBounds a.block (.cells (c.setIfInBounds a.off v) t d'):=by
 obtain⟨b,o,sp⟩:=a;simp only at κ hb;subst κ;have aP:=fI hb;simp only[World.setCell];apply Array.ext_getElem?;intro j;rw[Array.getElem?_modify];by_cases e:b=j
 ·subst e;rw[Array.getElem?_setIfInBounds_self_of_lt aP,if_pos rfl,hb];simp
 ·rw[Array.getElem?_setIfInBounds_ne e,if_neg e]
theorem dX.write (h:dX G0 w0 G w es) {a:Addr} {v:Value} (κ:a.spot=none) (δ:G.owns a.block a.off):(∃u,w.cell? a=some u)/\dX G0 w0 (G.vq a v) (w.setCell a v) (es.push ⟨.cell a,true,false⟩):=by
 obtain⟨b,o,sp⟩:=a;simp only at κ δ;subst κ;obtain⟨u,hu⟩:=δ;have hv:=h.fit.aO b o u true hu;obtain⟨c,t,d',hb,Tn⟩:=qI hv;have aP:=fI hb;have a0:=heap_setCell (w:=w) (a:=⟨b,o,none⟩) (v:=v) rfl hb;have cv:(w.setCell ⟨b,o,none⟩ v).heap.size=w.heap.size:=by rw[a0];simp
 have pL:(w.setCell ⟨b,o,none⟩ v).heap[b]?=some (.cells (c.setIfInBounds o v) t d'):=by rw[a0,Array.getElem?_setIfInBounds_self_of_lt aP]
 have pM:∀j,b≠j->(w.setCell ⟨b,o,none⟩ v).heap[j]?=w.heap[j]?:=λj ε=>by rw[a0,Array.getElem?_setIfInBounds_ne ε]
 have ω:o<c.size:=(Array.getElem?_eq_some_iff.1 Tn).1
 have LP:b<w0.heap.size->G0.owns b o:=λjX=>by
  rcases h.kH.aO b o u true hu with Ζ|⟨v0,fK,aj,ψ⟩
  ·omega
  ·exact⟨v0,by rw[aj,ψ rfl]⟩
 refine⟨⟨u,hv⟩,⟨λΨ o' fr fc aX=>?_,λΨ t' jq ι=>?_,λΨ x γ=>?_⟩,⟨by rw[cv];exact h.keeps.size,λΨ c' t' LQ dT=>?_,λΨ x dT γ Ζ=>?_,h.keeps.os,h.keeps.output,h.keeps.tape⟩,⟨λΨ o' fr fc aX=>?_,h.kH.obj⟩,λe he=>?_⟩
 ·simp only[χ.vq] at aX;by_cases e:Ψ=b/\o'=o
  ·obtain⟨rfl,rfl⟩:=e;rw[if_pos ⟨rfl,rfl⟩] at aX;cases aX;exact nV pL (by rw[Array.getElem?_setIfInBounds_self_of_lt ω])
  ·rw[if_neg e] at aX;have:=h.fit.aO Ψ o' fr fc aX;by_cases Δ:Ψ=b
   ·subst Δ;have Γ:o≠o':=λx=>e ⟨rfl,x.symm⟩;obtain⟨c2,t2,LR,fA,n6⟩:=qI this;rw[hb] at fA;cases fA;exact nV pL (by rw[Array.getElem?_setIfInBounds_ne Γ];exact n6)
   ·obtain⟨c2,t2,LR,fA,n6⟩:=qI this;exact nV (by rw[pM Ψ (Ne.symm Δ)];exact fA) n6
 ·obtain⟨c2,fA,ea⟩:=h.fit.row Ψ t' jq ι;by_cases Δ:Ψ=b
  ·subst Δ;rw[hb] at fA;cases fA;exact⟨_,pL,by simpa using ea⟩
  ·exact⟨c2,by rw[pM Ψ (Ne.symm Δ)];exact fA,ea⟩
 ·obtain⟨fA,kI⟩:=h.fit.obj Ψ x γ;have Δ:b≠Ψ:=λe=>by subst e;rw[hb] at fA;cases fA;cases kI
  exact⟨by rw[pM Ψ Δ];exact fA,kI⟩
 ·obtain⟨c2,J,U,μ⟩:=h.keeps.cells Ψ c' t' LQ dT;by_cases Δ:Ψ=b
  ·subst Δ;rw[hb] at J;cases J;refine⟨_,pL,by simpa using U,λo' jT=>?_⟩;have Γ:o≠o':=λe=>by subst e;exact jT (LP (fI dT))
   rw[Array.getElem?_setIfInBounds_ne Γ];exact μ o' jT
  ·exact⟨c2,by rw[pM Ψ (Ne.symm Δ)];exact J,U,μ⟩
 ·have J:=h.keeps.nf Ψ x dT γ Ζ
  have Δ:b≠Ψ:=λe=>by subst e;rw[hb] at J;cases J;cases γ
  rw[pM Ψ Δ];exact J
 ·simp only[χ.vq] at aX;by_cases e:Ψ=b/\o'=o
  ·obtain⟨rfl,rfl⟩:=e;rw[if_pos ⟨rfl,rfl⟩] at aX;cases aX;rcases h.kH.aO _ _ _ _ hu with Ζ|⟨v0,fK,aj,ψ⟩
   ·exact .inl Ζ
   ·exact .inr ⟨v0,fK,aj,ψ⟩
  ·rw[if_neg e] at aX;exact h.kH.aO Ψ o' fr fc aX
 ·rw[cv];rcases Array.mem_push.1 he with he|rfl
  ·exact h.gz e he
  ·rcases Nat.lt_or_ge b w0.heap.size with jX|jX
   ·refine .inr ⟨rfl,?_⟩;exact LP jX
   ·exact .inl ⟨jX,aP⟩
theorem zp {x:Obj} {j:Nat} (ε:j<w.heap.size):(w.heap.push x)[j]?=w.heap[j]?:=by
 rw[Array.getElem?_push,if_neg R]
theorem Cn {x:Obj}:(w.heap.push x)[w.heap.size]?=some x:=η
theorem dX.new (h:dX G0 w0 G w es) {x:Obj} {G':χ} (δ:∀b o,b≠w.heap.size->G'.aO b o=G.aO b o) (ι:∀b,b≠w.heap.size->G'.row b=G.row b) (ω:∀b,b≠w.heap.size->G'.obj b=G.obj b)
  (Υ:Fits {aO:=λb o=>if b=w.heap.size then G'.aO b o else none,row:=λb=>if b=w.heap.size then G'.row b else none,obj:=λb=>if b=w.heap.size then G'.obj b else none} {w with heap:=w.heap.push x}) :
  dX G0 w0 G' {w with heap:=w.heap.push x} es:=by
 have hle:=h.keeps.size;refine⟨⟨λb o v p hb=>?_,λb t n hb=>?_,λb y hb=>?_⟩,⟨by simp;omega,λb c t d' hb=>?_,λb y hb Ι Ζ=>?_,h.keeps.os,h.keeps.output,h.keeps.tape⟩,⟨λb o v p hb=>?_,λb ⟨y,hb⟩=>?_⟩,λe he=>(h.gz e he).mono η⟩
 ·by_cases e:b=w.heap.size
  ·exact Υ.aO b o v p (by simp only[e,if_true];rw[<-e];exact hb)
  ·rw[δ b o e] at hb;obtain⟨c2,t2,LR,fA,n6⟩:=qI (h.fit.aO b o v p hb);exact nV (w:={w with heap:=w.heap.push x}) (by show(w.heap.push x)[b]?=_;rw[zp (fI fA)];exact fA) n6
 ·by_cases e:b=w.heap.size
  ·exact Υ.row b t n (by simp only[e,if_true];rw[<-e];exact hb)
  ·rw[ι b e] at hb;obtain⟨c2,fA,ea⟩:=h.fit.row b t n hb;exact⟨c2,by show(w.heap.push x)[b]?=_;rw[zp (fI fA)];exact fA,ea⟩
 ·by_cases e:b=w.heap.size
  ·exact Υ.obj b y (by simp only[e,if_true];rw[<-e];exact hb)
  ·rw[ω b e] at hb;obtain⟨fA,Ι⟩:=h.fit.obj b y hb;exact⟨by show(w.heap.push x)[b]?=_;rw[zp (fI fA)];exact fA,Ι⟩
 ·obtain⟨c2,J,U,μ⟩:=h.keeps.cells b c t d' hb;exact⟨c2,by show(w.heap.push x)[b]?=_;rw[zp (fI J)];exact J,U,μ⟩
 ·have J:=h.keeps.nf b y hb Ι Ζ
  show(w.heap.push x)[b]?=_;rw[zp (fI J)];exact J
 ·by_cases e:b=w.heap.size
  ·exact .inl R
  ·rw[δ b o e] at hb;exact h.kH.aO b o v p hb
 ·by_cases e:b=w.heap.size
  ·exact .inl R
  ·rw[ω b e] at hb;exact h.kH.obj b ⟨y,hb⟩
end
section
variable {G0 G:χ} {w0 w:World} {es:Array Event} {P:Program}
theorem dX.push (h:dX G0 w0 G w es) {e:Event} (he:hq G0 w0.heap.size w.heap.size e):dX G0 w0 G w (es.push e):=
 ⟨h.fit,h.keeps,h.kH,λx γ=>(Array.mem_push.1 γ).elim (h.gz x) λy=>y▸he⟩
theorem dX.draw (h:dX G0 w0 G w es) (n:Nat):dX G0 w0 G {w with drawn:=n} es:=
 ⟨⟨h.fit.aO,h.fit.row,h.fit.obj⟩,⟨h.keeps.size,h.keeps.cells,h.keeps.nf,h.keeps.os,h.keeps.output,h.keeps.tape⟩,h.kH,h.gz⟩
theorem dX.row (h:dX G0 w0 G w es) (c:Array Value) (t:TypeId):dX G0 w0 (G.dL w.heap.size c t) {w with heap:=w.heap.push (.cells c t (0,0))} es:=by
 refine h.new (λb o hb=>by simp[χ.dL,hb]) (λb hb=>by simp[χ.dL,hb]) (λb hb=>rfl) ⟨λb o v p hb=>?_,λb t' n hb=>?_,λb y hb=>?_⟩
 ·by_cases e:b=w.heap.size
  ·simp[χ.dL,e] at hb;obtain⟨k7,fA,rfl,rfl⟩:=hb;rw[e];exact nV (w:={w with heap:=w.heap.push (.cells c t (0,0))}) Cn fA
  ·simp[e] at hb
 ·by_cases e:b=w.heap.size
  ·simp[χ.dL,e] at hb;obtain⟨rfl,rfl⟩:=hb;rw[e];exact⟨c,Cn,rfl⟩
  ·simp[e] at hb
 ·by_cases e:b=w.heap.size
  ·simp only[e,if_true,χ.dL] at hb;rw[h.fit.fresh.2.2.1] at hb;cases hb
  ·simp[e] at hb
theorem dX.obj (h:dX G0 w0 G w es) {x:Obj} (γ:Obj.rW x=false):dX G0 w0 (G.bL w.heap.size x) {w with heap:=w.heap.push x} es:=by
 refine h.new (λb o hb=>rfl) (λb hb=>rfl) (λb hb=>by simp[χ.bL,hb]) ⟨λb o v p hb=>?_,λb t' n hb=>?_,λb y hb=>?_⟩
 ·by_cases e:b=w.heap.size
  ·simp only[e,if_true,χ.bL] at hb;rw[h.fit.fresh.1] at hb;cases hb
  ·simp[e] at hb
 ·by_cases e:b=w.heap.size
  ·simp only[e,if_true,χ.bL] at hb;rw[h.fit.fresh.2.1] at hb;cases hb
  ·simp[e] at hb
 ·by_cases e:b=w.heap.size
  ·simp[χ.bL,e] at hb;subst hb;rw[e];exact⟨Cn,γ⟩
  ·simp[e] at hb
theorem dX.setObj (h:dX G0 w0 G w es) {r:Nat} {x:Obj} (ι:G.e' r) (γ:Obj.rW x=false):(∃y,w.heap[r]?=some y/\Obj.rW y=false)/\dX G0 w0 (G.bL r x) {w with heap:=w.heap.setIfInBounds r x} (es.push ⟨.obj r,true,false⟩):=by
 obtain⟨y,Ι⟩:=ι;obtain⟨hb,Co⟩:=h.fit.obj r y Ι;have aP:=fI hb;have pL:(w.heap.setIfInBounds r x)[r]?=some x:=Array.getElem?_setIfInBounds_self_of_lt aP;have pM:∀j,r≠j->(w.heap.setIfInBounds r x)[j]?=w.heap[j]?:=λj ε=>Array.getElem?_setIfInBounds_ne ε;have Gw:∀b c t d',w.heap[b]?=some (.cells c t d')->r≠b:=λb c t d' δ e=>by subst e;rw[hb] at δ;cases δ;cases Co
 refine⟨⟨y,hb,Co⟩,⟨λb o v p δ=>?_,λb t n δ=>?_,λb z Τ=>?_⟩,⟨by simp;exact h.keeps.size,λb c t d' δ=>?_,λb z δ Τ Ζ=>?_,h.keeps.os,h.keeps.output,h.keeps.tape⟩,⟨h.kH.aO,λb Τ=>?_⟩,λe he=>?_⟩
 ·obtain⟨c,t,d',J,U⟩:=qI (h.fit.aO b o v p δ);exact nV (w:={w with heap:=w.heap.setIfInBounds r x}) (by show(w.heap.setIfInBounds r x)[b]?=_;rw[pM b (Gw b c t d' J)];exact J) U
 ·obtain⟨c,J,U⟩:=h.fit.row b t n δ;exact⟨c,by show(w.heap.setIfInBounds r x)[b]?=_;rw[pM b (Gw b c t _ J)];exact J,U⟩
 ·by_cases e:b=r
  ·subst e;simp[χ.bL] at Τ;subst Τ;exact⟨pL,γ⟩
  ·simp[χ.bL,e] at Τ;obtain⟨J,U⟩:=h.fit.obj b z Τ;exact⟨by show(w.heap.setIfInBounds r x)[b]?=_;rw[pM b (Ne.symm e)];exact J,U⟩
 ·obtain⟨c2,J,U,μ⟩:=h.keeps.cells b c t d' δ;exact⟨c2,by show(w.heap.setIfInBounds r x)[b]?=_;rw[pM b (Gw b c2 t d' J)];exact J,U,μ⟩
 ·have J:=h.keeps.nf b z δ Τ Ζ
  have e:r≠b:=λe=>by
   subst e;rcases h.kH.obj r ⟨y,Ι⟩ with γ|γ
   ·have:=fI δ;omega
   ·exact Ζ γ
  show(w.heap.setIfInBounds r x)[b]?=_;rw[pM b e];exact J
 ·by_cases e:b=r
  ·subst e;exact h.kH.obj b ⟨y,Ι⟩
  ·obtain⟨z,Τ⟩:=Τ;simp[χ.bL,e] at Τ;exact h.kH.obj b ⟨z,Τ⟩
 ·simp only[Array.size_setIfInBounds];rcases Array.mem_push.1 he with he|rfl
  ·exact h.gz e he
  ·exact⟨rfl,(h.kH.obj r ⟨y,Ι⟩).imp (λγ=>⟨γ,aP⟩) id⟩
theorem π.sound {α:Type} {K:α->χ->Prop} {E:Value->χ->Prop} (s:Sem α):∀{G:χ} {w:World} {es:Array Event},π P s G K E->dX G0 w0 G w es->
  ∃G' w' es',dX G0 w0 G' w' es'/\((∃a,s.runT P w es=(.ok a w',es')/\K a G')\/(∃v,s.runT P w es=(.halt (.panic v) w',es')/\E v G')):=by
 induction s with
 | pure a=>intro G w es h hu;exact⟨G,w,es,hu,.inl ⟨a,rfl,h⟩⟩
 | load m a k Β=>
  intro G w es h hu;obtain⟨rfl,κ,v,p,δ,ς⟩:=h;obtain⟨hv,vr⟩:=hu.read κ δ;obtain⟨G',w',es',J,U⟩:=Β v ς vr;refine⟨G',w',es',J,?_⟩;simp only[Sem.runT,hv];exact U
 | store m a v k Β=>
  intro G w es h hu;obtain⟨rfl,κ,δ,⟨t,n,bS⟩,Cp,ς⟩:=h;obtain⟨⟨u,hv⟩,vr⟩:=hu.write (v:=v) κ δ;obtain⟨G',w',es',J,U⟩:=Β ς vr;have LS:w.frozen? a=false:=by
   obtain⟨c,hb,_⟩:=hu.fit.row a.block t n bS;simp[World.frozen?,hb]
  refine⟨G',w',es',J,?_⟩;have e:(Sem.store .plain a v k).runT P w es=k.runT P (w.setCell a v) (es.push ⟨.cell a,true,false⟩):=by
   cases v<;>first|exact Cp.elim|(simp only[Sem.runT,hv,LS];rfl)
  rw[e];exact U
 | new o k Β=>
  intro G w es h hu;cases o with
  | cells c t d'=>
   obtain⟨rfl,ς⟩:=h;obtain⟨G',w',es',J,U⟩:=Β w.heap.size (ς _ hu.fit.fresh) (hu.row c t);exact⟨G',w',es',J,U⟩
  | _=>
   obtain⟨G',w',es',J,U⟩:=Β w.heap.size (h _ hu.fit.fresh) (hu.obj rfl);exact⟨G',w',es',J,U⟩
 | shape r k Β=>
  intro G w es h hu;obtain⟨t,n,ι,ς⟩:=h;have e:w.shape? r=some (t,n):=by
   obtain⟨c,hb,ν⟩:=hu.fit.row r t n ι;simp[World.shape?,hb,ν]
  obtain⟨G',w',es',J,U⟩:=Β _ ς hu;refine⟨G',w',es',J,?_⟩;simp only[Sem.runT,e];exact U
 | freeze a n k Β=>intro G w es h hu;exact h.elim
 | frozen a k Β=>
  intro G w es h hu;obtain⟨⟨t,n,ι⟩,ς⟩:=h;have e:w.frozen? a=false:=by
   obtain⟨c,hb,_⟩:=hu.fit.row a.block t n ι;simp[World.frozen?,hb]
  obtain⟨G',w',es',J,U⟩:=Β _ ς hu;refine⟨G',w',es',J,?_⟩;simp only[Sem.runT,e];exact U
 | getObj r k Β=>
  intro G w es h hu;obtain⟨o,ω,k0,ς⟩:=h;obtain⟨hb,cw⟩:=hu.fit.obj r o ω;have aP:=fI hb;have vr:=hu.push (e:=⟨.obj r,false,false⟩) ⟨rfl,(hu.kH.obj r ⟨o,ω⟩).imp (λγ=>⟨γ,aP⟩) id⟩;obtain⟨G',w',es',J,U⟩:=Β _ ς vr;refine⟨G',w',es',J,?_⟩;have e:(Sem.getObj r k).runT P w es=(k o).runT P w (es.push ⟨.obj r,false,false⟩):=by
   cases o<;>first|(simp only[Sem.runT,hb];first|done|rfl|(rw[k0];done))|(cases cw;done)
  rw[e];exact U
 | setObj r o k Β=>
  intro G w es h hu;obtain⟨ι,cw,k0,ς⟩:=h;obtain⟨⟨y,hb,Co⟩,vr⟩:=hu.setObj ι cw;obtain⟨G',w',es',J,U⟩:=Β ς vr;refine⟨G',w',es',J,?_⟩;have e:(Sem.setObj r o k).runT P w es=k.runT P {w with heap:=w.heap.setIfInBounds r o} (es.push ⟨.obj r,true,false⟩):=by
   cases y<;>first|(simp only[Sem.runT,hb,k0];done)|(cases Co;done)
  rw[e];exact U
 | choose q k Β=>
  intro G w es h hu;simp only[π] at h;by_cases Φ:q.forced=true
  ·rw[if_pos Φ] at h;obtain⟨G',w',es',J,U⟩:=Β _ h hu;refine⟨G',w',es',J,?_⟩;simp only[Sem.runT,Φ,if_true];exact U
  ·rw[if_neg Φ] at h;obtain⟨G',w',es',J,U⟩:=Β _ (h (w.tape w.drawn q)) (hu.draw (w.drawn+1));refine⟨G',w',es',J,?_⟩;simp only[Sem.runT,Φ];exact U
 | sys c k Β=>intro G w es h hu;exact h.elim
 | program k Β=>
  intro G w es h hu;obtain⟨G',w',es',J,U⟩:=Β P h hu;exact⟨G',w',es',J,U⟩
 | mark m k Β=>
  intro G w es h hu;obtain⟨rfl,ς⟩:=h;obtain⟨G',w',es',J,U⟩:=Β ς (hu.push (e:=⟨.mark .noRoom,false,true⟩) rfl);exact⟨G',w',es',J,U⟩
 | halt x=>
  intro G w es h hu;cases x<;>first|exact h.elim|skip
  exact⟨G,w,es,hu,.inr ⟨_,rfl,h⟩⟩
theorem mem_seen {fn:FuncId} {e:Event} (h:e∈seen P fn es):e∈es:=by
 unfold seen at h;obtain⟨l⟩:=es;have key:∀(l:List Event) (q:Bool) (kept:Array Event) (x:Event),x∈(l.foldl (λ(s:Bool×Array Event) e=>match e.loc with
   | .mark (Mark.extern f)=>((P.funcs[f]?).any (·.norace),s.2)
   | _=>(s.1,if s.1&&!e.sync then s.2 else s.2.push e)) (q,kept)).2->x∈kept\/x∈l:=by
  intro l
  induction l with
  | nil=>intro q kept x γ;exact .inl γ
  | cons y l Β=>
   intro q kept x γ;rw[List.foldl_cons] at γ;rcases Β _ _ x γ with hR|hR
   ·split at hR
    ·exact .inl hR
    ·simp only at hR;split at hR
     ·exact .inl hR
     ·rcases Array.mem_push.1 hR with B3|rfl
      ·exact .inl B3
      ·exact .inr η
   ·exact .inr (by simp[hR])
 simp only[List.foldl_toArray'] at h;rcases key l _ #[] e h with γ|γ
 ·simp at γ
 ·simpa using γ
end
def cx (P:Program) (Q:Value->Prop) (mn:Bool) (y:aZ) (aA:Frame) (cs:List Frame) (H:χ):Prop:=Goes P Q mn (Go.Conc.G aA cs) {y with G:=H}
def g1:Type:=aZ->Prop
class bn where
 q:g1->Prop
structure Seq [bn] (x:g1):Prop where
 cls:bn.q x
 rel:∀y,x y->y.rel=false
 aM:∀y,x y->y.aM=λ_=>none
def aR (P:Program) (Q:Value->Prop) (mn:Bool) (x:g1) (aA:Frame) (cs:List Frame) (H:χ):Prop:=∀y,x y->cx P Q mn y aA cs H
def aA (b:Frame) (t:Array Value) (k:List Item):Frame:={b with tmps:=t,todo:=k}
section
variable {P:Program} {Q:Value->Prop} {mn:Bool} {x:g1} {cs:List Frame} {H:χ} {b f:Frame} {t:Array Value} {k:List Item}
theorem cx.own {y:aZ} (ep:y.rel=false) (fX:y.aM=λ_=>none) (h:∀w,Fits H w->∃f' cs' w' es H',stepG P mn (Go.Conc.G f cs) w=.go (Go.Conc.G f' cs') w' es/\dX H w H' w' es/\cx P Q mn y f' cs' H'):cx P Q mn y f cs H:=by
 refine Goes.step (λι=>by rw[show({y with G:=H}:aZ).rel=y.rel from rfl,ep] at ι;cases ι) (.inr ⟨⟨rfl,rfl⟩,.inl λw Υ hv=>?_⟩);obtain⟨f',cs',w',es,H',J,U,μ⟩:=h w Υ;rw[J];refine⟨H',y.aM,⟨rfl,rfl⟩,U.keeps,U.fit,λb c t hb=>?_,U.kH,λb c hb=>.inl hb,λe he=>?_,λb c hb=>?_,μ⟩
 ·rw[fX] at hb;cases hb
 ·rw[if_neg (by rw[show({y with G:=H}:aZ).rel=y.rel from rfl,ep];simp)];exact U.gz e he
 ·rw[fX] at hb;cases hb
variable [bn]
theorem aR.own (γ:Seq x) (h:∀w,Fits H w->∃f' cs' w' es H',stepG P mn (Go.Conc.G f cs) w=.go (Go.Conc.G f' cs') w' es/\dX H w H' w' es/\aR P Q mn x f' cs' H'):aR P Q mn x f cs H:=
 λy Ι=>.own (γ.rel y Ι) (γ.aM y Ι) λw Υ=>let ⟨f',cs',w',es,H',a,b,c⟩:=h w Υ;⟨f',cs',w',es,H',a,b,c y Ι⟩
theorem aR.still (γ:Seq x) {f':Frame} {cs':List Frame} (ν:∀w,stepG P mn (Go.Conc.G f cs) w=.go (Go.Conc.G f' cs') w #[]) (h:aR P Q mn x f' cs' H):aR P Q mn x f cs H:=
 .own γ λw Υ=>⟨f',cs',w,#[],H,ν w,.start Υ,h⟩
theorem jy (hb:b.mode=.run) (w:World):stepG P mn (Go.Conc.G (aA b t k) cs) w=stepG.exec P mn true (aA b t k) cs none w:=by
 obtain⟨fn,xj,td,To,tF,kd,ro⟩:=b;simp only at hb;subst hb;rfl
section Tp
variable (γ:Seq x) (hb:b.mode=.run)
include γ hb
theorem aR.to {ag:List Item} (ν:∀w,stepG.exec P mn true (aA b t k) cs none w=.go (Go.Conc.G (aA b t ag) cs) w #[]) (h:aR P Q mn x (aA b t ag) cs H):aR P Q mn x (aA b t k) cs H:=
 .still γ (λw=>(jy hb w).trans (ν w)) h
theorem aR.skip (h:aR P Q mn x (aA b t k) cs H):aR P Q mn x (aA b t (.code .skip::k)) cs H:=.to γ hb (λ_=>rfl) h
theorem aR.inBlock {l:Nat} (h:aR P Q mn x (aA b t k) cs H):aR P Q mn x (aA b t (.inBlock l::k)) cs H:=.to γ hb (λ_=>rfl) h
theorem aR.seq {a c:Code} (h:aR P Q mn x (aA b t (.code a::.code c::k)) cs H):aR P Q mn x (aA b t (.code (.seq a c)::k)) cs H:=.to γ hb (λ_=>rfl) h
theorem aR.block {l:Nat} {c:Code} (h:aR P Q mn x (aA b t (.code c::.inBlock l::k)) cs H):aR P Q mn x (aA b t (.code (.block l c)::k)) cs H:=.to γ hb (λ_=>rfl) h
theorem aR.loop {c:Code} (h:aR P Q mn x (aA b t (.code c::.inLoop c::k)) cs H):aR P Q mn x (aA b t (.code (.loop c)::k)) cs H:=.to γ hb (λ_=>rfl) h
theorem aR.inLoop {c:Code} (h:aR P Q mn x (aA b t (.code c::.inLoop c::k)) cs H):aR P Q mn x (aA b t (.inLoop c::k)) cs H:=.to γ hb (λ_=>rfl) h
theorem aR.region {id:Nat} {ops:Array Oper} (h:aR P Q mn x (aA b t (.inRegion ops (List.range ops.size)::k)) cs H):aR P Q mn x (aA b t (.code (.region id ops false)::k)) cs H:=.to γ hb (λ_=>rfl) h
theorem aR.bJ {ops:Array Oper} (h:aR P Q mn x (aA b t k) cs H):aR P Q mn x (aA b t (.inRegion ops []::k)) cs H:=.to γ hb (λ_=>rfl) h
theorem aR.cond {c:Operand} {a e:Code} {v:Bool} (δ:(aA b t k).eval c=.bool v) (h:aR P Q mn x (aA b t (.code (if v then a else e)::k)) cs H):aR P Q mn x (aA b t (.code (.cond c a e)::k)) cs H:=by
 refine .to γ hb (λw=>?_) h;have aX:(aA b t (.code (.cond c a e)::k)).eval c=.bool v:=δ;unfold stepG.exec;simp only[aA] at aX ⊢;rw[aX];rfl
theorem aR.exit {l:Nat} {ag:List Item} (he:exitTo l k=some ag) (h:aR P Q mn x (aA b t ag) cs H):aR P Q mn x (aA b t (.code (.exit l)::k)) cs H:=by
 refine .to γ hb (λw=>?_) h;unfold stepG.exec;simp only[aA,he,Option.elim];rfl
theorem aR.draw {id:Nat} {ops:Array Oper} (h:∀n,aR P Q mn x (aA b t (.inRegion ops (Region.schedule (P.follows .mixedOrders) ops n)::k)) cs H):aR P Q mn x (aA b t (.code (.region id ops true)::k)) cs H:=by
 refine .own γ λw Υ=>⟨aA b t (.inRegion ops (Region.schedule (P.follows .mixedOrders) ops (w.tape w.drawn (.order b.fn id)))::k),cs,{w with drawn:=w.drawn+1},#[],H,?_,(dX.start Υ).draw _,h _⟩;rw[jy hb];rfl
theorem aR.ret (ι:b.roundOf=none) (h:aR P Q mn x {aA b t (.code .ret::k) with mode:=.returning} cs H):aR P Q mn x (aA b t (.code .ret::k)) cs H:=by
 refine .still γ (λw=>?_) h;rw[jy hb];unfold stepG.exec;simp only[aA,ι];rfl
theorem aR.sf (ι:b.roundOf=none) (h:aR P Q mn x {aA b t [] with mode:=.returning} cs H):aR P Q mn x (aA b t []) cs H:=by
 refine .still γ (λw=>?_) h;rw[jy hb];unfold stepG.exec;simp only[aA,ι];rfl
end Tp
end
end Go.TL
namespace Go.TL
open Go.Conc
open Go.ConcM (OsLater)
open Go.ConcN (sumTo upd sumTo_upd upd_ne upd_same sumTo_congr le_sumTo)
variable [bn]
def bp (t:Array Value):Operand->Value
 | .tmp n=>t.getD n undef
 | .const v=>v
 | .global g=>.pointer (some ⟨g,0,none⟩)
 | .func f=>.func (.func f) #[] #[]
theorem zq (b:Frame) (t:Array Value) (k:List Item):(aA b t k).eval=bp t:=by funext o;cases o<;>rfl
def put (o:Oper) (t:Array Value) (v:Value):Array Value:=match o.dst with|some d=>t.setIfInBounds d v|none=>t
def LU (P:Program) (Q:Value->Prop) (mn:Bool) (x:g1) (b:Frame) (t:Array Value) (ops:Array Oper) (i:Nat) (o:Oper) (rest:List Nat) (k:List Item) (cs:List Frame):Next->χ->Prop
 | .value v,H=>aR P Q mn x (aA b (put o t v) (.inRegion ops rest::k)) cs H
 | .skip,H=>aR P Q mn x (aA b (put o t undef) (.inRegion ops rest::k)) cs H
 | .enter f args,H=>aR P Q mn x (Frame.enter P f args .normal) (aA b t (.inRegion ops (i::rest)::k)::cs) H
 | .round l f xj Cq sg,H=>aR P Q mn x (Frame.round l f xj Cq sg .normal) (aA b t (.inRegion ops (i::rest)::k)::cs) H
 | .defer d,H=>aR P Q mn x (aA {b with defers:=d::b.defers} (put o t undef) (.inRegion ops rest::k)) cs H
 | .recover,H=>b.roundOf=none/\match tryRecover (aA b t (.inRegion ops (i::rest)::k)) cs with
  | some (v,cs')=>aR P Q mn x (aA b (put o t v) (.inRegion ops rest::k)) cs' H
  | none=>aR P Q mn x (aA b (put o t .nilIface) (.inRegion ops rest::k)) cs H
 | _,_=>False
section
variable {P:Program} {Q:Value->Prop} {mn:Bool} {x:g1} {cs:List Frame} {H:χ} {b f:Frame} {t:Array Value} {k:List Item}
theorem dX.sub {G0 G:χ} {w0 w:World} {es es':Array Event} (h:dX G0 w0 G w es) (ν:∀e∈es',e∈es):dX G0 w0 G w es':=⟨h.fit,h.keeps,h.kH,λe he=>h.gz e (ν e he)⟩
theorem iF {b:Frame} {ops:Array Oper} {i:Nat} {o:Oper} {rest:List Nat} {v:Value} (ω:ops[i]?=some o):(aA b t (.inRegion ops (i::rest)::k)).finish v=aA b (put o t v) (.inRegion ops rest::k):=by
 simp only[Frame.finish,aA,ω,Option.bind,put];cases o.dst<;>rfl
theorem aR.unwanted (γ:Seq x) (hb:b.mode=.run) {ops:Array Oper} {i:Nat} {o:Oper} {rest:List Nat} (ω:ops[i]?=some o) (hw:Region.wanted o (yielded ops t)=false)
  (h:aR P Q mn x (aA b (put o t undef) (.inRegion ops rest::k)) cs H):aR P Q mn x (aA b t (.inRegion ops (i::rest)::k)) cs H:=by
 refine .still γ (f':=aA b (put o t undef) (.inRegion ops rest::k)) (cs':=cs) (λw=>?_) h;rw[jy hb,<-iF ω];have vc:((ops[i]?).map (Region.wanted · (yielded ops t))).getD false=false:=by simp[ω,hw]
 unfold stepG.exec;simp only[aA,vc];rfl
theorem aR.op (γ:Seq x) (hb:b.mode=.run) {ops:Array Oper} {i:Nat} {o:Oper} {rest:List Nat} (ω:ops[i]?=some o) (hw:Region.wanted o (yielded ops t)=true) (hd:b.roundOf=none\/∀c,o.op≠.defer c)
  (h:π P (execOp (bp t) o) H (LU P Q mn x b t ops i o rest k cs) (λv H'=>aR P Q mn x {aA b t (.inRegion ops (i::rest)::k) with mode:=.panicking [{v,recovered:=false}]} cs H')) :
  aR P Q mn x (aA b t (.inRegion ops (i::rest)::k)) cs H:=by
 refine .own γ λw Υ=>?_;obtain⟨H',w',es',hu,ia⟩:=π.sound (P:=P) (G0:=H) (w0:=w) (execOp (bp t) o) h (dX.start Υ);have zr:stepG P mn (Go.Conc.G (aA b t (.inRegion ops (i::rest)::k)) cs) w=stepG.apply P true (aA b t (.inRegion ops (i::rest)::k)) cs none (execOp (bp t) o) w:=by
  rw[jy hb];have vc:((ops[i]?).map (Region.wanted · (yielded ops t))).getD false=true:=by simp[ω,hw]
  have he:(aA b t (.inRegion ops (i::rest)::k)).oper?=some o:=by simp[Frame.oper?,aA,ω]
  unfold stepG.exec;simp only[aA,vc,if_true];simp only[aA] at he;unfold stepG.oper;simp only[he];rcases hd with hd|hd
  ·simp only[hd];rw[<-zq b t (.inRegion ops (i::rest)::k)];rfl
  ·cases ι:b.roundOf with
   | none=>rw[<-zq b t (.inRegion ops (i::rest)::k)];rfl
   | some l=>
    cases Μ:o.op<;>first|exact absurd Μ (hd _)|(simp only;rw[<-zq b t (.inRegion ops (i::rest)::k)];rfl)
 rw[zr];generalize gk:(if(aA b t (.inRegion ops (i::rest)::k)).kind==.early then #[] else es')=n7;have km:∀e∈seen P b.fn n7,e∈es':=λe he=>by
  have:=mem_seen he;rw[<-gk] at this;split at this
  ·simp at this
  ·exact this
 have oQ:∀v,(aA b t (.inRegion ops (i::rest)::k)).finish v=aA b (put o t v) (.inRegion ops rest::k):=λv=>iF ω;rcases ia with⟨gJ,eb,ζ⟩|⟨v,eb,dw⟩
 ·cases gJ<;>first|exact ζ.elim|skip
  case value v=>exact⟨_,_,w',seen P b.fn n7,H',by unfold stepG.apply;simp only[eb,if_true];rw[gk,oQ];simp[GStep.after,Go.Conc.G,aA],hu.sub km,ζ⟩
  case skip=>exact⟨_,_,w',seen P b.fn n7,H',by unfold stepG.apply;simp only[eb,if_true];rw[gk,oQ];simp[GStep.after,Go.Conc.G,aA],hu.sub km,ζ⟩
  case enter f args=>exact⟨_,_,w',seen P b.fn n7,H',by unfold stepG.apply;simp only[eb,if_true];rw[gk];simp[GStep.after,Go.Conc.G,aA],hu.sub km,ζ⟩
  case round l f xj Cq sg=>exact⟨_,_,w',seen P b.fn n7,H',by unfold stepG.apply;simp only[eb,if_true];rw[gk];simp[GStep.after,Go.Conc.G,aA],hu.sub km,ζ⟩
  case defer d=>exact⟨_,_,w',seen P b.fn n7,H',by unfold stepG.apply;simp only[eb,if_true];rw[gk];simp[GStep.after,Go.Conc.G,Frame.finish,aA,put,ω];cases o.dst<;>rfl,hu.sub km,ζ⟩
  case recover=>
   obtain⟨cn,ζ⟩:=ζ;cases tG:tryRecover (aA b t (.inRegion ops (i::rest)::k)) cs with
   | none=>
    rw[tG] at ζ;exact⟨_,_,w',seen P b.fn n7,H',by unfold stepG.apply;simp only[eb,if_true];rw[gk,oQ];simp only[aA] at tG ⊢;simp only[cn];rw[cn] at tG;rw[tG];simp[GStep.after,Go.Conc.G],hu.sub km,ζ⟩
   | some r=>
    obtain⟨v,cs'⟩:=r;rw[tG] at ζ;exact⟨_,_,w',seen P b.fn n7,H',by unfold stepG.apply;simp only[eb,if_true];rw[gk];simp only[aA] at tG ⊢;simp only[cn];rw[cn] at tG;rw[tG];simp[GStep.after,Go.Conc.G];(have e:=oQ v;simp only[aA,cn] at e;exact e),hu.sub km,ζ⟩
 ·exact⟨_,_,w',seen P b.fn n7,H',by unfold stepG.apply;simp only[eb,if_true];rw[gk];simp[GStep.after,Go.Conc.G,Frame.raise,aA,hb],hu.sub km,dw⟩
end
section
variable {P:Program} {Q:Value->Prop} {mn:Bool} {x:g1} {cs rest:List Frame} {H:χ} {b f c:Frame} {t:Array Value} {k:List Item} {fn:Func}
theorem xk (hm:f.mode≠.run) (w:World):stepG P mn (Go.Conc.G f cs) w=unwind P mn f cs none w:=by
 obtain⟨a1,bd,cI,gv,tF,mq,u4⟩:=f;cases tF with
 | run=>exact absurd rfl hm
 | returning=>rfl
 | panicking ch=>rfl
theorem aR.back (γ:Seq x) (hm:f.mode=.returning) (hd:f.defers=[]) (ς:f.kind=.normal\/f.kind=.wrapped) (bM:P.funcs[f.fn]?=some fn)
  (h:π P (results fn f.tmps) H (λv H'=>aR P Q mn x (c.finish v) rest H') (λ_ _=>False)):aR P Q mn x f (c::rest) H:=by
 refine .own γ λw Υ=>?_;obtain⟨H',w',es',hu,ia⟩:=π.sound (P:=P) (G0:=H) (w0:=w) (results fn f.tmps) h (dX.start Υ);rcases ia with⟨v,eb,ζ⟩|⟨v,eb,dw⟩
 ·refine⟨_,_,w',seen P f.fn es',H',?_,hu.sub λe he=>mem_seen he,ζ⟩;rw[xk (by rw[hm];simp)];unfold unwind;simp only[hd,hm,bM,eb];unfold doReturn;rcases ς with ς|ς<;>simp[ς,GStep.after,Go.Conc.G]
 ·exact dw.elim
theorem aR.Gx (γ:Seq x) (hm:f.mode=.returning) (hd:f.defers=[]) (ς:f.kind=.deferred) (bM:P.funcs[f.fn]?=some fn)
  (h:π P (results fn f.tmps) H (λ_ H'=>aR P Q mn x (match c.mode with
   | .panicking ({recovered:=true,..}::Tq)=>(match Tq.dropWhile (!·.goexit) with|[]=>{c with mode:=.returning}|r=>{c with mode:=.panicking r})
   | _=>c) rest H') (λ_ _=>False)):aR P Q mn x f (c::rest) H:=by
 refine .own γ λw Υ=>?_;obtain⟨H',w',es',hu,ia⟩:=π.sound (P:=P) (G0:=H) (w0:=w) (results fn f.tmps) h (dX.start Υ);rcases ia with⟨v,eb,ζ⟩|⟨v,eb,dw⟩
 ·refine⟨_,_,w',seen P f.fn es',H',?_,hu.sub λe he=>mem_seen he,ζ⟩;rw[xk (by rw[hm];simp)];unfold unwind;simp only[hd,hm,bM,eb];unfold doReturn;simp only[ς,GStep.after];rw[Array.append_empty];rfl
 ·exact dw.elim
theorem aR.deferred (γ:Seq x) (hm:f.mode≠.run) {d:Deferred} {ds:List Deferred} (hd:f.defers=d::ds) (δ:∀r,d.target≠.collected r) (Ζ:d.target≠.nil) {g:FuncId} {args:Array Value}
  (ι:∀w,(invoke d.target d.args).runT P w #[]=(.ok (.enter g args) w,#[])) (h:aR P Q mn x (Frame.enter P g args .deferred) ({f with defers:=ds}::cs) H):aR P Q mn x f cs H:=by
 refine .still γ (λw=>?_) h;rw[xk hm];unfold unwind;obtain⟨xl,as9⟩:=d;simp only at δ Ζ ι;have key:callDeferred P {f with defers:=ds} cs none ⟨xl,as9⟩ w=.go (Go.Conc.G (Frame.enter P g args .deferred) ({f with defers:=ds}::cs)) w #[]:=by
  unfold callDeferred;simp only[ι w];cases xl<;>first|exact absurd rfl Ζ|(simp[GStep.after,seen,Go.Conc.G])
 cases xl with
 | collected r=>exact absurd rfl (δ r)
 | fn a b=>simp only[hd];exact key
 | nil=>exact absurd rfl Ζ
 | builtin a b c d=>simp only[hd];exact key
 | coroexit c=>simp only[hd];exact key
theorem aR.raised (γ:Seq x) {ch:List PanicEntry} (hm:f.mode=.panicking ch) (hd:f.defers=[]) (Tr:f.catches P=false) (h:aR P Q mn x (c.raise ch) rest H):aR P Q mn x f (c::rest) H:=by
 refine .still γ (λw=>?_) h;rw[xk (by rw[hm];simp)];unfold unwind;simp only[hd,hm,Tr];rfl
theorem aR.done (γ:Seq x) (Ν:∀y,x y->∀s,gj (y.tok s)) (tH:∀y,x y->y.deaf=0) (hm:f.mode=.returning) (hd:f.defers=[]) (ς:f.kind=.normal) (bM:P.funcs[f.fn]?=some fn) (br:P.inits.idxOf? f.fn=none) {v:Value}
  (ι:results fn f.tmps=pure v) (Ts:Q v):aR P Q true x f [] H:=by
 intro y Ι;refine Goes.stop (λι=>by rw[show({y with G:=H}:aZ).rel=y.rel from rfl,γ.rel y Ι] at ι;cases ι) (.inl ⟨rfl,⟨rfl,rfl⟩,Ν y Ι,tH y Ι,λw Υ=>⟨v,#[],?_,λe he=>by simp at he,Ts⟩⟩);rw[xk (by rw[hm];simp)];unfold unwind;simp only[hd,hm,bM,ι];have:(pure v:Sem Value).runT P w #[]=(.ok v w,#[]):=rfl;simp only[this];unfold doReturn;simp[ς,GStep.after,seen,br]
end
end Go.TL
namespace Go.TL
open Go.Conc
inductive θ where
 | z (v:Value)
 | ao (cells:List θ)
 | sl (ex:Bool) (k:Nat) (l:List θ)
 | a5 (l:List θ)
 | bj (l:List θ)
 | ar (id n i j:Nat)
 | ms (id n i len:Nat)
 | fn (f:Fn) (first captured:List θ)
 | fY (t:TypeId) (a:θ)
 | mp (id:Nat)
 | it (id:Nat)
 | cH
 deriving Inhabited
def θ.cells:θ->List θ
 | .a5 l=>l
 | a=>[a]
inductive Row where
 | cells (t:TypeId) (k:Nat) (l:List θ)
 | map (es:List (θ×θ))
 | iter (m:Nat) (left:List (θ×θ)) (cur:Option (θ×θ))
 | dead
 deriving Inhabited
def Row.hh (r:Row) (n:Nat):Prop:=match r with|.cells _ _ l=>n<l.length|_=>True
abbrev aV:=List (Option (Nat×Nat))
abbrev aJ:=Nat->Nat->Option Value
inductive ay (S:aJ) (B:aV) (σ:List Row):θ->Value->Prop where
 | z (v:Value):ay S B σ (.z v) v
 | ao {cells:List θ} (b o:Nat) (w:Nat->Value):(∀(j:Nat) (a:θ),cells[j]?=some a->S b (o+j)=some (w j))->(∀(j:Nat) (a:θ),cells[j]?=some a->ay S B σ a (w j))->ay S B σ (.ao cells) (.pointer (some ⟨b,o,none⟩))
 | i' {ex:Bool} {k:Nat} (base:Option Addr) (cap:Nat):(ex=true->cap=0)->ay S B σ (.sl ex k []) (.slice base 0 cap)
 | sl {ex:Bool} {k:Nat} {l:List θ} (b o cap:Nat) (w:Nat->Nat->Value):(ex=true->cap=l.length)->l.length<=cap->(∀(i:Nat) (e:θ),l[i]?=some e->e.cells.length=k)->
   (∀(i:Nat) (e:θ),l[i]?=some e->∀(j:Nat) (c:θ),e.cells[j]?=some c->S b (o+i*k+j)=some (w i j))->(∀(i:Nat) (e:θ),l[i]?=some e->∀(j:Nat) (c:θ),e.cells[j]?=some c->ay S B σ c (w i j))->ay S B σ (.sl ex k l) (.slice (some ⟨b,o,none⟩) l.length cap)
 | a5 {l:List θ} (vs:Array Value):l.length=vs.size->(∀(i:Nat) (a:θ) (v:Value),l[i]?=some a->vs[i]?=some v->ay S B σ a v)->ay S B σ (.a5 l) (.agg vs)
 | bj {l:List θ} (vs:Array Value):l.length=vs.size->(∀(i:Nat) (a:θ) (v:Value),l[i]?=some a->vs[i]?=some v->ay S B σ a v)->ay S B σ (.bj l) (.tuple vs)
 | ar {id n i j k:Nat} {t:TypeId} {l:List θ} {b N:Nat}:σ[id]?=some (.cells t k l)->l.length=n->B[id]?=some (some (b,N))->ay S B σ (.ar id n i j) (.pointer (some ⟨b,i*k+j,none⟩))
 | jY {id n i j:Nat} {r:Row} (v:Value):σ[id]?=some r->r.hh n->ay S B σ (.ar id n i j) v
 | ms {id n i len:Nat} {t:TypeId} {k:Nat} {l:List θ} {bo:Option (Nat×Nat)} {base:Option Addr} (cap:Nat):σ[id]?=some (.cells t k l)->l.length=n->B[id]?=some bo->i+len<=n->len<=cap->
   (cap=0\/∃b N,bo=some (b,N)/\base=some ⟨b,i*k,none⟩/\(i+cap)*k<=N)->ay S B σ (.ms id n i len) (.slice base len cap)
 | jz {id n i len:Nat} {r:Row} (v:Value):σ[id]?=some r->r.hh n->ay S B σ (.ms id n i len) v
 | fn {f:Fn} {dh cs:List θ} (vs ws:Array Value):dh.length=vs.size->cs.length=ws.size->(∀(i:Nat) (a:θ) (v:Value),dh[i]?=some a->vs[i]?=some v->ay S B σ a v)->(∀(i:Nat) (a:θ) (v:Value),cs[i]?=some a->ws[i]?=some v->ay S B σ a v)->ay S B σ (.fn f dh cs) (.func f vs ws)
 | fY {t:TypeId} {a:θ} (v:Value):ay S B σ a v->ay S B σ (.fY t a) (.iface t v)
 | mp {id:Nat} {es:List (θ×θ)} {b N:Nat}:σ[id]?=some (.map es)->B[id]?=some (some (b,N))->ay S B σ (.mp id) (.map (some b))
 | lV {id:Nat} (v:Value):σ[id]?=some .dead->ay S B σ (.mp id) v
 | it {id m:Nat} {left:List (θ×θ)} {cur:Option (θ×θ)} {b N:Nat}:σ[id]?=some (.iter m left cur)->B[id]?=some (some (b,N))->ay S B σ (.it id) (.pointer (some ⟨b,0,none⟩))
 | nu {id:Nat} (v:Value):σ[id]?=some .dead->ay S B σ (.it id) v
 | cH (v:Value):ay S B σ .cH v
def Row.to (r r':Row) (b Ψ:Option (Option (Nat×Nat))):Prop:=
 match r with
 | .cells t k l=>(∃eg,r'=.cells t k eg/\eg.length=l.length/\Ψ=b)\/∀n,n<=l.length->r'.hh n
 | .map _=>(∃es',r'=.map es'/\Ψ=b)\/r'=.dead
 | .iter m _ _=>(∃Gy Gz,r'=.iter m Gy Gz/\Ψ=b)\/r'=.dead
 | .dead=>r'=.dead
structure b8 (S aE:aJ) (B B':aV) (σ σ':List Row):Prop where
 dt:∀b o v,S b o=some v->aE b o=some v
 rows:∀(id:Nat) (r:Row),σ[id]?=some r->∃r':Row,σ'[id]?=some r'/\r.to r' B[id]? B'[id]?
theorem Row.tI (r:Row) (b:Option (Option (Nat×Nat))):r.to r b b:=by
 cases r with
 | cells t k l=>exact .inl ⟨l,rfl,rfl,rfl⟩
 | map es=>exact .inl ⟨es,rfl,rfl⟩
 | iter m l c=>exact .inl ⟨l,c,rfl,rfl⟩
 | dead=>rfl
theorem b8.refl (S:aJ) (B:aV) (σ:List Row):b8 S S B B σ σ:=⟨λ_ _ _ h=>h,λ_ r h=>⟨r,h,r.tI _⟩⟩
theorem Row.GA {r r':Row} {b Ψ:Option (Option (Nat×Nat))} {n:Nat} (h:r.to r' b Ψ) (Ζ:r.hh n):r'.hh n:=by
 cases r with
 | cells t k l=>
  rcases h with⟨eg,rfl,J,_⟩|h
  ·simp only[Row.hh] at Ζ ⊢;omega
  ·exact h n (Nat.le_of_lt Ζ)
 | map es=>rcases h with⟨es',rfl,_⟩|rfl<;>trivial
 | iter m l c=>rcases h with⟨eg,c',rfl,_⟩|rfl<;>trivial
 | dead=>cases h;trivial
theorem Row.Tt {r r' Cr:Row} {b Ψ LV:Option (Option (Nat×Nat))} (h:r.to r' b Ψ) (k:r'.to Cr Ψ LV):r.to Cr b LV:=by
 cases r with
 | cells t e l=>
  rcases h with⟨eg,rfl,J,rfl⟩|h
  ·rcases k with⟨Tu,rfl,U,rfl⟩|k
   ·exact .inl ⟨Tu,rfl,U.trans J,rfl⟩
   ·exact .inr λn Ζ=>k n R
  ·exact .inr λn Ζ=>Row.GA k (h n Ζ)
 | map es=>
  rcases h with⟨es',rfl,rfl⟩|rfl
  ·exact k
  ·cases k;exact .inr rfl
 | iter m l c=>
  rcases h with⟨eg,c',rfl,rfl⟩|rfl
  ·exact k
  ·cases k;exact .inr rfl
 | dead=>cases h;exact k
theorem b8.trans {S aE zs:aJ} {B B' zt:aV} {σ σ' zu:List Row} (h:b8 S aE B B' σ σ') (k:b8 aE zs B' zt σ' zu):b8 S zs B zt σ zu:=
 ⟨λb o v x=>k.dt b o v (h.dt b o v x),λid r ι=>by
  obtain⟨r',J,U⟩:=h.rows id r ι;obtain⟨Cr,μ,Θ⟩:=k.rows id r' J;exact⟨Cr,μ,Row.Tt U Θ⟩⟩
theorem ay.later {S aE:aJ} {B B':aV} {σ σ':List Row} (ο:b8 S aE B B' σ σ') {a:θ} {v:Value} (h:ay S B σ a v):ay aE B' σ' a v:=by
 induction h with
 | z v=>exact .z v
 | ao b o w J _ Β=>exact .ao b o w (λj a ε=>ο.dt _ _ _ (J j a ε)) Β
 | i' base cap h=>exact .i' base cap h
 | sl b o cap w J U μ Θ _ Β=>exact .sl b o cap w J U μ (λi e hi j c ε=>ο.dt _ _ _ (Θ i e hi j c ε)) Β
 | a5 vs J _ Β=>exact .a5 vs J Β
 | bj vs J _ Β=>exact .bj vs J Β
 | ar J U μ=>
  obtain⟨r',Δ,Γ⟩:=ο.rows _ _ J;rcases Γ with⟨eg,rfl,a2,cL⟩|Γ
  ·exact .ar Δ (a2.trans U) (by rw[cL];exact μ)
  ·exact .jY _ Δ (Γ _ R)
 | jY v J U=>
  obtain⟨r',Δ,Γ⟩:=ο.rows _ _ J;exact .jY _ Δ (Row.GA Γ U)
 | ms cap J U μ Θ av ba=>
  obtain⟨r',Δ,Γ⟩:=ο.rows _ _ J;rcases Γ with⟨eg,rfl,a2,cL⟩|Γ
  ·exact .ms cap Δ (a2.trans U) (by rw[cL];exact μ) Θ av ba
  ·exact .jz _ Δ (Γ _ R)
 | jz v J U=>
  obtain⟨r',Δ,Γ⟩:=ο.rows _ _ J;exact .jz _ Δ (Row.GA Γ U)
 | fn vs ws J U _ _ sh mF=>exact .fn vs ws J U sh mF
 | fY v _ Β=>exact .fY v Β
 | mp J U=>
  obtain⟨r',Δ,Γ⟩:=ο.rows _ _ J;rcases Γ with⟨es',rfl,cL⟩|rfl
  ·exact .mp Δ (by rw[cL];exact U)
  ·exact .lV _ Δ
 | lV v J=>
  obtain⟨r',Δ,Γ⟩:=ο.rows _ _ J;cases Γ;exact .lV _ Δ
 | it J U=>
  obtain⟨r',Δ,Γ⟩:=ο.rows _ _ J;rcases Γ with⟨eg,c',rfl,cL⟩|rfl
  ·exact .it Δ (by rw[cL];exact U)
  ·exact .nu _ Δ
 | nu v J=>
  obtain⟨r',Δ,Γ⟩:=ο.rows _ _ J;cases Γ;exact .nu _ Δ
 | cH v=>exact .cH v
end Go.TL
