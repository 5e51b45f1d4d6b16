import Derived.Test.YtlabjopijpkiaaaGreatQAE
set_option maxHeartbeats 16000000
set_option maxRecDepth 20000
set_option linter.unusedSectionVars false
set_option linter.unusedSimpArgs false
set_option linter.unusedVariables false
namespace Go.TL
open Go.Conc
open Go.ConcM (OsLater)
open Go.ConcN (sumTo upd sumTo_upd upd_ne upd_same sumTo_congr le_sumTo)
theorem Tq (sp:Spec):cN (aM.new sp)=0:=by simp[cN,aM.new]
theorem Tr (sp:Spec):mwd (aM.new sp)=0:=by simp[mwd,aM.new]
section
variable {P:Program} {Q:Value->Prop} {bs:World} {c c':c5} {gs:Array Goroutine} {w w':World} {t:Trace} {i:Nat} {g g':Goroutine} {es:Array Event}
variable {f:Bool×Goroutine×aU->fZ (Bool×Goroutine×aU)}
theorem Inv.seen (h:Inv P Q bs c gs w t) (Υ:gs[i]?=some g)
  (mem:g2 c'.H c'.aF c'.O bs w) (hold:ic c'.H c'.aF c'.O bs.heap.size) (bQ:iE c'.H c'.aF c'.tok c'.O c'.bz c'.deaf w.heap.size t)
  (bh:eI gs.size c'.tok c'.spec c'.view c'.rel c'.O c'.bz c'.home) (eu:xp c'.H c'.tok c'.O) (dY:vm gs.size c'.tok c'.rel c'.bz c'.home c'.dx t) (gb:xq c'.aF c'.tok c'.O c'.rel c'.dx t)
  (Gr:Rec P Q c' i g) (U:∀j,j≠i->c'.x j=c.x j/\c'.T j=c.T j) (cj:∀s o,c.O s=some o->c'.O s=some o):Inv P Q bs c' gs w t:=by
 refine⟨h.pos,mem,hold,bQ,bh,eu,dY,gb,λj b hb=>?_⟩;by_cases e:j=i
 ·subst e;rw[Υ] at hb;cases hb;exact Gr
 ·obtain⟨cP,J,γ⟩:=h.vo j b hb;obtain⟨Ε,Ζ⟩:=U j e;have Ξ:c'.tok j=c.tok j:=congrArg aU.tok Ε;refine⟨cP,by rw[Ε,Ζ];exact J,γ.imp id λ⟨a1,ba,s,o,cm,fY,hH⟩=>⟨a1,ba,s,o,cj s o cm,by rw[Ξ];exact fY,by rw[Ξ];exact hH⟩⟩
theorem Inv.Ts (h:Inv P Q bs c gs w t) (Υ:gs[i]?=some g) {b:Nat} {cs:Array Value} {ty:TypeId} (hb:c.aF i b=some (cs,ty)) {dd:aU}
  (hF:dd={c.x i with aF:=upd (c.aF i) b none,G:=⟨λΦ o=>if Φ=b then(cs[o]?).map (·,true) else(c.H (.inl i)).aG Φ o,λΦ=>if Φ=b then some (ty,cs.size) else(c.H (.inl i)).row Φ,(c.H (.inl i)).obj⟩}) (bg:lp P Q f (i==0) g dd):Cs P Q bs c gs w t i f:=by
 let G':ψ:=⟨λΦ o=>if Φ=b then(cs[o]?).map (·,true) else(c.H (.inl i)).aG Φ o,λΦ=>if Φ=b then some (ty,cs.size) else(c.H (.inl i)).row Φ,(c.H (.inl i)).obj⟩;obtain⟨f1,f2,f3⟩:=h.hold.fresh i b _ hb;have L2:=h.mem.l7 i b cs ty hb;have CD:∀Φ o,Φ≠b->G'.aG Φ o=(c.H (.inl i)).aG Φ o:=λΦ o e=>by simp[G',e]
 have Tt:∀o,G'.aG b o=(cs[o]?).map (·,true):=λo=>by simp[G']
 have L3:∀Φ o,Φ≠b->(G'.has Φ o↔(c.H (.inl i)).has Φ o):=λΦ o e=>by unfold ψ.has;rw[CD Φ o e]
 have L4:∀Φ o,Φ≠b->(G'.owns Φ o↔(c.H (.inl i)).owns Φ o):=λΦ o e=>by unfold ψ.owns;rw[CD Φ o e]
 have Tu:∀Φ,G'.e0 Φ↔(c.H (.inl i)).e0 Φ:=λΦ=>Iff.rfl
 have L5:∀Φ,Φ≠b->(c.H (.inl i)).off Φ->G'.off Φ:=λΦ e Γ=>⟨λo aS=>Γ.1 o ((L3 Φ o e).1 aS),Γ.2⟩
 let c':c5:={c with H:=bM c.H (.inl i) G',aF:=upd c.aF i (upd (c.aF i) b none),T:=upd c.T i (f (i==0,g,dd))}
 have fG:∀j Φ v,upd c.aF i (upd (c.aF i) b none) j Φ=some v->c.aF j Φ=some v/\Φ≠b:=λj Φ v hv=>by
  by_cases e:j=i
  ·subst e;rw[upd_same] at hv;by_cases aJ:Φ=b
   ·subst aJ;rw[upd_same] at hv;cases hv
   ·rw[upd_ne _ _ aJ] at hv;exact⟨hv,aJ⟩
  ·rw[upd_ne _ _ e] at hv;exact⟨hv,λaJ=>by rw[aJ,f3 j e] at hv;cases hv⟩
 have Tv:∀s o Φ,c.O s=some o->ei s o.toSpec Φ->Φ≠b:=λs o Φ ο dG e=>by
  have:=(h.hold.j' s o Φ ο dG).2.2 i;rw[e,hb] at this;cases this
 have ap:∀k,k≠.inl i->Apart G' (c.H k):=λk χ=>by
  have a:=h.hold.apart _ _ (Ne.symm χ);refine⟨λΦ o x y=>?_,λΦ o x y=>?_,λΦ x y=>a.obj Φ x y⟩
  ·by_cases e:Φ=b
   ·subst e;exact(f2 k).1 o y
   ·exact a.aG Φ o ((L4 Φ o e).1 x) y
  ·by_cases e:Φ=b
   ·subst e;exact(f2 k).1 o ⟨_,x.choose_spec⟩
   ·exact a.qw Φ o x ((L3 Φ o e).1 y)
 have nO:c'.x i=dd:=by rw[hF];simp[c',G',c5.x,upd_same]
 refine⟨c',h.seen (c':=c') Υ ⟨λk=>?_,λj Φ cs' js hv=>h.mem.l7 j Φ cs' js (fG j Φ _ hv).1,h.mem.fF,h.mem.keep⟩
  ⟨λk l e4=>?_,λk Φ o Γ=>?_,λk Φ Γ=>?_,λj Φ v hv=>?_,λs o Φ ο dG=>?_,h.hold.ky,h.hold.pv,λΦ dG=>?_⟩ ⟨h.bQ.race,h.bQ.low,h.bQ.norel,λk=>?_,λj Φ v hv=>h.bQ.ox j Φ v (fG j Φ v hv).1,h.bQ.cont,h.bQ.hears⟩ h.bh (h.eu.zt λΦ=>iF c.H i G' Φ) h.dY
  ⟨h.gb.iW,λj Φ v hv=>h.gb.vn j Φ v (fG j Φ v hv).1⟩ ⟨g,?_,.inl rfl⟩ (λj ε=>⟨?_,upd_ne _ _ ε⟩) λ_ _ a=>a,_,rfl⟩
 ·show Fits (bM c.H (.inl i) G' k) w;by_cases e:k=.inl i
  ·subst e;rw[dD];have gf:=h.mem.fit (.inl i);refine⟨λΦ o v p ζ=>?_,λΦ t' iT μ=>?_,gf.obj⟩
   ·by_cases aJ:Φ=b
    ·subst aJ;rw[Tt] at ζ;cases U:cs[o]? with
     | none=>rw[U] at ζ;cases ζ
     | some e'=>rw[U] at ζ;cases ζ;exact nG L2 U
    ·rw[CD Φ o aJ] at ζ;exact gf.aG Φ o v p ζ
   ·by_cases aJ:Φ=b
    ·subst aJ;simp[G'] at μ;obtain⟨rfl,rfl⟩:=μ;exact⟨cs,L2,rfl⟩
    ·simp[G',aJ] at μ;exact gf.row Φ t' iT μ
  ·rw[bN _ _ e];exact h.mem.fit k
 ·show Apart (bM c.H (.inl i) G' k) (bM c.H (.inl i) G' l);by_cases e:k=.inl i
  ·subst e;rw[dD,bN _ _ (Ne.symm e4)];exact ap l (Ne.symm e4)
  ·rw[bN _ _ e];by_cases aJ:l=.inl i
   ·subst aJ;rw[dD];exact(ap k e).symm
   ·rw[bN _ _ aJ];exact h.hold.apart k l e4
 ·replace Γ:(bM c.H (.inl i) G' k).owns Φ o:=Γ
  by_cases e:k=.inl i
  ·subst e;rw[dD] at Γ;by_cases aJ:Φ=b
   ·subst aJ;exact f1
   ·exact h.hold.high _ _ _ ((L4 Φ o aJ).1 Γ)
  ·rw[bN _ _ e] at Γ;exact h.hold.high _ _ _ Γ
 ·replace Γ:(bM c.H (.inl i) G' k).e0 Φ:=Γ
  by_cases e:k=.inl i
  ·subst e;rw[dD] at Γ;exact h.hold.nM _ _ ((Tu Φ).1 Γ)
  ·rw[bN _ _ e] at Γ;exact h.hold.nM _ _ Γ
 ·obtain⟨ln,bw⟩:=fG j Φ v hv;obtain⟨a1,ba,cm⟩:=h.hold.fresh j Φ v ln;refine⟨a1,λk=>?_,λbK bp=>?_⟩
  ·show(bM c.H (.inl i) G' k).off Φ;by_cases e:k=.inl i
   ·subst e;rw[dD];exact L5 Φ bw (ba _)
   ·rw[bN _ _ e];exact ba k
  ·cases U:c'.aF bK Φ with
   | none=>rfl
   | some e'=>have:=(fG bK Φ e' U).1;rw[cm bK bp] at this;cases this
 ·obtain⟨a1,ba,cm⟩:=h.hold.j' s o Φ ο dG;have bw:=Tv s o Φ ο dG;refine⟨a1,λk=>?_,λbK=>?_⟩
  ·show(bM c.H (.inl i) G' k).off Φ;by_cases e:k=.inl i
   ·subst e;rw[dD];exact L5 Φ bw (ba _)
   ·rw[bN _ _ e];exact ba k
  ·cases U:c'.aF bK Φ with
   | none=>rfl
   | some e'=>have:=(fG bK Φ e' U).1;rw[cm bK] at this;cases this
 ·show bM c.H (.inl i) G' (.inr Φ)=ψ.empty;rw[iF];exact h.hold.eu Φ dG
 ·show dm t (jv c.tok c.O t k) (bM c.H (.inl i) G' k);by_cases e:k=.inl i
  ·subst e;rw[dD];have ω:=h.bQ.perms (.inl i);refine⟨λΦ o v p ζ k a ν Α hw=>?_,ω.obj⟩;by_cases aJ:Φ=b
   ·exfalso;refine h.bQ.ox i b _ hb k a ν ?_;rw[Α];exact aJ
   ·rw[CD Φ o aJ] at ζ;exact ω.aG Φ o v p ζ k a ν Α hw
  ·rw[bN _ _ e];exact h.bQ.perms k
 ·rw[nO];show ju P Q (upd c.T i (f (i==0,g,dd)) i) _ _ _;rw[upd_same];exact bg
 ·have fP:(Sum.inl j:cF)≠.inl i:=λx=>ε (by cases x;rfl);simp[c',c5.x,upd_ne _ _ ε,bN _ _ fP]
theorem Inv.less (h:Inv P Q bs c gs w t) (Υ:gs[i]?=some g) {G':ψ} (ο:Sub G' (c.H (.inl i))) (bg:lp P Q f (i==0) g {c.x i with G:=G'}):Cs P Q bs c gs w t i f:=by
 let dd:aU:={c.x i with G:=G'}
 let c':c5:={c with H:=bM c.H (.inl i) G',T:=upd c.T i (f (i==0,g,dd))}
 have nO:c'.x i=dd:=by simp[c',dd,c5.x]
 have Tw:upd c.aF i (c.aF i)=c.aF:=Cq rfl
 have hm:=h.mem.own h.hold i (ft.refl _ _ w) (ο.fits (h.mem.fit (.inl i))) (h.mem.l7 i) rfl
 have aS:=h.hold.own h.mem h.mem.keep.size i (G':=G') (V':=c.aF i) ⟨λb o v p ζ=>.inr (let ⟨fv,ah,ω⟩:=ο.aG b o v p ζ;⟨v,fv,ah,ω⟩),λb hb=>.inr (ο.e0 hb)⟩ (λb x U=>.inl U);rw[Tw] at hm aS;refine⟨c',h.seen (c':=c') Υ hm aS ⟨h.bQ.race,h.bQ.low,h.bQ.norel,λk=>?_,h.bQ.ox,h.bQ.cont,h.bQ.hears⟩ h.bh (h.eu.zt λΦ=>iF c.H i G' Φ) h.dY h.gb ⟨g,?_,.inl rfl⟩ (λj ε=>⟨?_,upd_ne _ _ ε⟩) λ_ _ a=>a,_,rfl⟩
 ·show dm t (jv c.tok c.O t k) (bM c.H (.inl i) G' k);by_cases e:k=.inl i
  ·subst e;rw[dD];exact(h.bQ.perms (.inl i)).sub ο
  ·rw[bN _ _ e];exact h.bQ.perms k
 ·rw[nO];show ju P Q (upd c.T i (f (i==0,g,dd)) i) _ _ _;rw[upd_same];exact bg
 ·have fP:(Sum.inl j:cF)≠.inl i:=λx=>ε (by cases x;rfl);simp[c',c5.x,bN _ _ fP]
theorem Inv.group (h:Inv P Q bs c gs w t) (Υ:gs[i]?=some g) {s:Nat} {sp:Spec} {ty:TypeId} {G' E:ψ} (ο:c.aF i s=some (#[.int .u64 0,.int .u32 0],ty)) (fq:∀m,sp.aT=some m->m≠s/\∃js,c.aF i m=some (#[.int .i32 0,.int .u32 0],js))
  (eb:c.rel i=false) (bX:Split (c.H (.inl i)) G' E) (dn:sp.aT≠none->sp.aI [] E) {dd:aU}
  (hF:dd={c.x i with G:=G',aF:=λb=>if b=s\/sp.aT=some b then none else c.aF i b,tok:=upd (c.tok i) s (.par 0 0 .add),spec:=upd (c.spec i) s (some sp),view:=upd (c.view i) s none}) (bg:lp P Q f (i==0) g dd):Cs P Q bs c gs w t i f:=by
 have bb:i<gs.size:=me Υ
 have mh:c.O s=none:=by
  cases U:c.O s with
  | none=>rfl
  | some o=>have:=(h.hold.j' s o s U (.inl rfl)).2.2 i;rw[ο] at this;cases this
 have m4:∀b,ei s sp b->∃v,c.aF i b=some v:=λb hb=>by
  rcases hb with rfl|hb
  ·exact⟨_,ο⟩
  ·obtain⟨_,js,J⟩:=fq b hb;exact⟨_,J⟩
 have m5:∀r o b,c.O r=some o->ei r o.toSpec b->¬ei s sp b:=λr o b μ hb dG=>by
  obtain⟨v,hv⟩:=m4 b dG;have:=(h.hold.j' r o b μ hb).2.2 i;rw[hv] at this;cases this
 have jU:∀r o,c.O r=some o->r≠s:=λr o μ e=>by rw[e,mh] at μ;cases μ
 let V':Nat->Option (Array Value×TypeId):=λb=>if b=s\/sp.aT=some b then none else c.aF i b
 let O':=upd c.O s (some (aM.new sp))
 have fG:∀j b v,upd c.aF i V' j b=some v->c.aF j b=some v/\¬ei s sp b:=λj b v hv=>by
  by_cases e:j=i
  ·subst e;rw[upd_same] at hv;by_cases aJ:b=s\/sp.aT=some b
   ·simp[V',aJ] at hv
   ·simp[V',aJ] at hv;exact⟨hv,aJ⟩
  ·rw[upd_ne _ _ e] at hv;refine⟨hv,λhb=>?_⟩;obtain⟨e',ln⟩:=m4 b hb;have:=(h.hold.fresh i b e' ln).2.2 j e;rw[this] at hv;cases hv
 have L6:∀j b,c.aF j b=none->upd c.aF i V' j b=none:=λj b e=>by
  cases U:upd c.aF i V' j b with
  | none=>rfl
  | some v=>have:=(fG j b v U).1;rw[e] at this;cases this
 have Tx:∀j b,ei s sp b->upd c.aF i V' j b=none:=λj b hb=>by
  cases U:upd c.aF i V' j b with
  | none=>rfl
  | some v=>exact absurd hb (fG j b v U).2
 have g5:∀r q,O' r=some q->(r=s/\q=aM.new sp)\/(r≠s/\c.O r=some q):=λr q Χ=>by
  by_cases e:r=s
  ·subst e;rw[show O' r=some (aM.new sp) from upd_same ..] at Χ;cases Χ;exact .inl ⟨rfl,rfl⟩
  ·rw[show O' r=c.O r from upd_ne _ _ e] at Χ;exact .inr ⟨e,Χ⟩
 have holdA:ic c.H (upd c.aF i V') O' bs.heap.size:=by
  refine⟨h.hold.apart,h.hold.high,h.hold.nM,λj b v hv=>?_,λr o b μ hb=>?_,λr r' o o' b μ fc hb dG=>?_,λr o m μ hm=>?_,λb hb=>h.hold.eu b λr o μ hi=>hb r o (by rw[show O' r=c.O r from upd_ne _ _ (jU r o μ)];exact μ) hi⟩
  ·obtain⟨a1,ba,cm⟩:=h.hold.fresh j b v (fG j b v hv).1;exact⟨a1,ba,λbK bp=>L6 bK b (cm bK bp)⟩
  ·rcases g5 r o μ with⟨rfl,rfl⟩|⟨e,fc⟩
   ·obtain⟨v,hv⟩:=m4 b hb;obtain⟨a1,ba,_⟩:=h.hold.fresh i b v hv;exact⟨a1,ba,λj=>Tx j b hb⟩
   ·obtain⟨a1,ba,cm⟩:=h.hold.j' r o b fc hb;exact⟨a1,ba,λj=>L6 j b (cm j)⟩
  ·rcases g5 r o μ with⟨rfl,rfl⟩|⟨e,r9⟩<;>rcases g5 r' o' fc with⟨rfl,rfl⟩|⟨aJ,qO⟩
   ·rfl
   ·exact absurd hb (m5 r' o' b qO dG)
   ·exact absurd dG (m5 r o b r9 hb)
   ·exact h.hold.ky r r' o o' b r9 qO hb dG
  ·rcases g5 r o μ with⟨rfl,rfl⟩|⟨e,fc⟩
   ·exact(fq m hm).1
   ·exact h.hold.pv r o m fc hm
 have L7:O' s=some (aM.new sp):=upd_same ..
 have L8:c.H (.inr s)=ψ.empty:=h.hold.eu s λr o μ hi=>m5 r o s μ hi (.inl rfl)
 have ma:∀r q,O' r=some q->At r q w:=λr q Χ=>by
  rcases g5 r q Χ with⟨rfl,rfl⟩|⟨_,b8⟩
  ·refine⟨⟨ty,?_⟩,λm hm=>let ⟨_,js,hv⟩:=fq m hm;⟨js,?_⟩⟩
   ·rw[Tq];exact h.mem.l7 i r _ _ ο
   ·rw[Tr];exact h.mem.l7 i m _ _ hv
  ·exact h.mem.fF _ _ b8
 obtain⟨bO,jz,iZ,GB,kC,GC,GD,GF⟩:∃bO:cF->ψ,bO (.inl i)=G'/\(∀j,j≠i->bO (.inl j)=c.H (.inl j))/\(∀b,¬ei s sp b->bO (.inr b)=c.H (.inr b))/\(bO (.inr s)=ψ.empty/\∀m,sp.aT=some m->bO (.inr m)=E)/\
   ic bO (upd c.aF i V') O' bs.heap.size/\g2 bO (upd c.aF i V') O' bs w/\∀a,dm t (jv (b1 c.tok i s (.par 0 0 .add)) O' t a) (bO a):=by
  have xz:=h.bQ.perms (.inl i)
  have L9:∀a,(∀b,a=.inr b->¬ei s sp b)->dm t (jv (b1 c.tok i s (.par 0 0 .add)) O' t a) (c.H a):=λa ν=>by
   refine(h.bQ.perms a).mono λk χ=>?_;cases a with
   | inl j=>exact χ
   | inr b=>
    refine χ.imp id λχ r o μ hb j ε=>?_;rcases g5 r o μ with⟨rfl,rfl⟩|⟨e,fc⟩
    ·exact absurd hb (ν b rfl)
    ·rw[eT _ (λx=>e x.2)] at ε;exact χ r o fc hb j ε
  have L':g2 c.H (upd c.aF i V') c.O bs w:=h.mem.xy λj b v hv=>(fG j b v hv).1
  have hI:(Sum.inl i:cF)≠.inr s:=by simp
  cases hm:sp.aT with
  | none=>
   refine⟨bM (bM c.H (.inl i) G') (.inr s) ψ.empty,?_,λj ε=>?_,λb hb=>?_,⟨dD ..,λm e=>(by cases e)⟩,?_,L'.two (bX.l.fits (h.mem.fit (.inl i))) (vj w) ma,λa=>?_⟩
   ·rw[bN _ _ hI,dD]
   ·rw[bN _ _ (by simp),bN _ _ (λe=>ε (by cases e;rfl))]
   ·have:(Sum.inr b:cF)≠.inr s:=λe=>hb (by cases e;exact .inl rfl);rw[bN _ _ this,iF]
   ·exact holdA.two hI bX.l.qF (Sub.empty _) (Apart.tv _) ⟨λs o ο=>⟨o,ο,rfl⟩,λs o ο=>⟨o,ο,rfl⟩⟩ λx U=>by
     rcases U with e|e
     ·cases e;exact⟨s,_,L7,.inl rfl⟩
     ·cases e
   ·by_cases Ζ:a=.inr s
    ·subst Ζ;rw[dD];exact dm.empty
    ·rw[bN _ _ Ζ];by_cases Ε:a=.inl i
     ·subst Ε;rw[dD];exact xz.sub bX.l
     ·rw[bN _ _ Ε];refine L9 a λb e hb=>?_;subst e;rcases hb with rfl|hb
      ·exact Ζ rfl
      ·rw[hm] at hb;cases hb
  | some m=>
   have r7:=(fq m hm).1
   have fP:(Sum.inl i:cF)≠.inr m:=by simp
   refine⟨bM (bM c.H (.inl i) G') (.inr m) E,?_,λj ε=>?_,λb hb=>?_,⟨?_,λb2 e=>?_⟩,?_,L'.two (bX.l.fits (h.mem.fit (.inl i))) (bX.r.fits (h.mem.fit (.inl i))) ma,λa=>?_⟩
   ·rw[bN _ _ fP,dD]
   ·rw[bN _ _ (by simp),bN _ _ (λe=>ε (by cases e;rfl))]
   ·have:(Sum.inr b:cF)≠.inr m:=λe=>hb (by cases e;exact .inr hm);rw[bN _ _ this,iF]
   ·have:(Sum.inr s:cF)≠.inr m:=λe=>r7 (by cases e;rfl);rw[bN _ _ this,iF];exact L8
   ·cases e;rw[dD]
   ·exact holdA.two fP bX.l.qF bX.r.qF bX.apart ⟨λs o ο=>⟨o,ο,rfl⟩,λs o ο=>⟨o,ο,rfl⟩⟩ λx U=>by
     rcases U with e|e
     ·cases e;exact⟨s,_,L7,.inr hm⟩
     ·cases e
   ·by_cases Ζ:a=.inr m
    ·subst Ζ;rw[dD];refine(xz.sub bX.r).mono λk χ=>.inr λr o μ hb j ε=>?_;rcases g5 r o μ with⟨rfl,rfl⟩|⟨e,fc⟩
     ·by_cases e:j=i
      ·subst e;exact χ
      ·rw[r5 _ e,h.bh.bare r mh j] at ε;exact absurd rfl ε
     ·exact absurd (.inr hm) (m5 r o m fc hb)
    ·rw[bN _ _ Ζ];by_cases Ε:a=.inl i
     ·subst Ε;rw[dD];exact xz.sub bX.l
     ·rw[bN _ _ Ε];by_cases a6:a=.inr s
      ·subst a6;rw[L8];exact dm.empty
      ·refine L9 a λb e hb=>?_;subst e;rcases hb with rfl|hb
       ·exact a6 rfl
       ·rw[hm] at hb;cases hb;exact Ζ rfl
 let c':c5:={c with H:=bO,aF:=upd c.aF i V',tok:=b1 c.tok i s (.par 0 0 .add),spec:=upd c.spec i (upd (c.spec i) s (some sp)),view:=upd c.view i (upd (c.view i) s none),O:=O',bz:=upd c.bz s i,T:=upd c.T i (f (i==0,g,dd))}
 have nO:c'.x i=dd:=by rw[hF];simp[c',V',c5.x,upd_same,vq,jz]
 have pA:∀j r,r≠s->b1 c.tok i s (.par 0 0 .add) j r=c.tok j r:=λj r μ=>eT _ λx=>μ x.2
 have rZ:∀j,j≠0->c.rel j=true->c.home j≠s:=λj ah ε e=>by
  obtain⟨op,a1,ba,_⟩:=h.dY.c1 j ah ε;have e3:=h.dY.dC (c.dx j) j (by simp[Trace.g?,a1,ba]);obtain⟨k,m,g,χ⟩:=h.bh.rW j ah e3;rw[e,h.bh.bare s mh j] at χ;cases χ
 refine⟨c',h.seen (c':=c') Υ GD GC ⟨h.bQ.race,h.bQ.low,h.bQ.norel,GF,λj b v hv=>h.bQ.ox j b v (fG j b v hv).1,λr o b μ hb k a ν fa=>?_,h.bQ.hears⟩ (h.bh.Tf mh bb eb sp) ⟨λr q m Χ hm bj g4=>?_,λr q Χ bj=>?_⟩
  ⟨h.dY.dC,h.dY.c1,λj ah ε bj=>?_,λj ah ε a b=>?_⟩ ⟨λr q m Χ hm p op ω ν=>?_,λj b v hv=>h.gb.vn j b v (fG j b v hv).1⟩ ⟨g,?_,.inl rfl⟩ (λj ε=>⟨?_,upd_ne _ _ ε⟩) (λr o μ=>?_),_,rfl⟩
 ·rcases g5 r o μ with⟨rfl,rfl⟩|⟨e,fc⟩
  ·obtain⟨v,hv⟩:=m4 b hb;exact absurd fa (h.bQ.ox i b v hv k a ν)
  ·have:=h.bQ.cont r o b fc hb k a ν fa
   show _\/(_/\_=some (upd c.bz s i r));rw[upd_ne _ _ e];exact this
 ·rcases g5 r q Χ with⟨rfl,rfl⟩|⟨e,b8⟩
  ·show sp.aI [] (bO (.inr m));rw[kC.2 m hm];exact dn (by have:sp.aT=some m:=hm;rw[this];simp)
  ·show q.aI q.L (bO (.inr m));rw[GB m (m5 r q m b8 (.inr hm))];exact h.eu.pw r q m b8 hm (λj iY p x=>bj j iY p (by show b1 c.tok i s _ j r=_;rw[pA j r e];exact x)) λj k L g x=>g4 j k L g (by show b1 c.tok i s _ j r=_;rw[pA j r e];exact x)
 ·rcases g5 r q Χ with⟨rfl,rfl⟩|⟨e,b8⟩
  ·show ll sp.D [] (bO (.inr r));rw[kC.1];rfl
  ·show ll q.D q.af (bO (.inr r));rw[GB r (m5 r q r b8 (.inl rfl))];exact h.eu.l' r q b8 λj iY p x=>bj j iY p (by show b1 c.tok i s _ j r=_;rw[pA j r e];exact x)
 ·obtain⟨q,p,Χ⟩:=bj;have e:=rZ j ah ε;have CE:c'.bz (c.home j)=c.bz (c.home j):=upd_ne _ _ e;show Knows t (c'.bz (c.home j)) (c.dx j);rw[CE];refine h.dY.c2 j ah ε ⟨q,p,?_⟩;have:b1 c.tok i s (.par 0 0 .add) (c'.bz (c.home j)) (c.home j)=.par q p .bF:=Χ
  rwa [pA _ _ e,CE] at this
 ·have e:=rZ j ah ε
  have CE:c'.bz (c.home j)=c.bz (c.home j):=upd_ne _ _ e
  show Before t (c.dx j) (c.dx (c'.bz (c.home j)))
  have b9:c'.bz (c.home j)≠0:=a
  have Φ:c.rel (c'.bz (c.home j))=true:=b;rw[CE] at b9 Φ ⊢;exact h.dY.c3 j ah ε b9 Φ
 ·rcases g5 r q Χ with⟨rfl,rfl⟩|⟨e,b8⟩
  ·obtain⟨v,hv⟩:=m4 m (.inr hm);exact absurd ν (h.gb.vn i m v hv op (mem_of_getElem? ω))
  ·obtain⟨⟨k,mu,g,π⟩,Μ⟩:=h.gb.iW r q m b8 hm p op ω ν;exact⟨⟨k,mu,g,by show b1 c.tok i s _ _ r=_;rw[pA _ r e];exact π⟩,Μ⟩
 ·rw[nO];show ju P Q (upd c.T i (f (i==0,g,dd)) i) _ _ _;rw[upd_same];exact bg
 ·simp[c',c5.x,upd_ne _ _ ε,r5 _ ε,iZ j ε]
 ·show O' r=some o;rw[show O' r=c.O r from upd_ne _ _ (jU r o μ)];exact μ
theorem Inv.ghost (h:Inv P Q bs c gs w t) (Υ:gs[i]?=some g) (χ:F8 (i==0) (lp P Q f) g (c.x i)):Cs P Q bs c gs w t i f:=by
 rcases χ with⟨G',J,γ⟩|⟨b,cs,ty,J,γ⟩|⟨s,sp,ty,G',E,J,π,Μ,aB,bc,gR⟩
 ·exact h.less Υ J γ
 ·exact h.Ts Υ J rfl γ
 ·exact h.group Υ J π Μ aB bc rfl gR
end
section
variable {P:Program} {Q:Value->Prop} {bs:World} {c c':c5} {gs:Array Goroutine} {w w':World} {t:Trace} {i:Nat} {g g':Goroutine} {es:Array Event}
theorem Inv.step (h:Inv P Q bs c gs w t) (Υ:gs[i]?=some g) (dS:g.status=.running):(∃v es,i=0/\stepG P true g w=.ended (.done v) w es/\∀sl w1,Good P (λv w'=>Q v/\ft (λ_ _=>False) (λ_=>False) bs w') (crowd gs w1 sl) (.done v) w (t++MemOp.ofEvents 0 g.frame.fn g.frame.place es))\/
  ∃f,c.T i=.node f/\(hV P Q bs c gs w t i f\/F8 (i==0) (lp P Q f) g (c.x i)):=by
 obtain⟨cP,μ,ζ⟩:=h.vo i g Υ;rcases ζ with rfl|⟨_,rfl,_⟩
 ·have main:B9 P (i==0) g (c.x i) Q->(∃v es,i=0/\stepG P true g w=.ended (.done v) w es/\∀sl w1,Good P (λv w'=>Q v/\ft (λ_ _=>False) (λ_=>False) bs w') (crowd gs w1 sl) (.done v) w (t++MemOp.ofEvents 0 g.frame.fn g.frame.place es)):=λο=>by
   rcases ο with⟨ah,ο⟩|⟨_,ο⟩
   ·have e:i=0:=by simpa using ah
    subst e;obtain⟨v,es,J,γ⟩:=h.Lz Υ ο none w;refine⟨v,es,rfl,J,λsl w1=>?_⟩;obtain⟨e',es',xB,hn⟩:=h.Lz Υ ο sl w1;rw[J] at xB;cases xB;exact hn
   ·rw[ο.2.2.1] at dS;cases dS
  cases Θ:c.T i with
  | leaf=>rw[Θ] at μ;exact .inl (main μ.2)
  | node f=>
   have fc:=μ;rw[Θ] at μ;rcases μ.2 with ο|χ
   ·exact .inl (main ο)
   ·refine .inr ⟨f,rfl,?_⟩;rcases χ with χ|⟨GK,χ⟩
    ·exact .inl (h.quits Υ χ)
    ·rcases χ with χ|χ|χ|χ|χ|χ|χ|χ|χ|χ
     ·exact .inl (h.Gd Υ χ)
     ·exact .inl (h.SJ Υ χ)
     ·exact .inl (h.SK Υ χ)
     ·exact .inl (h.atom Υ GK fc χ)
     ·exact .inl (h.Cu Υ χ)
     ·exact .inl (h.Gw Υ χ)
     ·exact .inl (h.Gx Υ χ)
     ·exact .inl (h.Cv Υ χ)
     ·exact .inl (h.GJ Υ χ)
     ·exact .inr χ
 ·cases dS
theorem Inv.Ty (h:Inv P Q bs c gs w t):∀g∈gs,Go.Conc.awake g:=λg Υ=>by
 obtain⟨j,ε⟩:=Array.mem_iff_getElem?.1 Υ;intro t' Ξ;rcases h.stat ε with e|⟨_,e,_⟩|⟨e,_⟩<;>rw[e] at Ξ<;>cases Ξ
theorem Inv.comes:∀(L:List (fZ (Bool×Goroutine×aU))) (k:Nat) (c:c5) (jy:List Nat) (gs:Array Goroutine) (w:World) (t:Trace) (sl:Option (Nat×Nat)),jy.map c.T=L->Ord jy gs.size->xr gs=k->Inv P Q bs c gs w t->Comes P Q bs (crowd gs w sl) t:=by
 intro L
 induction L using (mY.wf (B:=Bool×Goroutine×aU)).induction with
 | _ L GL=>
  intro k
  induction k using Nat.strongRecOn with
  | _ k xC=>
   intro c jy gs w t sl aD cj χ h;subst aD χ;obtain⟨i,g,d,zC,Υ,dS,cE⟩:=crowd_pick (P:=P) (w:=w) (sl:=sl) h.Ty h.awake;have cW:=h.at d;have bb:i<gs.size:=me Υ;rcases cW.step Υ dS with⟨v,es,rfl,J,γ⟩|⟨f,Θ,GM⟩
   ·have μ:=runT_many_ended (sl:=zC) Υ (by simpa using J);rw[μ] at cE;exact Comes.last cE (γ sl w)
   ·rcases GM with GM|Tz
    ·obtain⟨c',qK,w',u,μ,fr,hX⟩:=GM zC;rw[μ] at cE;refine Comes.next cE ?_;rcases hX with⟨cp,kk,qI⟩|⟨cp,kk,GN,qI⟩|⟨cp,qI,aH⟩
     ·exact GL _ (by rw[qI];exact cj.one bb Θ kk) _ c' jy qK w' _ zC rfl (by rw[cp];exact cj) rfl fr
     ·obtain⟨Cp,TA,TB⟩:=cj.two bb Θ kk GN;exact GL _ (by rw[qI];exact TB) _ c' Cp qK w' _ zC rfl (by rw[cp];exact TA) rfl fr
     ·exact xC _ aH c' jy qK w' _ zC (by rw[qI]) (by rw[cp];exact cj) rfl fr
    ·
     obtain⟨c',fr,kk,qI⟩:=h.ghost (f:=f) Υ Tz;exact GL _ (by rw[qI];exact cj.one bb Θ kk) _ c' jy gs w t sl rfl cj rfl fr
end
def ψ.lr (w:World):ψ:=
 ⟨λb o=>match w.heap[b]? with|some (.cells c _ _)=>(c[o]?).map (·,false)|_=>none,
  λb=>match w.heap[b]? with|some (.cells c t dR)=>if dR=(0,0) then some (t,c.size) else none|_=>none,λ_=>none⟩
theorem ψ.TC (w:World):Fits (ψ.lr w) w:=by
 refine⟨λb o v p h=>?_,λb t n h=>?_,λb x h=>(by cases h)⟩
 ·simp only[ψ.lr] at h;cases hb:w.heap[b]? with
  | none=>rw[hb] at h;cases h
  | some x=>
   rw[hb] at h;cases x with
   | cells c t dR=>
    simp only at h;cases ζ:c[o]? with
    | none=>rw[ζ] at h;cases h
    | some e'=>rw[ζ] at h;cases h;exact nG hb ζ
   | _=>cases h
 ·simp only[ψ.lr] at h;cases hb:w.heap[b]? with
  | none=>rw[hb] at h;cases h
  | some x=>
   rw[hb] at h;cases x with
   | cells c t' dR=>
    simp only at h;split at h
    ·rename_i e;cases h;exact⟨c,by rw[e],rfl⟩
    ·cases h
   | _=>cases h
theorem ψ.TD (w:World) (b o:Nat):¬(ψ.lr w).owns b o:=λ⟨v,h⟩=>by
 simp only[ψ.lr] at h;cases hb:w.heap[b]? with
 | none=>rw[hb] at h;cases h
 | some x=>
  rw[hb] at h;cases x with
  | cells c t dR=>
   simp only at h;cases ζ:c[o]? with
   | none=>rw[ζ] at h;cases h
   | some e'=>rw[ζ] at h;cases h
  | _=>cases h
def aU.start (w:World):aU:=⟨ψ.lr w,λ_=>none,λ_=>.nil,λ_=>none,λ_=>none,0,false⟩
theorem Goes.comes {P:Program} {Q:Value->Prop} {g:Goroutine} {w:World} (h:Goes P Q true g (aU.start w)):Comes P Q w (solo g w) #[]:=by
 obtain⟨T,Θ⟩:=h;let c:c5:={H:=bM (λ_=>ψ.empty) (.inl 0) (ψ.lr w),aF:=λ_ _=>none,tok:=λ_ _=>.nil,spec:=λ_ _=>none,view:=λ_ _=>none,deaf:=λ_=>0,rel:=λ_=>false,T:=λ_=>T,O:=λ_=>none,bz:=λ_=>0,home:=λ_=>0,dx:=λ_=>0};have U:c.x 0=aU.start w:=by simp[c,c5.x,aU.start]
 have Β:∀k,k≠.inl 0->c.H k=ψ.empty:=λk χ=>bN (λ_=>ψ.empty) (ψ.lr w) χ
 have oE:c.H (.inl 0)=ψ.lr w:=dD (λ_=>ψ.empty) (.inl 0) (ψ.lr w)
 have GO:∀k b o,¬(c.H k).owns b o:=λk b o Γ=>by
  by_cases e:k=.inl 0
  ·subst e;rw[oE] at Γ;exact ψ.TD w b o Γ
  ·rw[Β k e] at Γ;obtain⟨v,hv⟩:=Γ;cases hv
 have Ma:∀k b,¬(c.H k).e0 b:=λk b Γ=>by
  by_cases e:k=.inl 0
  ·subst e;rw[oE] at Γ;obtain⟨v,hv⟩:=Γ;cases hv
  ·rw[Β k e] at Γ;obtain⟨v,hv⟩:=Γ;cases hv
 have hα:∀i:Nat,(#[]:Trace)[i]?=none:=λi=>by simp
 have cp:(#[g]:Array Goroutine).size=1:=rfl
 have inv:Inv P Q w c #[g] w #[]:=by
  refine⟨by simp,⟨λk=>?_,λj b c t hb=>(by cases hb),λs o ο=>(by cases ο),ft.refl _ _ _⟩,
   ⟨λk l _=>⟨λb o Γ=>absurd Γ (GO k b o),λb o Γ=>absurd Γ (GO l b o),λb Γ=>absurd Γ (Ma k b)⟩,λk b o Γ=>absurd Γ (GO k b o),λk b Γ=>absurd Γ (Ma k b),λj b v hv=>(by cases hv),λs o b ο=>(by cases ο),λs bq o o' b ο=>(by cases ο),λs o m ο=>(by cases ο),λb _=>Β _ (by simp)⟩,
   ⟨λsaid ⟨i,j,_,⟨a,b,ν,_⟩,_⟩=>(by simp[Trace.act?] at ν),λop Ν=>(by simp at Ν),λop Ν=>(by simp at Ν),λk=>⟨λb o v p _ i a ν=>(by simp[touchAt,Trace.act?] at ν),λb _ i a ν=>(by simp[touchAt,Trace.act?] at ν)⟩,λj b v hv=>(by cases hv),λs o b ο=>(by cases ο),λj=>rfl⟩,
   ?_,⟨λs o m ο=>(by cases ο),λs o ο=>(by cases ο)⟩,⟨λk a χ=>(by simp[Trace.g?] at χ),λj _ ε=>(by cases ε),λj _ ε=>(by cases ε),λj _ ε=>(by cases ε)⟩,⟨λs o m ο=>(by cases ο),λj b v hv=>(by cases hv)⟩,λj b hb=>?_⟩
  ·by_cases e:k=.inl 0
   ·subst e;rw[oE];exact ψ.TC w
   ·rw[Β k e];exact vj w
  ·exact⟨λs o ο=>(by cases ο),λs _ j=>rfl,λj s _=>rfl,λj s sp ο=>(by cases ο),λj s φ o ο=>(by cases ο),λj s k L g o ο=>(by cases ο),λj s m p ae ο=>(by cases ο),λj s k m g ο=>(by cases ο),λj ah ε=>(by rw[cp] at ε;omega),λj k m g _ ο=>(by cases ο),rfl,λj s ο=>(by cases ο),λj s k m g o ο=>(by cases ο),λs j bK k m g b2 g' ο=>(by cases ο),λs j k m g q p ae ο=>(by cases ο),λs o ο=>(by cases ο),λs o ο=>(by cases ο)⟩
  ·have ε:j=0:=by have:=me hb;rw[cp] at this;omega
   subst ε;simp at hb;subst hb;exact⟨g,by rw[U];exact Θ,.inl rfl⟩
 rw[solo_eq_crowd];exact Inv.comes _ _ c [0] #[g] w #[] none rfl ⟨by simp,λi=>by simp⟩ rfl inv
def ψ.fresh (G:ψ) (r:Nat):Prop:=(∀o,G.aG r o=none)/\G.row r=none/\G.obj r=none/\∀b,r<b->(∀o,G.aG b o=none)/\G.row b=none/\G.obj b=none
def ψ.vv (G:ψ) (a:Addr) (v:Value):ψ:={G with aG:=λb o=>if b=a.block/\o=a.off then some (v,true) else G.aG b o}
def ψ.dz (G:ψ) (r:Nat) (c:Array Value) (t:TypeId):ψ:=⟨λb o=>if b=r then(c[o]?).map (·,true) else G.aG b o,λb=>if b=r then some (t,c.size) else G.row b,G.obj⟩
def ψ.aY (G:ψ) (r:Nat) (x:Obj):ψ:={G with obj:=λb=>if b=r then some x else G.obj b}
def One:Value->Prop
 | .agg _|.tuple _=>False
 | _=>True
def υ {α:Type} (P:Program):Sem α->ψ->(α->ψ->Prop)->(Value->ψ->Prop)->Prop
 | .pure a,G,K,_=>K a G
 | .load m a k,G,K,E=>m=.plain/\a.spot=none/\∃v p,G.aG a.block a.off=some (v,p)/\υ P (k v) G K E
 | .store m a v k,G,K,E=>m=.plain/\a.spot=none/\G.owns a.block a.off/\(∃t n,G.row a.block=some (t,n))/\One v/\υ P k (G.vv a v) K E
 | .new (.cells c t dR) k,G,K,E=>dR=(0,0)/\∀r,G.fresh r->υ P (k r) (G.dz r c t) K E
 | .new o k,G,K,E=>∀r,G.fresh r->υ P (k r) (G.aY r o) K E
 | .shape r k,G,K,E=>∃t n,G.row r=some (t,n)/\υ P (k (some (t,n))) G K E
 | .freeze _ _ _,_,_,_=>False
 | .frozen a k,G,K,E=>(∃t n,G.row a.block=some (t,n))/\υ P (k false) G K E
 | .getObj r k,G,K,E=>∃o,G.obj r=some o/\o.isChan=false/\υ P (k o) G K E
 | .setObj r o k,G,K,E=>G.e0 r/\Obj.rS o=false/\o.isChan=false/\υ P k (G.aY r o) K E
 | .choose q k,G,K,E=>if q.forced then υ P (k 0) G K E else ∀n,υ P (k (q.cut n)) G K E
 | .sys _ _,_,_,_=>False
 | .program k,G,K,E=>υ P (k P) G K E
 | .mark m k,G,K,E=>m=.noRoom/\υ P k G K E
 | .halt (.panic v),G,_,E=>E v G
 | .halt _,_,_,_=>False
structure dN (G0:ψ) (w0:World) (G:ψ) (w:World) (es:Array Event):Prop where
 fit:Fits G w
 keeps:ft G0.owns G0.e0 w0 w
 km:B7 G0 G w0.heap.size
 gg:∀e∈es,hk G0 w0.heap.size w.heap.size e
theorem dN.start {G:ψ} {w:World} (h:Fits G w):dN G w G w #[]:=
 ⟨h,ft.refl _ _ _,⟨λb o v p h=>.inr ⟨v,p,h,id⟩,λb h=>.inr h⟩,λe he=>by simp at he⟩
section
variable {G0 G:ψ} {w0 w:World} {es:Array Event}
theorem Fits.bare (h:Fits G w) {b:Nat} (hb:w.heap.size<=b):(∀o,G.aG b o=none)/\G.row b=none/\G.obj b=none:=by
 refine⟨λo=>?_,?_,?_⟩
 ·cases ζ:G.aG b o with
  | none=>rfl
  | some x=>obtain⟨c,t,dR,hb,_⟩:=qx (h.aG _ _ x.1 x.2 ζ);have:=fu hb;omega
 ·cases ζ:G.row b with
  | none=>rfl
  | some x=>obtain⟨c,hb,_⟩:=h.row _ x.1 x.2 ζ;have:=fu hb;omega
 ·cases ζ:G.obj b with
  | none=>rfl
  | some x=>have:=fu (h.obj _ x ζ).1;omega
theorem Fits.fresh (h:Fits G w):G.fresh w.heap.size:=
 ⟨(h.bare (Nat.le_refl _)).1,(h.bare (Nat.le_refl _)).2.1,(h.bare (Nat.le_refl _)).2.2,λ_ hb=>h.bare (Nat.le_of_lt hb)⟩
theorem ψ.GP {H H':ψ} (J:∀b o,H'.aG b o=none->H.aG b o=none) (γ:∀b,H'.row b=none->H.row b=none) (π:∀b,H'.obj b=none->H.obj b=none) (r:Nat) (h:H'.fresh r):H.fresh r:=
 ⟨λo=>J _ _ (h.1 o),γ _ h.2.1,π _ h.2.2.1,λb hb=>⟨λo=>J _ _ ((h.2.2.2 b hb).1 o),γ _ (h.2.2.2 b hb).2.1,π _ (h.2.2.2 b hb).2.2⟩⟩
theorem ψ.Mb {H:ψ} {r:Nat} (μ:H.fresh r) (c:Array Value) (t:TypeId):∀b,(H.dz r c t).fresh b->H.fresh b:=
 ψ.GP (λb o h=>by
  by_cases e:b=r
  ·subst e;exact μ.1 o
  ·simpa[ψ.dz,e] using h) (λb h=>by
  by_cases e:b=r
  ·subst e;exact μ.2.1
  ·simpa[ψ.dz,e] using h) (λb h=>h)
theorem ψ.GQ {H:ψ} {r:Nat} {x:Obj}:∀b,(H.aY r x).fresh b->H.fresh b:=
 ψ.GP (λb o h=>h) (λb h=>h) (λb h=>by
  by_cases e:b=r
  ·subst e;simp[ψ.aY] at h
  ·simpa[ψ.aY,e] using h)
theorem hk.mono {n iT Mc:Nat} {e:Event} (h:hk G n iT e) (Ι:iT<=Mc):hk G n Mc e:=by
 obtain⟨loc,wr,oy⟩:=e;cases loc with
 | cell a=>exact h.imp (λx=>⟨x.1,by omega⟩) id
 | obj r=>exact⟨h.1,h.2.imp (λx=>⟨x.1,by omega⟩) id⟩
 | _=>exact h
theorem dN.read (h:dN G0 w0 G w es) {a:Addr} {v:Value} {p:Bool} (ν:a.spot=none) (ζ:G.aG a.block a.off=some (v,p)):w.cell? a=some v/\dN G0 w0 G w (es.push ⟨.cell a,false,false⟩):=by
 obtain⟨b,o,sp⟩:=a;simp only at ν ζ;subst ν;have hv:=h.fit.aG b o v p ζ;refine⟨hv,h.fit,h.keeps,h.km,λe he=>?_⟩;rcases Array.mem_push.1 he with he|rfl
 ·exact h.gg e he
 ·rcases h.km.aG b o v p ζ with Ι|⟨v0,fv,ah,_⟩
  ·obtain⟨c,t,dR,hb,_⟩:=qx hv;exact .inl ⟨Ι,fu hb⟩
  ·exact .inr ⟨rfl,_,ah⟩
theorem heap_setCell {a:Addr} {v:Value} {c:Array Value} {t:TypeId} {dR:Nat×Nat} (ν:a.spot=none) (hb:w.heap[a.block]?=some (.cells c t dR)):(w.setCell a v).heap=w.heap.setIfInBounds a.block (.cells (c.setIfInBounds a.off v) t dR):=by
 obtain⟨b,o,sp⟩:=a;simp only at ν hb;subst ν;have aH:=fu hb;simp only[World.setCell];apply Array.ext_getElem?;intro j;rw[Array.getElem?_modify];by_cases e:b=j
 ·subst e;rw[Array.getElem?_setIfInBounds_self_of_lt aH,if_pos rfl,hb];simp
 ·rw[Array.getElem?_setIfInBounds_ne e,if_neg e]
theorem dN.write (h:dN G0 w0 G w es) {a:Addr} {v:Value} (ν:a.spot=none) (ζ:G.owns a.block a.off):(∃u,w.cell? a=some u)/\dN G0 w0 (G.vv a v) (w.setCell a v) (es.push ⟨.cell a,true,false⟩):=by
 obtain⟨b,o,sp⟩:=a;simp only at ν ζ;subst ν;obtain⟨u,hu⟩:=ζ;have hv:=h.fit.aG b o u true hu;obtain⟨c,t,dR,hb,TE⟩:=qx hv;have aH:=fu hb;have aS:=heap_setCell (w:=w) (a:=⟨b,o,none⟩) (v:=v) rfl hb;have cp:(w.setCell ⟨b,o,none⟩ v).heap.size=w.heap.size:=by rw[aS];simp
 have pB:(w.setCell ⟨b,o,none⟩ v).heap[b]?=some (.cells (c.setIfInBounds o v) t dR):=by rw[aS,Array.getElem?_setIfInBounds_self_of_lt aH]
 have pC:∀j,b≠j->(w.setCell ⟨b,o,none⟩ v).heap[j]?=w.heap[j]?:=λj ε=>by rw[aS,Array.getElem?_setIfInBounds_ne ε]
 have Γ:o<c.size:=(Array.getElem?_eq_some_iff.1 TE).1
 have Md:b<w0.heap.size->G0.owns b o:=λjA=>by
  rcases h.km.aG b o u true hu with Ι|⟨v0,fv,ah,ω⟩
  ·omega
  ·exact⟨v0,by rw[ah,ω rfl]⟩
 refine⟨⟨u,hv⟩,⟨λΦ o' e' e2 a4=>?_,λΦ t' iT μ=>?_,λΦ x U=>?_⟩,⟨by rw[cp];exact h.keeps.size,λΦ c' t' Me dG=>?_,λΦ x dG U Ι=>?_,h.keeps.os,h.keeps.output,h.keeps.tape⟩,⟨λΦ o' e' e2 a4=>?_,h.km.obj⟩,λe he=>?_⟩
 ·simp only[ψ.vv] at a4;by_cases e:Φ=b/\o'=o
  ·obtain⟨rfl,rfl⟩:=e;rw[if_pos ⟨rfl,rfl⟩] at a4;cases a4;exact nG pB (by rw[Array.getElem?_setIfInBounds_self_of_lt Γ])
  ·rw[if_neg e] at a4;have:=h.fit.aG Φ o' e' e2 a4;by_cases Ε:Φ=b
   ·subst Ε;have Ζ:o≠o':=λx=>e ⟨rfl,x.symm⟩;obtain⟨c2,t2,Mf,gx,kG⟩:=qx this;rw[hb] at gx;cases gx;exact nG pB (by rw[Array.getElem?_setIfInBounds_ne Ζ];exact kG)
   ·obtain⟨c2,t2,Mf,gx,kG⟩:=qx this;exact nG (by rw[pC Φ (Ne.symm Ε)];exact gx) kG
 ·obtain⟨c2,gx,dU⟩:=h.fit.row Φ t' iT μ;by_cases Ε:Φ=b
  ·subst Ε;rw[hb] at gx;cases gx;exact⟨_,pB,by simpa using dU⟩
  ·exact⟨c2,by rw[pC Φ (Ne.symm Ε)];exact gx,dU⟩
 ·obtain⟨gx,nP⟩:=h.fit.obj Φ x U;have Ε:b≠Φ:=λe=>by subst e;rw[hb] at gx;cases gx;cases nP
  exact⟨by rw[pC Φ Ε];exact gx,nP⟩
 ·obtain⟨c2,J,γ,π⟩:=h.keeps.cells Φ c' t' Me dG;by_cases Ε:Φ=b
  ·subst Ε;rw[hb] at J;cases J;refine⟨_,pB,by simpa using γ,λo' jx=>?_⟩;have Ζ:o≠o':=λe=>by subst e;exact jx (Md (fu dG))
   rw[Array.getElem?_setIfInBounds_ne Ζ];exact π o' jx
  ·exact⟨c2,by rw[pC Φ (Ne.symm Ε)];exact J,γ,π⟩
 ·have J:=h.keeps.mV Φ x dG U Ι
  have Ε:b≠Φ:=λe=>by subst e;rw[hb] at J;cases J;cases U
  rw[pC Φ Ε];exact J
 ·simp only[ψ.vv] at a4;by_cases e:Φ=b/\o'=o
  ·obtain⟨rfl,rfl⟩:=e;rw[if_pos ⟨rfl,rfl⟩] at a4;cases a4;rcases h.km.aG _ _ _ _ hu with Ι|⟨v0,fv,ah,ω⟩
   ·exact .inl Ι
   ·exact .inr ⟨v0,fv,ah,ω⟩
  ·rw[if_neg e] at a4;exact h.km.aG Φ o' e' e2 a4
 ·rw[cp];rcases Array.mem_push.1 he with he|rfl
  ·exact h.gg e he
  ·rcases Nat.lt_or_ge b w0.heap.size with jA|jA
   ·refine .inr ⟨rfl,?_⟩;exact Md jA
   ·exact .inl ⟨jA,aH⟩
theorem zD {x:Obj} {j:Nat} (ε:j<w.heap.size):(w.heap.push x)[j]?=w.heap[j]?:=by
 rw[Array.getElem?_push,if_neg (by omega)]
theorem CF {x:Obj}:(w.heap.push x)[w.heap.size]?=some x:=by simp
theorem dN.new (h:dN G0 w0 G w es) {x:Obj} {G':ψ} (ζ:∀b o,b≠w.heap.size->G'.aG b o=G.aG b o) (μ:∀b,b≠w.heap.size->G'.row b=G.row b) (Γ:∀b,b≠w.heap.size->G'.obj b=G.obj b)
  (Τ:Fits {aG:=λb o=>if b=w.heap.size then G'.aG b o else none,row:=λb=>if b=w.heap.size then G'.row b else none,obj:=λb=>if b=w.heap.size then G'.obj b else none} {w with heap:=w.heap.push x}) :
  dN G0 w0 G' {w with heap:=w.heap.push x} es:=by
 have hle:=h.keeps.size;refine⟨⟨λb o v p hb=>?_,λb t n hb=>?_,λb y hb=>?_⟩,⟨by simp;omega,λb c t dR hb=>?_,λb y hb Ο Ι=>?_,h.keeps.os,h.keeps.output,h.keeps.tape⟩,⟨λb o v p hb=>?_,λb ⟨y,hb⟩=>?_⟩,λe he=>(h.gg e he).mono (by simp)⟩
 ·by_cases e:b=w.heap.size
  ·exact Τ.aG b o v p (by simp only[e,if_true];rw[<-e];exact hb)
  ·rw[ζ b o e] at hb;obtain⟨c2,t2,Mf,gx,kG⟩:=qx (h.fit.aG b o v p hb);exact nG (w:={w with heap:=w.heap.push x}) (by show(w.heap.push x)[b]?=_;rw[zD (fu gx)];exact gx) kG
 ·by_cases e:b=w.heap.size
  ·exact Τ.row b t n (by simp only[e,if_true];rw[<-e];exact hb)
  ·rw[μ b e] at hb;obtain⟨c2,gx,dU⟩:=h.fit.row b t n hb;exact⟨c2,by show(w.heap.push x)[b]?=_;rw[zD (fu gx)];exact gx,dU⟩
 ·by_cases e:b=w.heap.size
  ·exact Τ.obj b y (by simp only[e,if_true];rw[<-e];exact hb)
  ·rw[Γ b e] at hb;obtain⟨gx,Ο⟩:=h.fit.obj b y hb;exact⟨by show(w.heap.push x)[b]?=_;rw[zD (fu gx)];exact gx,Ο⟩
 ·obtain⟨c2,J,γ,π⟩:=h.keeps.cells b c t dR hb;exact⟨c2,by show(w.heap.push x)[b]?=_;rw[zD (fu J)];exact J,γ,π⟩
 ·have J:=h.keeps.mV b y hb Ο Ι
  show(w.heap.push x)[b]?=_;rw[zD (fu J)];exact J
 ·by_cases e:b=w.heap.size
  ·exact .inl (by omega)
  ·rw[ζ b o e] at hb;exact h.km.aG b o v p hb
 ·by_cases e:b=w.heap.size
  ·exact .inl (by omega)
  ·rw[Γ b e] at hb;exact h.km.obj b ⟨y,hb⟩
end
section
variable {G0 G:ψ} {w0 w:World} {es:Array Event} {P:Program}
theorem dN.push (h:dN G0 w0 G w es) {e:Event} (he:hk G0 w0.heap.size w.heap.size e):dN G0 w0 G w (es.push e):=
 ⟨h.fit,h.keeps,h.km,λx U=>(Array.mem_push.1 U).elim (h.gg x) λy=>y▸he⟩
theorem dN.draw (h:dN G0 w0 G w es) (n:Nat):dN G0 w0 G {w with drawn:=n} es:=
 ⟨⟨h.fit.aG,h.fit.row,h.fit.obj⟩,⟨h.keeps.size,h.keeps.cells,h.keeps.mV,h.keeps.os,h.keeps.output,h.keeps.tape⟩,h.km,h.gg⟩
theorem dN.row (h:dN G0 w0 G w es) (c:Array Value) (t:TypeId):dN G0 w0 (G.dz w.heap.size c t) {w with heap:=w.heap.push (.cells c t (0,0))} es:=by
 refine h.new (λb o hb=>by simp[ψ.dz,hb]) (λb hb=>by simp[ψ.dz,hb]) (λb hb=>rfl) ⟨λb o v p hb=>?_,λb t' n hb=>?_,λb y hb=>?_⟩
 ·by_cases e:b=w.heap.size
  ·simp[ψ.dz,e] at hb;obtain⟨kH,gx,rfl,rfl⟩:=hb;rw[e];exact nG (w:={w with heap:=w.heap.push (.cells c t (0,0))}) CF gx
  ·simp[e] at hb
 ·by_cases e:b=w.heap.size
  ·simp[ψ.dz,e] at hb;obtain⟨rfl,rfl⟩:=hb;rw[e];exact⟨c,CF,rfl⟩
  ·simp[e] at hb
 ·by_cases e:b=w.heap.size
  ·simp only[e,if_true,ψ.dz] at hb;rw[h.fit.fresh.2.2.1] at hb;cases hb
  ·simp[e] at hb
theorem dN.obj (h:dN G0 w0 G w es) {x:Obj} (U:Obj.rS x=false):dN G0 w0 (G.aY w.heap.size x) {w with heap:=w.heap.push x} es:=by
 refine h.new (λb o hb=>rfl) (λb hb=>rfl) (λb hb=>by simp[ψ.aY,hb]) ⟨λb o v p hb=>?_,λb t' n hb=>?_,λb y hb=>?_⟩
 ·by_cases e:b=w.heap.size
  ·simp only[e,if_true,ψ.aY] at hb;rw[h.fit.fresh.1] at hb;cases hb
  ·simp[e] at hb
 ·by_cases e:b=w.heap.size
  ·simp only[e,if_true,ψ.aY] at hb;rw[h.fit.fresh.2.1] at hb;cases hb
  ·simp[e] at hb
 ·by_cases e:b=w.heap.size
  ·simp[ψ.aY,e] at hb;subst hb;rw[e];exact⟨CF,U⟩
  ·simp[e] at hb
theorem dN.setObj (h:dN G0 w0 G w es) {r:Nat} {x:Obj} (μ:G.e0 r) (U:Obj.rS x=false):(∃y,w.heap[r]?=some y/\Obj.rS y=false)/\dN G0 w0 (G.aY r x) {w with heap:=w.heap.setIfInBounds r x} (es.push ⟨.obj r,true,false⟩):=by
 obtain⟨y,Ο⟩:=μ;obtain⟨hb,CG⟩:=h.fit.obj r y Ο;have aH:=fu hb;have pB:(w.heap.setIfInBounds r x)[r]?=some x:=Array.getElem?_setIfInBounds_self_of_lt aH;have pC:∀j,r≠j->(w.heap.setIfInBounds r x)[j]?=w.heap[j]?:=λj ε=>Array.getElem?_setIfInBounds_ne ε;have GR:∀b c t dR,w.heap[b]?=some (.cells c t dR)->r≠b:=λb c t dR ζ e=>by subst e;rw[hb] at ζ;cases ζ;cases CG
 refine⟨⟨y,hb,CG⟩,⟨λb o v p ζ=>?_,λb t n ζ=>?_,λb z Η=>?_⟩,⟨by simp;exact h.keeps.size,λb c t dR ζ=>?_,λb z ζ Η Ι=>?_,h.keeps.os,h.keeps.output,h.keeps.tape⟩,⟨h.km.aG,λb Η=>?_⟩,λe he=>?_⟩
 ·obtain⟨c,t,dR,J,γ⟩:=qx (h.fit.aG b o v p ζ);exact nG (w:={w with heap:=w.heap.setIfInBounds r x}) (by show(w.heap.setIfInBounds r x)[b]?=_;rw[pC b (GR b c t dR J)];exact J) γ
 ·obtain⟨c,J,γ⟩:=h.fit.row b t n ζ;exact⟨c,by show(w.heap.setIfInBounds r x)[b]?=_;rw[pC b (GR b c t _ J)];exact J,γ⟩
 ·by_cases e:b=r
  ·subst e;simp[ψ.aY] at Η;subst Η;exact⟨pB,U⟩
  ·simp[ψ.aY,e] at Η;obtain⟨J,γ⟩:=h.fit.obj b z Η;exact⟨by show(w.heap.setIfInBounds r x)[b]?=_;rw[pC b (Ne.symm e)];exact J,γ⟩
 ·obtain⟨c2,J,γ,π⟩:=h.keeps.cells b c t dR ζ;exact⟨c2,by show(w.heap.setIfInBounds r x)[b]?=_;rw[pC b (GR b c2 t dR J)];exact J,γ,π⟩
 ·have J:=h.keeps.mV b z ζ Η Ι
  have e:r≠b:=λe=>by
   subst e;rcases h.km.obj r ⟨y,Ο⟩ with U|U
   ·have:=fu ζ;omega
   ·exact Ι U
  show(w.heap.setIfInBounds r x)[b]?=_;rw[pC b e];exact J
 ·by_cases e:b=r
  ·subst e;exact h.km.obj b ⟨y,Ο⟩
  ·obtain⟨z,Η⟩:=Η;simp[ψ.aY,e] at Η;exact h.km.obj b ⟨z,Η⟩
 ·simp only[Array.size_setIfInBounds];rcases Array.mem_push.1 he with he|rfl
  ·exact h.gg e he
  ·exact⟨rfl,(h.km.obj r ⟨y,Ο⟩).imp (λU=>⟨U,aH⟩) id⟩
theorem υ.sound {α:Type} {K:α->ψ->Prop} {E:Value->ψ->Prop} (s:Sem α):∀{G:ψ} {w:World} {es:Array Event},υ P s G K E->dN G0 w0 G w es->
  ∃G' w' es',dN G0 w0 G' w' es'/\((∃a,s.runT P w es=(.ok a w',es')/\K a G')\/(∃v,s.runT P w es=(.halt (.panic v) w',es')/\E v G')):=by
 induction s with
 | pure a=>intro G w es h hu;exact⟨G,w,es,hu,.inl ⟨a,rfl,h⟩⟩
 | load m a k Δ=>
  intro G w es h hu;obtain⟨rfl,ν,v,p,ζ,χ⟩:=h;obtain⟨hv,vw⟩:=hu.read ν ζ;obtain⟨G',w',es',J,γ⟩:=Δ v χ vw;refine⟨G',w',es',J,?_⟩;simp only[Sem.runT,hv];exact γ
 | store m a v k Δ=>
  intro G w es h hu;obtain⟨rfl,ν,ζ,⟨t,n,bL⟩,CH,χ⟩:=h;obtain⟨⟨u,hv⟩,vw⟩:=hu.write (v:=v) ν ζ;obtain⟨G',w',es',J,γ⟩:=Δ χ vw;have Mg:w.frozen? a=false:=by
   obtain⟨c,hb,_⟩:=hu.fit.row a.block t n bL;simp[World.frozen?,hb]
  refine⟨G',w',es',J,?_⟩;have e:(Sem.store .plain a v k).runT P w es=k.runT P (w.setCell a v) (es.push ⟨.cell a,true,false⟩):=by
   cases v<;>first|exact CH.elim|(simp only[Sem.runT,hv,Mg];rfl)
  rw[e];exact γ
 | new o k Δ=>
  intro G w es h hu;cases o with
  | cells c t dR=>
   obtain⟨rfl,χ⟩:=h;obtain⟨G',w',es',J,γ⟩:=Δ w.heap.size (χ _ hu.fit.fresh) (hu.row c t);exact⟨G',w',es',J,γ⟩
  | _=>
   obtain⟨G',w',es',J,γ⟩:=Δ w.heap.size (h _ hu.fit.fresh) (hu.obj rfl);exact⟨G',w',es',J,γ⟩
 | shape r k Δ=>
  intro G w es h hu;obtain⟨t,n,μ,χ⟩:=h;have e:w.shape? r=some (t,n):=by
   obtain⟨c,hb,ο⟩:=hu.fit.row r t n μ;simp[World.shape?,hb,ο]
  obtain⟨G',w',es',J,γ⟩:=Δ _ χ hu;refine⟨G',w',es',J,?_⟩;simp only[Sem.runT,e];exact γ
 | freeze a n k Δ=>intro G w es h hu;exact h.elim
 | frozen a k Δ=>
  intro G w es h hu;obtain⟨⟨t,n,μ⟩,χ⟩:=h;have e:w.frozen? a=false:=by
   obtain⟨c,hb,_⟩:=hu.fit.row a.block t n μ;simp[World.frozen?,hb]
  obtain⟨G',w',es',J,γ⟩:=Δ _ χ hu;refine⟨G',w',es',J,?_⟩;simp only[Sem.runT,e];exact γ
 | getObj r k Δ=>
  intro G w es h hu;obtain⟨o,Γ,mb,χ⟩:=h;obtain⟨hb,bj⟩:=hu.fit.obj r o Γ;have aH:=fu hb;have vw:=hu.push (e:=⟨.obj r,false,false⟩) ⟨rfl,(hu.km.obj r ⟨o,Γ⟩).imp (λU=>⟨U,aH⟩) id⟩;obtain⟨G',w',es',J,γ⟩:=Δ _ χ vw;refine⟨G',w',es',J,?_⟩;have e:(Sem.getObj r k).runT P w es=(k o).runT P w (es.push ⟨.obj r,false,false⟩):=by
   cases o<;>first|(simp only[Sem.runT,hb];first|done|rfl|(rw[mb];done))|(cases bj;done)
  rw[e];exact γ
 | setObj r o k Δ=>
  intro G w es h hu;obtain⟨μ,bj,mb,χ⟩:=h;obtain⟨⟨y,hb,CG⟩,vw⟩:=hu.setObj μ bj;obtain⟨G',w',es',J,γ⟩:=Δ χ vw;refine⟨G',w',es',J,?_⟩;have e:(Sem.setObj r o k).runT P w es=k.runT P {w with heap:=w.heap.setIfInBounds r o} (es.push ⟨.obj r,true,false⟩):=by
   cases y<;>first|(simp only[Sem.runT,hb,mb];done)|(cases CG;done)
  rw[e];exact γ
 | choose q k Δ=>
  intro G w es h hu;simp only[υ] at h;by_cases Χ:q.forced=true
  ·rw[if_pos Χ] at h;obtain⟨G',w',es',J,γ⟩:=Δ _ h hu;refine⟨G',w',es',J,?_⟩;simp only[Sem.runT,Χ,if_true];exact γ
  ·rw[if_neg Χ] at h;obtain⟨G',w',es',J,γ⟩:=Δ _ (h (w.tape w.drawn q)) (hu.draw (w.drawn+1));refine⟨G',w',es',J,?_⟩;simp only[Sem.runT,Χ];exact γ
 | sys c k Δ=>intro G w es h hu;exact h.elim
 | program k Δ=>
  intro G w es h hu;obtain⟨G',w',es',J,γ⟩:=Δ P h hu;exact⟨G',w',es',J,γ⟩
 | mark m k Δ=>
  intro G w es h hu;obtain⟨rfl,χ⟩:=h;obtain⟨G',w',es',J,γ⟩:=Δ χ (hu.push (e:=⟨.mark .noRoom,false,true⟩) rfl);exact⟨G',w',es',J,γ⟩
 | halt x=>
  intro G w es h hu;cases x<;>first|exact h.elim|skip
  exact⟨G,w,es,hu,.inr ⟨_,rfl,h⟩⟩
theorem mem_seen {fn:FuncId} {e:Event} (h:e∈seen P fn es):e∈es:=by
 unfold seen at h;obtain⟨l⟩:=es;have key:∀(l:List Event) (q:Bool) (kept:Array Event) (x:Event),x∈(l.foldl (λ(s:Bool×Array Event) e=>match e.loc with
   | .mark (Mark.extern f)=>((P.funcs[f]?).any (·.norace),s.2)
   | _=>(s.1,if s.1&&!e.sync then s.2 else s.2.push e)) (q,kept)).2->x∈kept\/x∈l:=by
  intro l
  induction l with
  | nil=>intro q kept x U;exact .inl U
  | cons y l Δ=>
   intro q kept x U;rw[List.foldl_cons] at U;rcases Δ _ _ x U with hF|hF
   ·split at hF
    ·exact .inl hF
    ·simp only at hF;split at hF
     ·exact .inl hF
     ·rcases Array.mem_push.1 hF with Cl|rfl
      ·exact .inl Cl
      ·exact .inr (by simp)
   ·exact .inr (by simp[hF])
 simp only[List.foldl_toArray'] at h;rcases key l _ #[] e h with U|U
 ·simp at U
 ·simpa using U
end
def cq (P:Program) (Q:Value->Prop) (mn:Bool) (y:aU) (au:Frame) (cs:List Frame) (H:ψ):Prop:=Goes P Q mn (Go.Conc.G au cs) {y with G:=H}
def gL:Type:=aU->Prop
class bn where
 q:gL->Prop
structure Seq [bn] (x:gL):Prop where
 cls:bn.q x
 rel:∀y,x y->y.rel=false
 aF:∀y,x y->y.aF=λ_=>none
def aE (P:Program) (Q:Value->Prop) (mn:Bool) (x:gL) (au:Frame) (cs:List Frame) (H:ψ):Prop:=∀y,x y->cq P Q mn y au cs H
def au (b:Frame) (t:Array Value) (k:List Item):Frame:={b with tmps:=t,todo:=k}
section
variable {P:Program} {Q:Value->Prop} {mn:Bool} {x:gL} {cs:List Frame} {H:ψ} {b f:Frame} {t:Array Value} {k:List Item}
theorem cq.own {y:aU} (eb:y.rel=false) (fG:y.aF=λ_=>none) (h:∀w,Fits H w->∃f' cs' w' es H',stepG P mn (Go.Conc.G f cs) w=.go (Go.Conc.G f' cs') w' es/\dN H w H' w' es/\cq P Q mn y f' cs' H'):cq P Q mn y f cs H:=by
 refine Goes.step (λμ=>by rw[show({y with G:=H}:aU).rel=y.rel from rfl,eb] at μ;cases μ) (.inr ⟨⟨rfl,rfl⟩,.inl λw Τ hv=>?_⟩);obtain⟨f',cs',w',es,H',J,γ,π⟩:=h w Τ;rw[J];refine⟨H',y.aF,⟨rfl,rfl⟩,γ.keeps,γ.fit,λb c t hb=>?_,γ.km,λb c hb=>.inl hb,λe he=>?_,λb c hb=>?_,π⟩
 ·rw[fG] at hb;cases hb
 ·rw[if_neg (by rw[show({y with G:=H}:aU).rel=y.rel from rfl,eb];simp)];exact γ.gg e he
 ·rw[fG] at hb;cases hb
variable [bn]
theorem aE.own (U:Seq x) (h:∀w,Fits H w->∃f' cs' w' es H',stepG P mn (Go.Conc.G f cs) w=.go (Go.Conc.G f' cs') w' es/\dN H w H' w' es/\aE P Q mn x f' cs' H'):aE P Q mn x f cs H:=
 λy Ο=>.own (U.rel y Ο) (U.aF y Ο) λw Τ=>let ⟨f',cs',w',es,H',a,b,c⟩:=h w Τ;⟨f',cs',w',es,H',a,b,c y Ο⟩
theorem aE.still (U:Seq x) {f':Frame} {cs':List Frame} (ο:∀w,stepG P mn (Go.Conc.G f cs) w=.go (Go.Conc.G f' cs') w #[]) (h:aE P Q mn x f' cs' H):aE P Q mn x f cs H:=
 .own U λw Τ=>⟨f',cs',w,#[],H,ο w,.start Τ,h⟩
theorem i' (hb:b.mode=.run) (w:World):stepG P mn (Go.Conc.G (au b t k) cs) w=stepG.exec P mn true (au b t k) cs none w:=by
 obtain⟨fn,xD,td,TF,tF,kd,ro⟩:=b;simp only at hb;subst hb;rfl
section TG
variable (U:Seq x) (hb:b.mode=.run)
include U hb
theorem aE.to {ab:List Item} (ο:∀w,stepG.exec P mn true (au b t k) cs none w=.go (Go.Conc.G (au b t ab) cs) w #[]) (h:aE P Q mn x (au b t ab) cs H):aE P Q mn x (au b t k) cs H:=
 .still U (λw=>(i' hb w).trans (ο w)) h
theorem aE.skip (h:aE P Q mn x (au b t k) cs H):aE P Q mn x (au b t (.code .skip::k)) cs H:=.to U hb (λ_=>rfl) h
theorem aE.label {l:Nat} (h:aE P Q mn x (au b t k) cs H):aE P Q mn x (au b t (.code (.label l)::k)) cs H:=.to U hb (λ_=>rfl) h
theorem aE.inBlock {l:Nat} (h:aE P Q mn x (au b t k) cs H):aE P Q mn x (au b t (.inBlock l::k)) cs H:=.to U hb (λ_=>rfl) h
theorem aE.seq {a c:Code} (h:aE P Q mn x (au b t (.code a::.code c::k)) cs H):aE P Q mn x (au b t (.code (.seq a c)::k)) cs H:=.to U hb (λ_=>rfl) h
theorem aE.block {l:Nat} {c:Code} (h:aE P Q mn x (au b t (.code c::.inBlock l::k)) cs H):aE P Q mn x (au b t (.code (.block l c)::k)) cs H:=.to U hb (λ_=>rfl) h
theorem aE.loop {c:Code} (h:aE P Q mn x (au b t (.code c::.inLoop c::k)) cs H):aE P Q mn x (au b t (.code (.loop c)::k)) cs H:=.to U hb (λ_=>rfl) h
theorem aE.inLoop {c:Code} (h:aE P Q mn x (au b t (.code c::.inLoop c::k)) cs H):aE P Q mn x (au b t (.inLoop c::k)) cs H:=.to U hb (λ_=>rfl) h
theorem aE.scope {c:Code} (h:aE P Q mn x (au b t (.code c::.inScope c::k)) cs H):aE P Q mn x (au b t (.code (.scope c)::k)) cs H:=.to U hb (λ_=>rfl) h
theorem aE.region {id:Nat} {ops:Array Oper} (h:aE P Q mn x (au b t (.inRegion ops (List.range ops.size)::k)) cs H):aE P Q mn x (au b t (.code (.region id ops false)::k)) cs H:=.to U hb (λ_=>rfl) h
theorem aE.bJ {ops:Array Oper} (h:aE P Q mn x (au b t k) cs H):aE P Q mn x (au b t (.inRegion ops []::k)) cs H:=.to U hb (λ_=>rfl) h
theorem aE.cond {c:Operand} {a e:Code} {v:Bool} (ζ:(au b t k).eval c=.bool v) (h:aE P Q mn x (au b t (.code (if v then a else e)::k)) cs H):aE P Q mn x (au b t (.code (.cond c a e)::k)) cs H:=by
 refine .to U hb (λw=>?_) h;have a4:(au b t (.code (.cond c a e)::k)).eval c=.bool v:=ζ;unfold stepG.exec;simp only[au] at a4 ⊢;rw[a4];rfl
theorem aE.exit {l:Nat} {ab:List Item} (he:exitTo l k=some ab) (h:aE P Q mn x (au b t ab) cs H):aE P Q mn x (au b t (.code (.exit l)::k)) cs H:=by
 refine .to U hb (λw=>?_) h;unfold stepG.exec;simp only[au,he,Option.elim];rfl
theorem aE.draw {id:Nat} {ops:Array Oper} (h:∀n,aE P Q mn x (au b t (.inRegion ops (Region.schedule (P.follows .mixedOrders) ops n)::k)) cs H):aE P Q mn x (au b t (.code (.region id ops true)::k)) cs H:=by
 refine .own U λw Τ=>⟨au b t (.inRegion ops (Region.schedule (P.follows .mixedOrders) ops (w.tape w.drawn (.order b.fn id)))::k),cs,{w with drawn:=w.drawn+1},#[],H,?_,(dN.start Τ).draw _,h _⟩;rw[i' hb];rfl
theorem aE.ret (μ:b.roundOf=none) (h:aE P Q mn x {au b t (.code .ret::k) with mode:=.returning} cs H):aE P Q mn x (au b t (.code .ret::k)) cs H:=by
 refine .still U (λw=>?_) h;rw[i' hb];unfold stepG.exec;simp only[au,μ];rfl
theorem aE.sa (μ:b.roundOf=none) (h:aE P Q mn x {au b t [] with mode:=.returning} cs H):aE P Q mn x (au b t []) cs H:=by
 refine .still U (λw=>?_) h;rw[i' hb];unfold stepG.exec;simp only[au,μ];rfl
end TG
end
end Go.TL
namespace Go.TL
open Go.Conc
open Go.ConcM (OsLater)
open Go.ConcN (sumTo upd sumTo_upd upd_ne upd_same sumTo_congr le_sumTo)
variable [bn]
def br (t:Array Value):Operand->Value
 | .tmp n=>t.getD n undef
 | .const v=>v
 | .global g=>.pointer (some ⟨g,0,none⟩)
 | .func f=>.func (.func f) #[] #[]
theorem zE (b:Frame) (t:Array Value) (k:List Item):(au b t k).eval=br t:=by funext o;cases o<;>rfl
def put (o:Oper) (t:Array Value) (v:Value):Array Value:=match o.dst with|some d=>t.setIfInBounds d v|none=>t
def Mh (P:Program) (Q:Value->Prop) (mn:Bool) (x:gL) (b:Frame) (t:Array Value) (ops:Array Oper) (i:Nat) (o:Oper) (rest:List Nat) (k:List Item) (cs:List Frame):Next->ψ->Prop
 | .value v,H=>aE P Q mn x (au b (put o t v) (.inRegion ops rest::k)) cs H
 | .skip,H=>aE P Q mn x (au b (put o t undef) (.inRegion ops rest::k)) cs H
 | .enter f args,H=>aE P Q mn x (Frame.enter P f args .normal) (au b t (.inRegion ops (i::rest)::k)::cs) H
 | .round l f xD CI sb,H=>aE P Q mn x (Frame.round l f xD CI sb .normal) (au b t (.inRegion ops (i::rest)::k)::cs) H
 | .defer d,H=>aE P Q mn x (au {b with defers:=d::b.defers} (put o t undef) (.inRegion ops rest::k)) cs H
 | .recover,H=>b.roundOf=none/\match tryRecover (au b t (.inRegion ops (i::rest)::k)) cs with
  | some (v,cs')=>aE P Q mn x (au b (put o t v) (.inRegion ops rest::k)) cs' H
  | none=>aE P Q mn x (au b (put o t .nilIface) (.inRegion ops rest::k)) cs H
 | _,_=>False
section
variable {P:Program} {Q:Value->Prop} {mn:Bool} {x:gL} {cs:List Frame} {H:ψ} {b f:Frame} {t:Array Value} {k:List Item}
theorem dN.sub {G0 G:ψ} {w0 w:World} {es es':Array Event} (h:dN G0 w0 G w es) (ο:∀e∈es',e∈es):dN G0 w0 G w es':=⟨h.fit,h.keeps,h.km,λe he=>h.gg e (ο e he)⟩
theorem ij {b:Frame} {ops:Array Oper} {i:Nat} {o:Oper} {rest:List Nat} {v:Value} (Γ:ops[i]?=some o):(au b t (.inRegion ops (i::rest)::k)).finish v=au b (put o t v) (.inRegion ops rest::k):=by
 simp only[Frame.finish,au,Γ,Option.bind,put];cases o.dst<;>rfl
theorem aE.unwanted (U:Seq x) (hb:b.mode=.run) {ops:Array Oper} {i:Nat} {o:Oper} {rest:List Nat} (Γ:ops[i]?=some o) (hw:Region.wanted o (yielded ops t)=false)
  (h:aE P Q mn x (au b (put o t undef) (.inRegion ops rest::k)) cs H):aE P Q mn x (au b t (.inRegion ops (i::rest)::k)) cs H:=by
 refine .still U (f':=au b (put o t undef) (.inRegion ops rest::k)) (cs':=cs) (λw=>?_) h;rw[i' hb,<-ij Γ];have vh:((ops[i]?).map (Region.wanted · (yielded ops t))).getD false=false:=by simp[Γ,hw]
 unfold stepG.exec;simp only[au,vh];rfl
theorem aE.op (U:Seq x) (hb:b.mode=.run) {ops:Array Oper} {i:Nat} {o:Oper} {rest:List Nat} (Γ:ops[i]?=some o) (hw:Region.wanted o (yielded ops t)=true) (hd:b.roundOf=none\/∀c,o.op≠.defer c)
  (h:υ P (execOp (br t) o) H (Mh P Q mn x b t ops i o rest k cs) (λv H'=>aE P Q mn x {au b t (.inRegion ops (i::rest)::k) with mode:=.panicking [{v,recovered:=false}]} cs H')) :
  aE P Q mn x (au b t (.inRegion ops (i::rest)::k)) cs H:=by
 refine .own U λw Τ=>?_;obtain⟨H',w',es',hu,hX⟩:=υ.sound (P:=P) (G0:=H) (w0:=w) (execOp (br t) o) h (dN.start Τ);have zF:stepG P mn (Go.Conc.G (au b t (.inRegion ops (i::rest)::k)) cs) w=stepG.apply P true (au b t (.inRegion ops (i::rest)::k)) cs none (execOp (br t) o) w:=by
  rw[i' hb];have vh:((ops[i]?).map (Region.wanted · (yielded ops t))).getD false=true:=by simp[Γ,hw]
  have he:(au b t (.inRegion ops (i::rest)::k)).oper?=some o:=by simp[Frame.oper?,au,Γ]
  unfold stepG.exec;simp only[au,vh,if_true];simp only[au] at he;unfold stepG.oper;simp only[he];rcases hd with hd|hd
  ·simp only[hd];rw[<-zE b t (.inRegion ops (i::rest)::k)];rfl
  ·cases μ:b.roundOf with
   | none=>rw[<-zE b t (.inRegion ops (i::rest)::k)];rfl
   | some l=>
    cases Ν:o.op<;>first|exact absurd Ν (hd _)|(simp only;rw[<-zE b t (.inRegion ops (i::rest)::k)];rfl)
 rw[zF];generalize fx:(if(au b t (.inRegion ops (i::rest)::k)).kind==.early then #[] else es')=nQ;have jV:∀e∈seen P b.fn nQ,e∈es':=λe he=>by
  have:=mem_seen he;rw[<-fx] at this;split at this
  ·simp at this
  ·exact this
 have m6:∀v,(au b t (.inRegion ops (i::rest)::k)).finish v=au b (put o t v) (.inRegion ops rest::k):=λv=>ij Γ;rcases hX with⟨gy,dS,I⟩|⟨v,dS,de⟩
 ·cases gy<;>first|exact I.elim|skip
  case value v=>exact⟨_,_,w',seen P b.fn nQ,H',by unfold stepG.apply;simp only[dS,if_true];rw[fx,m6];simp[GStep.after,Go.Conc.G,au],hu.sub jV,I⟩
  case skip=>exact⟨_,_,w',seen P b.fn nQ,H',by unfold stepG.apply;simp only[dS,if_true];rw[fx,m6];simp[GStep.after,Go.Conc.G,au],hu.sub jV,I⟩
  case enter f args=>exact⟨_,_,w',seen P b.fn nQ,H',by unfold stepG.apply;simp only[dS,if_true];rw[fx];simp[GStep.after,Go.Conc.G,au],hu.sub jV,I⟩
  case round l f xD CI sb=>exact⟨_,_,w',seen P b.fn nQ,H',by unfold stepG.apply;simp only[dS,if_true];rw[fx];simp[GStep.after,Go.Conc.G,au],hu.sub jV,I⟩
  case defer d=>exact⟨_,_,w',seen P b.fn nQ,H',by unfold stepG.apply;simp only[dS,if_true];rw[fx];simp[GStep.after,Go.Conc.G,Frame.finish,au,put,Γ];cases o.dst<;>rfl,hu.sub jV,I⟩
  case recover=>
   obtain⟨cf,I⟩:=I;cases tG:tryRecover (au b t (.inRegion ops (i::rest)::k)) cs with
   | none=>
    rw[tG] at I;exact⟨_,_,w',seen P b.fn nQ,H',by unfold stepG.apply;simp only[dS,if_true];rw[fx,m6];simp only[au] at tG ⊢;simp only[cf];rw[cf] at tG;rw[tG];simp[GStep.after,Go.Conc.G],hu.sub jV,I⟩
   | some r=>
    obtain⟨v,cs'⟩:=r;rw[tG] at I;exact⟨_,_,w',seen P b.fn nQ,H',by unfold stepG.apply;simp only[dS,if_true];rw[fx];simp only[au] at tG ⊢;simp only[cf];rw[cf] at tG;rw[tG];simp[GStep.after,Go.Conc.G];(have e:=m6 v;simp only[au,cf] at e;exact e),hu.sub jV,I⟩
 ·exact⟨_,_,w',seen P b.fn nQ,H',by unfold stepG.apply;simp only[dS,if_true];rw[fx];simp[GStep.after,Go.Conc.G,Frame.raise,au,hb],hu.sub jV,de⟩
end
section
variable {P:Program} {Q:Value->Prop} {mn:Bool} {x:gL} {cs rest:List Frame} {H:ψ} {b f c:Frame} {t:Array Value} {k:List Item} {fn:Func}
theorem xE (hm:f.mode≠.run) (w:World):stepG P mn (Go.Conc.G f cs) w=unwind P mn f cs none w:=by
 obtain⟨a1,ba,cm,fY,tF,l6,u'⟩:=f;cases tF with
 | run=>exact absurd rfl hm
 | returning=>rfl
 | panicking ch=>rfl
theorem aE.back (U:Seq x) (hm:f.mode=.returning) (hd:f.defers=[]) (χ:f.kind=.normal\/f.kind=.wrapped) (bY:P.funcs[f.fn]?=some fn)
  (h:υ P (results fn f.tmps) H (λv H'=>aE P Q mn x (c.finish v) rest H') (λ_ _=>False)):aE P Q mn x f (c::rest) H:=by
 refine .own U λw Τ=>?_;obtain⟨H',w',es',hu,hX⟩:=υ.sound (P:=P) (G0:=H) (w0:=w) (results fn f.tmps) h (dN.start Τ);rcases hX with⟨v,dS,I⟩|⟨v,dS,de⟩
 ·refine⟨_,_,w',seen P f.fn es',H',?_,hu.sub λe he=>mem_seen he,I⟩;rw[xE (by rw[hm];simp)];unfold unwind;simp only[hd,hm,bY,dS];unfold doReturn;rcases χ with χ|χ<;>simp[χ,GStep.after,Go.Conc.G]
 ·exact de.elim
theorem aE.GU (U:Seq x) (hm:f.mode=.returning) (hd:f.defers=[]) (χ:f.kind=.deferred) (bY:P.funcs[f.fn]?=some fn)
  (h:υ P (results fn f.tmps) H (λ_ H'=>aE P Q mn x (match c.mode with
   | .panicking ({recovered:=true,..}::TH)=>(match TH.dropWhile (!·.goexit) with|[]=>{c with mode:=.returning}|r=>{c with mode:=.panicking r})
   | _=>c) rest H') (λ_ _=>False)):aE P Q mn x f (c::rest) H:=by
 refine .own U λw Τ=>?_;obtain⟨H',w',es',hu,hX⟩:=υ.sound (P:=P) (G0:=H) (w0:=w) (results fn f.tmps) h (dN.start Τ);rcases hX with⟨v,dS,I⟩|⟨v,dS,de⟩
 ·refine⟨_,_,w',seen P f.fn es',H',?_,hu.sub λe he=>mem_seen he,I⟩;rw[xE (by rw[hm];simp)];unfold unwind;simp only[hd,hm,bY,dS];unfold doReturn;simp only[χ,GStep.after];rw[Array.append_empty];rfl
 ·exact de.elim
theorem aE.deferred (U:Seq x) (hm:f.mode≠.run) {d:Deferred} {ds:List Deferred} (hd:f.defers=d::ds) (ζ:∀r,d.target≠.collected r) (Ι:d.target≠.nil) {g:FuncId} {args:Array Value}
  (μ:∀w,(invoke d.target d.args).runT P w #[]=(.ok (.enter g args) w,#[])) (h:aE P Q mn x (Frame.enter P g args .deferred) ({f with defers:=ds}::cs) H):aE P Q mn x f cs H:=by
 refine .still U (λw=>?_) h;rw[xE hm];unfold unwind;obtain⟨xF,as9⟩:=d;simp only at ζ Ι μ;have key:callDeferred P {f with defers:=ds} cs none ⟨xF,as9⟩ w=.go (Go.Conc.G (Frame.enter P g args .deferred) ({f with defers:=ds}::cs)) w #[]:=by
  unfold callDeferred;simp only[μ w];cases xF<;>first|exact absurd rfl Ι|(simp[GStep.after,seen,Go.Conc.G])
 cases xF with
 | collected r=>exact absurd rfl (ζ r)
 | fn a b=>simp only[hd];exact key
 | nil=>exact absurd rfl Ι
 | builtin a b c d=>simp only[hd];exact key
 | coroexit c=>simp only[hd];exact key
theorem aE.raised (U:Seq x) {ch:List PanicEntry} (hm:f.mode=.panicking ch) (hd:f.defers=[]) (TI:f.catches P=false) (h:aE P Q mn x (c.raise ch) rest H):aE P Q mn x f (c::rest) H:=by
 refine .still U (λw=>?_) h;rw[xE (by rw[hm];simp)];unfold unwind;simp only[hd,hm,TI];rfl
theorem aE.done (U:Seq x) (Ξ:∀y,x y->∀s,fO (y.tok s)) (tH:∀y,x y->y.deaf=0) (hm:f.mode=.returning) (hd:f.defers=[]) (χ:f.kind=.normal) (bY:P.funcs[f.fn]?=some fn) (bb:P.inits.idxOf? f.fn=none) {v:Value}
  (μ:results fn f.tmps=pure v) (TJ:Q v):aE P Q true x f [] H:=by
 intro y Ο;refine Goes.stop (λμ=>by rw[show({y with G:=H}:aU).rel=y.rel from rfl,U.rel y Ο] at μ;cases μ) (.inl ⟨rfl,⟨rfl,rfl⟩,Ξ y Ο,tH y Ο,λw Τ=>⟨v,#[],?_,λe he=>by simp at he,TJ⟩⟩);rw[xE (by rw[hm];simp)];unfold unwind;simp only[hd,hm,bY,μ];have:(pure v:Sem Value).runT P w #[]=(.ok v w,#[]):=rfl;simp only[this];unfold doReturn;simp[χ,GStep.after,seen,bb]
end
end Go.TL
namespace Go.TL
open Go.Conc
inductive θ where
 | z (v:Value)
 | ad (cells:List θ)
 | sl (ex:Bool) (k:Nat) (l:List θ)
 | aW (l:List θ)
 | bu (l:List θ)
 | Ψ (id n i j:Nat)
 | ms (id n i len:Nat)
 | fn (f:Fn) (first captured:List θ)
 | fH (t:TypeId) (a:θ)
 | mp (id:Nat)
 | it (id:Nat)
 | cz
 deriving Inhabited
def θ.cells:θ->List θ
 | .aW l=>l
 | a=>[a]
inductive Row where
 | cells (t:TypeId) (k:Nat) (l:List θ)
 | map (es:List (θ×θ))
 | iter (m:Nat) (left:List (θ×θ)) (cur:Option (θ×θ))
 | dead
 deriving Inhabited
def Row.g9 (r:Row) (n:Nat):Prop:=match r with|.cells _ _ l=>n<l.length|_=>True
abbrev aP:=List (Option (Nat×Nat))
abbrev aC:=Nat->Nat->Option Value
inductive ar (S:aC) (B:aP) (σ:List Row):θ->Value->Prop where
 | z (v:Value):ar S B σ (.z v) v
 | ad {cells:List θ} (b o:Nat) (w:Nat->Value):(∀(j:Nat) (a:θ),cells[j]?=some a->S b (o+j)=some (w j))->(∀(j:Nat) (a:θ),cells[j]?=some a->ar S B σ a (w j))->ar S B σ (.ad cells) (.pointer (some ⟨b,o,none⟩))
 | iI {ex:Bool} {k:Nat} (base:Option Addr) (cap:Nat):(ex=true->cap=0)->ar S B σ (.sl ex k []) (.slice base 0 cap)
 | sl {ex:Bool} {k:Nat} {l:List θ} (b o cap:Nat) (w:Nat->Nat->Value):(ex=true->cap=l.length)->l.length<=cap->(∀(i:Nat) (e:θ),l[i]?=some e->e.cells.length=k)->
   (∀(i:Nat) (e:θ),l[i]?=some e->∀(j:Nat) (c:θ),e.cells[j]?=some c->S b (o+i*k+j)=some (w i j))->(∀(i:Nat) (e:θ),l[i]?=some e->∀(j:Nat) (c:θ),e.cells[j]?=some c->ar S B σ c (w i j))->ar S B σ (.sl ex k l) (.slice (some ⟨b,o,none⟩) l.length cap)
 | aW {l:List θ} (vs:Array Value):l.length=vs.size->(∀(i:Nat) (a:θ) (v:Value),l[i]?=some a->vs[i]?=some v->ar S B σ a v)->ar S B σ (.aW l) (.agg vs)
 | bu {l:List θ} (vs:Array Value):l.length=vs.size->(∀(i:Nat) (a:θ) (v:Value),l[i]?=some a->vs[i]?=some v->ar S B σ a v)->ar S B σ (.bu l) (.tuple vs)
 | Ψ {id n i j k:Nat} {t:TypeId} {l:List θ} {b N:Nat}:σ[id]?=some (.cells t k l)->l.length=n->B[id]?=some (some (b,N))->ar S B σ (.Ψ id n i j) (.pointer (some ⟨b,i*k+j,none⟩))
 | jB {id n i j:Nat} {r:Row} (v:Value):σ[id]?=some r->r.g9 n->ar S B σ (.Ψ id n i j) v
 | ms {id n i len:Nat} {t:TypeId} {k:Nat} {l:List θ} {bo:Option (Nat×Nat)} {base:Option Addr} (cap:Nat):σ[id]?=some (.cells t k l)->l.length=n->B[id]?=some bo->i+len<=n->len<=cap->
   (cap=0\/∃b N,bo=some (b,N)/\base=some ⟨b,i*k,none⟩/\(i+cap)*k<=N)->ar S B σ (.ms id n i len) (.slice base len cap)
 | ja {id n i len:Nat} {r:Row} (v:Value):σ[id]?=some r->r.g9 n->ar S B σ (.ms id n i len) v
 | fn {f:Fn} {c9 cs:List θ} (vs ws:Array Value):c9.length=vs.size->cs.length=ws.size->(∀(i:Nat) (a:θ) (v:Value),c9[i]?=some a->vs[i]?=some v->ar S B σ a v)->(∀(i:Nat) (a:θ) (v:Value),cs[i]?=some a->ws[i]?=some v->ar S B σ a v)->ar S B σ (.fn f c9 cs) (.func f vs ws)
 | fH {t:TypeId} {a:θ} (v:Value):ar S B σ a v->ar S B σ (.fH t a) (.iface t v)
 | mp {id:Nat} {es:List (θ×θ)} {b N:Nat}:σ[id]?=some (.map es)->B[id]?=some (some (b,N))->ar S B σ (.mp id) (.map (some b))
 | lu {id:Nat} (v:Value):σ[id]?=some .dead->ar S B σ (.mp id) v
 | it {id m:Nat} {left:List (θ×θ)} {cur:Option (θ×θ)} {b N:Nat}:σ[id]?=some (.iter m left cur)->B[id]?=some (some (b,N))->ar S B σ (.it id) (.pointer (some ⟨b,0,none⟩))
 | m7 {id:Nat} (v:Value):σ[id]?=some .dead->ar S B σ (.it id) v
 | cz (v:Value):ar S B σ .cz v
def Row.to (r r':Row) (b Φ:Option (Option (Nat×Nat))):Prop:=
 match r with
 | .cells t k l=>(∃dV,r'=.cells t k dV/\dV.length=l.length/\Φ=b)\/∀n,n<=l.length->r'.g9 n
 | .map _=>(∃es',r'=.map es'/\Φ=b)\/r'=.dead
 | .iter m _ _=>(∃GV GW,r'=.iter m GV GW/\Φ=b)\/r'=.dead
 | .dead=>r'=.dead
structure bZ (S ay:aC) (B B':aP) (σ σ':List Row):Prop where
 dg:∀b o v,S b o=some v->ay b o=some v
 rows:∀(id:Nat) (r:Row),σ[id]?=some r->∃r':Row,σ'[id]?=some r'/\r.to r' B[id]? B'[id]?
theorem Row.tI (r:Row) (b:Option (Option (Nat×Nat))):r.to r b b:=by
 cases r with
 | cells t k l=>exact .inl ⟨l,rfl,rfl,rfl⟩
 | map es=>exact .inl ⟨es,rfl,rfl⟩
 | iter m l c=>exact .inl ⟨l,c,rfl,rfl⟩
 | dead=>rfl
theorem bZ.refl (S:aC) (B:aP) (σ:List Row):bZ S S B B σ σ:=⟨λ_ _ _ h=>h,λ_ r h=>⟨r,h,r.tI _⟩⟩
theorem Row.GX {r r':Row} {b Φ:Option (Option (Nat×Nat))} {n:Nat} (h:r.to r' b Φ) (Ι:r.g9 n):r'.g9 n:=by
 cases r with
 | cells t k l=>
  rcases h with⟨dV,rfl,J,_⟩|h
  ·simp only[Row.g9] at Ι ⊢;omega
  ·exact h n (Nat.le_of_lt Ι)
 | map es=>rcases h with⟨es',rfl,_⟩|rfl<;>trivial
 | iter m l c=>rcases h with⟨dV,c',rfl,_⟩|rfl<;>trivial
 | dead=>cases h;trivial
theorem Row.TK {r r' CJ:Row} {b Φ Mi:Option (Option (Nat×Nat))} (h:r.to r' b Φ) (k:r'.to CJ Φ Mi):r.to CJ b Mi:=by
 cases r with
 | cells t e l=>
  rcases h with⟨dV,rfl,J,rfl⟩|h
  ·rcases k with⟨TM,rfl,γ,rfl⟩|k
   ·exact .inl ⟨TM,rfl,γ.trans J,rfl⟩
   ·exact .inr λn Ι=>k n (by omega)
  ·exact .inr λn Ι=>Row.GX k (h n Ι)
 | map es=>
  rcases h with⟨es',rfl,rfl⟩|rfl
  ·exact k
  ·cases k;exact .inr rfl
 | iter m l c=>
  rcases h with⟨dV,c',rfl,rfl⟩|rfl
  ·exact k
  ·cases k;exact .inr rfl
 | dead=>cases h;exact k
theorem bZ.trans {S ay zG:aC} {B B' zH:aP} {σ σ' zI:List Row} (h:bZ S ay B B' σ σ') (k:bZ ay zG B' zH σ' zI):bZ S zG B zH σ zI:=
 ⟨λb o v x=>k.dg b o v (h.dg b o v x),λid r μ=>by
  obtain⟨r',J,γ⟩:=h.rows id r μ;obtain⟨CJ,π,Μ⟩:=k.rows id r' J;exact⟨CJ,π,Row.TK γ Μ⟩⟩
theorem ar.later {S ay:aC} {B B':aP} {σ σ':List Row} (Α:bZ S ay B B' σ σ') {a:θ} {v:Value} (h:ar S B σ a v):ar ay B' σ' a v:=by
 induction h with
 | z v=>exact .z v
 | ad b o w J _ Δ=>exact .ad b o w (λj a ε=>Α.dg _ _ _ (J j a ε)) Δ
 | iI base cap h=>exact .iI base cap h
 | sl b o cap w J γ π Μ _ Δ=>exact .sl b o cap w J γ π (λi e hi j c ε=>Α.dg _ _ _ (Μ i e hi j c ε)) Δ
 | aW vs J _ Δ=>exact .aW vs J Δ
 | bu vs J _ Δ=>exact .bu vs J Δ
 | Ψ J γ π=>
  obtain⟨r',Ε,Ζ⟩:=Α.rows _ _ J;rcases Ζ with⟨dV,rfl,a6,cD⟩|Ζ
  ·exact .Ψ Ε (a6.trans γ) (by rw[cD];exact π)
  ·exact .jB _ Ε (Ζ _ (by omega))
 | jB v J γ=>
  obtain⟨r',Ε,Ζ⟩:=Α.rows _ _ J;exact .jB _ Ε (Row.GX Ζ γ)
 | ms cap J γ π Μ aB bc=>
  obtain⟨r',Ε,Ζ⟩:=Α.rows _ _ J;rcases Ζ with⟨dV,rfl,a6,cD⟩|Ζ
  ·exact .ms cap Ε (a6.trans γ) (by rw[cD];exact π) Μ aB bc
  ·exact .ja _ Ε (Ζ _ (by omega))
 | ja v J γ=>
  obtain⟨r',Ε,Ζ⟩:=Α.rows _ _ J;exact .ja _ Ε (Row.GX Ζ γ)
 | fn vs ws J γ _ _ sc mi=>exact .fn vs ws J γ sc mi
 | fH v _ Δ=>exact .fH v Δ
 | mp J γ=>
  obtain⟨r',Ε,Ζ⟩:=Α.rows _ _ J;rcases Ζ with⟨es',rfl,cD⟩|rfl
  ·exact .mp Ε (by rw[cD];exact γ)
  ·exact .lu _ Ε
 | lu v J=>
  obtain⟨r',Ε,Ζ⟩:=Α.rows _ _ J;cases Ζ;exact .lu _ Ε
 | it J γ=>
  obtain⟨r',Ε,Ζ⟩:=Α.rows _ _ J;rcases Ζ with⟨dV,c',rfl,cD⟩|rfl
  ·exact .it Ε (by rw[cD];exact γ)
  ·exact .m7 _ Ε
 | m7 v J=>
  obtain⟨r',Ε,Ζ⟩:=Α.rows _ _ J;cases Ζ;exact .m7 _ Ε
 | cz v=>exact .cz v
end Go.TL
