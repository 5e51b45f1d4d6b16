import Derived.Test.YtlabjopijpkiaaaGreatSAE
set_option maxHeartbeats 16000000
set_option maxRecDepth 20000
set_option linter.unusedSectionVars false
set_option linter.unusedSimpArgs false
set_option linter.unusedVariables false
namespace Go.TL
open Go.Conc
open Go.ConcM (OsLater)
open Go.ConcN (sumTo upd sumTo_upd upd_ne upd_same sumTo_congr le_sumTo)
theorem UL (sp:Spec):cM (aN.new sp)=0:=by simp[cM,aN.new]
theorem UM (sp:Spec):mwd (aN.new sp)=0:=by simp[mwd,aN.new]
section
variable {P:Program} {Q:Value->Prop} {bt:World} {c c':cY} {gs:Array Goroutine} {w w':World} {t:Trace} {i:Nat} {g g':Goroutine} {es:Array Event}
variable {f:Bool×Goroutine×aV->gd (Bool×Goroutine×aV)}
theorem Inv.seen (h:Inv P Q bt c gs w t) (Υ:gs[i]?=some g)
  (mem:gZ c'.H c'.aF c'.O bt w) (hold:h7 c'.H c'.aF c'.O bt.heap.size) (bQ:iw c'.H c'.aF c'.tok c'.O c'.bx c'.deaf w.heap.size t)
  (bk:eD gs.size c'.tok c'.spec c'.view c'.rel c'.O c'.bx c'.home) (eh:xi c'.H c'.tok c'.O) (dX:vr gs.size c'.tok c'.rel c'.bx c'.home c'.dr t) (gg:xj c'.aF c'.tok c'.O c'.rel c'.dr t)
  (GC:Rec P Q c' i g) (U:∀j,j≠i->c'.x j=c.x j/\c'.T j=c.T j) (cI:∀s o,c.O s=some o->c'.O s=some o):Inv P Q bt c' gs w t:=by
 refine⟨h.pos,mem,hold,bQ,bk,eh,dX,gg,λj b hb=>?_⟩;by_cases e:j=i
 ·subst e;rw[Υ] at hb;cases hb;exact GC
 ·obtain⟨cP,J,γ⟩:=h.vv j b hb;obtain⟨Ζ,Ε⟩:=U j e;have Ο:c'.tok j=c.tok j:=congrArg aV.tok Ζ;refine⟨cP,by rw[Ζ,Ε];exact J,γ.imp id λ⟨a1,bl,s,o,cz,gb,hA⟩=>⟨a1,bl,s,o,cI s o cz,by rw[Ο];exact gb,by rw[Ο];exact hA⟩⟩
theorem Inv.UN (h:Inv P Q bt c gs w t) (Υ:gs[i]?=some g) {b:Nat} {cs:Array Value} {ty:TypeId} (hb:c.aF i b=some (cs,ty)) {c8:aV}
  (hy:c8={c.x i with aF:=upd (c.aF i) b none,G:=⟨λΧ o=>if Χ=b then(cs[o]?).map (·,true) else(c.H (.inl i)).aG Χ o,λΧ=>if Χ=b then some (ty,cs.size) else(c.H (.inl i)).row Χ,(c.H (.inl i)).obj⟩}) (bb:lF P Q f (i==0) g c8):Cg P Q bt c gs w t i f:=by
 let G':Α:=⟨λΧ o=>if Χ=b then(cs[o]?).map (·,true) else(c.H (.inl i)).aG Χ o,λΧ=>if Χ=b then some (ty,cs.size) else(c.H (.inl i)).row Χ,(c.H (.inl i)).obj⟩;obtain⟨f1,f2,f3⟩:=h.hold.fresh i b _ hb;have MG:=h.mem.me i b cs ty hb;have Cr:∀Χ o,Χ≠b->G'.aG Χ o=(c.H (.inl i)).aG Χ o:=λΧ o e=>by simp[G',e]
 have UO:∀o,G'.aG b o=(cs[o]?).map (·,true):=λo=>by simp[G']
 have MH:∀Χ o,Χ≠b->(G'.has Χ o↔(c.H (.inl i)).has Χ o):=λΧ o e=>by unfold Α.has;rw[Cr Χ o e]
 have MI:∀Χ o,Χ≠b->(G'.owns Χ o↔(c.H (.inl i)).owns Χ o):=λΧ o e=>by unfold Α.owns;rw[Cr Χ o e]
 have UP:∀Χ,G'.eY Χ↔(c.H (.inl i)).eY Χ:=λΧ=>Iff.rfl
 have MJ:∀Χ,Χ≠b->(c.H (.inl i)).off Χ->G'.off Χ:=λΧ e Γ=>⟨λo aU=>Γ.1 o ((MH Χ o e).1 aU),Γ.2⟩
 let c':cY:={c with H:=bL c.H (.inl i) G',aF:=upd c.aF i (upd (c.aF i) b none),T:=upd c.T i (f (i==0,g,c8))}
 have fE:∀j Χ v,upd c.aF i (upd (c.aF i) b none) j Χ=some v->c.aF j Χ=some v/\Χ≠b:=λj Χ v hv=>by
  by_cases e:j=i
  ·subst e;rw[upd_same] at hv;by_cases aJ:Χ=b
   ·subst aJ;rw[upd_same] at hv;cases hv
   ·rw[upd_ne _ _ aJ] at hv;exact⟨hv,aJ⟩
  ·rw[upd_ne _ _ e] at hv;exact⟨hv,λaJ=>by rw[aJ,f3 j e] at hv;cases hv⟩
 have UQ:∀s o Χ,c.O s=some o->eb s o.toSpec Χ->Χ≠b:=λs o Χ ο db e=>by
  have:=(h.hold.kp s o Χ ο db).2.2 i;rw[e,hb] at this;cases this
 have ap:∀k,k≠.inl i->Apart G' (c.H k):=λk χ=>by
  have a:=h.hold.apart _ _ (Ne.symm χ);refine⟨λΧ o x y=>?_,λΧ o x y=>?_,λΧ x y=>a.obj Χ x y⟩
  ·by_cases e:Χ=b
   ·subst e;exact(f2 k).1 o y
   ·exact a.aG Χ o ((MI Χ o e).1 x) y
  ·by_cases e:Χ=b
   ·subst e;exact(f2 k).1 o ⟨_,x.choose_spec⟩
   ·exact a.qJ Χ o x ((MH Χ o e).1 y)
 have n3:c'.x i=c8:=by rw[hy];simp[c',G',cY.x,upd_same]
 refine⟨c',h.seen (c':=c') Υ ⟨λk=>?_,λj Χ cs' jo hv=>h.mem.me j Χ cs' jo (fE j Χ _ hv).1,h.mem.fD,h.mem.keep⟩
  ⟨λk l iT=>?_,λk Χ o Γ=>?_,λk Χ Γ=>?_,λj Χ v hv=>?_,λs o Χ ο db=>?_,h.hold.kF,h.hold.pL,λΧ db=>?_⟩ ⟨h.bQ.race,h.bQ.low,h.bQ.norel,λk=>?_,λj Χ v hv=>h.bQ.oO j Χ v (fE j Χ v hv).1,h.bQ.cont,h.bQ.hears⟩ h.bk (h.eh.zm λΧ=>ix c.H i G' Χ) h.dX
  ⟨h.gg.iQ,λj Χ v hv=>h.gg.vu j Χ v (fE j Χ v hv).1⟩ ⟨g,?_,.inl rfl⟩ (λj ε=>⟨?_,upd_ne _ _ ε⟩) λ_ _ a=>a,_,rfl⟩
 ·show Fits (bL c.H (.inl i) G' k) w;by_cases e:k=.inl i
  ·subst e;rw[dy];have gu:=h.mem.fit (.inl i);refine⟨λΧ o v p ζ=>?_,λΧ t' iN μ=>?_,gu.obj⟩
   ·by_cases aJ:Χ=b
    ·subst aJ;rw[UO] at ζ;cases U:cs[o]? with
     | none=>rw[U] at ζ;cases ζ
     | some e8=>rw[U] at ζ;cases ζ;exact nS MG U
    ·rw[Cr Χ o aJ] at ζ;exact gu.aG Χ o v p ζ
   ·by_cases aJ:Χ=b
    ·subst aJ;simp[G'] at μ;obtain⟨rfl,rfl⟩:=μ;exact⟨cs,MG,rfl⟩
    ·simp[G',aJ] at μ;exact gu.row Χ t' iN μ
  ·rw[bM _ _ e];exact h.mem.fit k
 ·show Apart (bL c.H (.inl i) G' k) (bL c.H (.inl i) G' l);by_cases e:k=.inl i
  ·subst e;rw[dy,bM _ _ (Ne.symm iT)];exact ap l (Ne.symm iT)
  ·rw[bM _ _ e];by_cases aJ:l=.inl i
   ·subst aJ;rw[dy];exact(ap k e).symm
   ·rw[bM _ _ aJ];exact h.hold.apart k l iT
 ·replace Γ:(bL c.H (.inl i) G' k).owns Χ o:=Γ
  by_cases e:k=.inl i
  ·subst e;rw[dy] at Γ;by_cases aJ:Χ=b
   ·subst aJ;exact f1
   ·exact h.hold.high _ _ _ ((MI Χ o aJ).1 Γ)
  ·rw[bM _ _ e] at Γ;exact h.hold.high _ _ _ Γ
 ·replace Γ:(bL c.H (.inl i) G' k).eY Χ:=Γ
  by_cases e:k=.inl i
  ·subst e;rw[dy] at Γ;exact h.hold.n0 _ _ ((UP Χ).1 Γ)
  ·rw[bM _ _ e] at Γ;exact h.hold.n0 _ _ Γ
 ·obtain⟨lE,bz⟩:=fE j Χ v hv;obtain⟨a1,bl,cz⟩:=h.hold.fresh j Χ v lE;refine⟨a1,λk=>?_,λbH bp=>?_⟩
  ·show(bL c.H (.inl i) G' k).off Χ;by_cases e:k=.inl i
   ·subst e;rw[dy];exact MJ Χ bz (bl _)
   ·rw[bM _ _ e];exact bl k
  ·cases U:c'.aF bH Χ with
   | none=>rfl
   | some e8=>have:=(fE bH Χ e8 U).1;rw[cz bH bp] at this;cases this
 ·obtain⟨a1,bl,cz⟩:=h.hold.kp s o Χ ο db;have bz:=UQ s o Χ ο db;refine⟨a1,λk=>?_,λbH=>?_⟩
  ·show(bL c.H (.inl i) G' k).off Χ;by_cases e:k=.inl i
   ·subst e;rw[dy];exact MJ Χ bz (bl _)
   ·rw[bM _ _ e];exact bl k
  ·cases U:c'.aF bH Χ with
   | none=>rfl
   | some e8=>have:=(fE bH Χ e8 U).1;rw[cz bH] at this;cases this
 ·show bL c.H (.inl i) G' (.inr Χ)=Α.empty;rw[ix];exact h.hold.eh Χ db
 ·show df t (jr c.tok c.O t k) (bL c.H (.inl i) G' k);by_cases e:k=.inl i
  ·subst e;rw[dy];have ψ:=h.bQ.perms (.inl i);refine⟨λΧ o v p ζ k a ξ ω hw=>?_,ψ.obj⟩;by_cases aJ:Χ=b
   ·exfalso;refine h.bQ.oO i b _ hb k a ξ ?_;rw[ω];exact aJ
   ·rw[Cr Χ o aJ] at ζ;exact ψ.aG Χ o v p ζ k a ξ ω hw
  ·rw[bM _ _ e];exact h.bQ.perms k
 ·rw[n3];show jq P Q (upd c.T i (f (i==0,g,c8)) i) _ _ _;rw[upd_same];exact bb
 ·have fV:(Sum.inl j:cB)≠.inl i:=λx=>ε (by cases x;rfl);simp[c',cY.x,upd_ne _ _ ε,bM _ _ fV]
theorem Inv.less (h:Inv P Q bt c gs w t) (Υ:gs[i]?=some g) {G':Α} (ο:Sub G' (c.H (.inl i))) (bb:lF P Q f (i==0) g {c.x i with G:=G'}):Cg P Q bt c gs w t i f:=by
 let c8:aV:={c.x i with G:=G'}
 let c':cY:={c with H:=bL c.H (.inl i) G',T:=upd c.T i (f (i==0,g,c8))}
 have n3:c'.x i=c8:=by simp[c',c8,cY.x]
 have UR:upd c.aF i (c.aF i)=c.aF:=Ce rfl
 have hm:=h.mem.own h.hold i (fq.refl _ _ w) (ο.fits (h.mem.fit (.inl i))) (h.mem.me i) rfl
 have aU:=h.hold.own h.mem h.mem.keep.size i (G':=G') (V':=c.aF i) ⟨λb o v p ζ=>.inr (let ⟨fs,ag,ψ⟩:=ο.aG b o v p ζ;⟨v,fs,ag,ψ⟩),λb hb=>.inr (ο.eY hb)⟩ (λb x U=>.inl U);rw[UR] at hm aU;refine⟨c',h.seen (c':=c') Υ hm aU ⟨h.bQ.race,h.bQ.low,h.bQ.norel,λk=>?_,h.bQ.oO,h.bQ.cont,h.bQ.hears⟩ h.bk (h.eh.zm λΧ=>ix c.H i G' Χ) h.dX h.gg ⟨g,?_,.inl rfl⟩ (λj ε=>⟨?_,upd_ne _ _ ε⟩) λ_ _ a=>a,_,rfl⟩
 ·show df t (jr c.tok c.O t k) (bL c.H (.inl i) G' k);by_cases e:k=.inl i
  ·subst e;rw[dy];exact(h.bQ.perms (.inl i)).sub ο
  ·rw[bM _ _ e];exact h.bQ.perms k
 ·rw[n3];show jq P Q (upd c.T i (f (i==0,g,c8)) i) _ _ _;rw[upd_same];exact bb
 ·have fV:(Sum.inl j:cB)≠.inl i:=λx=>ε (by cases x;rfl);simp[c',cY.x,bM _ _ fV]
theorem Inv.group (h:Inv P Q bt c gs w t) (Υ:gs[i]?=some g) {s:Nat} {sp:Spec} {ty:TypeId} {G' E:Α} (ο:c.aF i s=some (#[.int .u64 0,.int .u32 0],ty)) (fi:∀m,sp.aT=some m->m≠s/\∃jo,c.aF i m=some (#[.int .i32 0,.int .u32 0],jo))
  (dZ:c.rel i=false) (bU:Split (c.H (.inl i)) G' E) (dg:sp.aT≠none->sp.aH [] E) {c8:aV}
  (hy:c8={c.x i with G:=G',aF:=λb=>if b=s\/sp.aT=some b then none else c.aF i b,tok:=upd (c.tok i) s (.par 0 0 .add),spec:=upd (c.spec i) s (some sp),view:=upd (c.view i) s none}) (bb:lF P Q f (i==0) g c8):Cg P Q bt c gs w t i f:=by
 have br:i<gs.size:=mq Υ
 have mx:c.O s=none:=by
  cases U:c.O s with
  | none=>rfl
  | some o=>have:=(h.hold.kp s o s U (.inl rfl)).2.2 i;rw[ο] at this;cases this
 have ni:∀b,eb s sp b->∃v,c.aF i b=some v:=λb hb=>by
  rcases hb with rfl|hb
  ·exact⟨_,ο⟩
  ·obtain⟨_,jo,J⟩:=fi b hb;exact⟨_,J⟩
 have nj:∀r o b,c.O r=some o->eb r o.toSpec b->¬eb s sp b:=λr o b μ hb db=>by
  obtain⟨v,hv⟩:=ni b db;have:=(h.hold.kp r o b μ hb).2.2 i;rw[hv] at this;cases this
 have jX:∀r o,c.O r=some o->r≠s:=λr o μ e=>by rw[e,mx] at μ;cases μ
 let V':Nat->Option (Array Value×TypeId):=λb=>if b=s\/sp.aT=some b then none else c.aF i b
 let O':=upd c.O s (some (aN.new sp))
 have fE:∀j b v,upd c.aF i V' j b=some v->c.aF j b=some v/\¬eb s sp b:=λj b v hv=>by
  by_cases e:j=i
  ·subst e;rw[upd_same] at hv;by_cases aJ:b=s\/sp.aT=some b
   ·simp[V',aJ] at hv
   ·simp[V',aJ] at hv;exact⟨hv,aJ⟩
  ·rw[upd_ne _ _ e] at hv;refine⟨hv,λhb=>?_⟩;obtain⟨e8,lE⟩:=ni b hb;have:=(h.hold.fresh i b e8 lE).2.2 j e;rw[this] at hv;cases hv
 have MK:∀j b,c.aF j b=none->upd c.aF i V' j b=none:=λj b e=>by
  cases U:upd c.aF i V' j b with
  | none=>rfl
  | some v=>have:=(fE j b v U).1;rw[e] at this;cases this
 have US:∀j b,eb s sp b->upd c.aF i V' j b=none:=λj b hb=>by
  cases U:upd c.aF i V' j b with
  | none=>rfl
  | some v=>exact absurd hb (fE j b v U).2
 have g1:∀r q,O' r=some q->(r=s/\q=aN.new sp)\/(r≠s/\c.O r=some q):=λr q Ρ=>by
  by_cases e:r=s
  ·subst e;rw[show O' r=some (aN.new sp) from upd_same ..] at Ρ;cases Ρ;exact .inl ⟨rfl,rfl⟩
  ·rw[show O' r=c.O r from upd_ne _ _ e] at Ρ;exact .inr ⟨e,Ρ⟩
 have holdA:h7 c.H (upd c.aF i V') O' bt.heap.size:=by
  refine⟨h.hold.apart,h.hold.high,h.hold.n0,λj b v hv=>?_,λr o b μ hb=>?_,λr r' o o' b μ fa hb db=>?_,λr o m μ hm=>?_,λb hb=>h.hold.eh b λr o μ hi=>hb r o (by rw[show O' r=c.O r from upd_ne _ _ (jX r o μ)];exact μ) hi⟩
  ·obtain⟨a1,bl,cz⟩:=h.hold.fresh j b v (fE j b v hv).1;exact⟨a1,bl,λbH bp=>MK bH b (cz bH bp)⟩
  ·rcases g1 r o μ with⟨rfl,rfl⟩|⟨e,fa⟩
   ·obtain⟨v,hv⟩:=ni b hb;obtain⟨a1,bl,_⟩:=h.hold.fresh i b v hv;exact⟨a1,bl,λj=>US j b hb⟩
   ·obtain⟨a1,bl,cz⟩:=h.hold.kp r o b fa hb;exact⟨a1,bl,λj=>MK j b (cz j)⟩
  ·rcases g1 r o μ with⟨rfl,rfl⟩|⟨e,pQ⟩<;>rcases g1 r' o' fa with⟨rfl,rfl⟩|⟨aJ,xu⟩
   ·rfl
   ·exact absurd hb (nj r' o' b xu db)
   ·exact absurd db (nj r o b pQ hb)
   ·exact h.hold.kF r r' o o' b pQ xu hb db
  ·rcases g1 r o μ with⟨rfl,rfl⟩|⟨e,fa⟩
   ·exact(fi m hm).1
   ·exact h.hold.pL r o m fa hm
 have ML:O' s=some (aN.new sp):=upd_same ..
 have MM:c.H (.inr s)=Α.empty:=h.hold.eh s λr o μ hi=>nj r o s μ hi (.inl rfl)
 have mj:∀r q,O' r=some q->At r q w:=λr q Ρ=>by
  rcases g1 r q Ρ with⟨rfl,rfl⟩|⟨_,b9⟩
  ·refine⟨⟨ty,?_⟩,λm hm=>let ⟨_,jo,hv⟩:=fi m hm;⟨jo,?_⟩⟩
   ·rw[UL];exact h.mem.me i r _ _ ο
   ·rw[UM];exact h.mem.me i m _ _ hv
  ·exact h.mem.fD _ _ b9
 obtain⟨bN,jy,iU,GM,kJ,GN,GO,GP⟩:∃bN:cB->Α,bN (.inl i)=G'/\(∀j,j≠i->bN (.inl j)=c.H (.inl j))/\(∀b,¬eb s sp b->bN (.inr b)=c.H (.inr b))/\(bN (.inr s)=Α.empty/\∀m,sp.aT=some m->bN (.inr m)=E)/\
   h7 bN (upd c.aF i V') O' bt.heap.size/\gZ bN (upd c.aF i V') O' bt w/\∀a,df t (jr (bY c.tok i s (.par 0 0 .add)) O' t a) (bN a):=by
  have xq:=h.bQ.perms (.inl i)
  have MN:∀a,(∀b,a=.inr b->¬eb s sp b)->df t (jr (bY c.tok i s (.par 0 0 .add)) O' t a) (c.H a):=λa ξ=>by
   refine(h.bQ.perms a).mono λk χ=>?_;cases a with
   | inl j=>exact χ
   | inr b=>
    refine χ.imp id λχ r o μ hb j ε=>?_;rcases g1 r o μ with⟨rfl,rfl⟩|⟨e,fa⟩
    ·exact absurd hb (ξ b rfl)
    ·rw[eM _ (λx=>e x.2)] at ε;exact χ r o fa hb j ε
  have MO:gZ c.H (upd c.aF i V') c.O bt w:=h.mem.xp λj b v hv=>(fE j b v hv).1
  have hD:(Sum.inl i:cB)≠.inr s:=by simp
  cases hm:sp.aT with
  | none=>
   refine⟨bL (bL c.H (.inl i) G') (.inr s) Α.empty,?_,λj ε=>?_,λb hb=>?_,⟨dy ..,λm e=>(by cases e)⟩,?_,MO.two (bU.l.fits (h.mem.fit (.inl i))) (vo w) mj,λa=>?_⟩
   ·rw[bM _ _ hD,dy]
   ·rw[bM _ _ (by simp),bM _ _ (λe=>ε (by cases e;rfl))]
   ·have:(Sum.inr b:cB)≠.inr s:=λe=>hb (by cases e;exact .inl rfl);rw[bM _ _ this,ix]
   ·exact holdA.two hD bU.l.qT (Sub.empty _) (Apart.tC _) ⟨λs o ο=>⟨o,ο,rfl⟩,λs o ο=>⟨o,ο,rfl⟩⟩ λx U=>by
     rcases U with e|e
     ·cases e;exact⟨s,_,ML,.inl rfl⟩
     ·cases e
   ·by_cases Ε:a=.inr s
    ·subst Ε;rw[dy];exact df.empty
    ·rw[bM _ _ Ε];by_cases Ζ:a=.inl i
     ·subst Ζ;rw[dy];exact xq.sub bU.l
     ·rw[bM _ _ Ζ];refine MN a λb e hb=>?_;subst e;rcases hb with rfl|hb
      ·exact Ε rfl
      ·rw[hm] at hb;cases hb
  | some m=>
   have si:=(fi m hm).1
   have fV:(Sum.inl i:cB)≠.inr m:=by simp
   refine⟨bL (bL c.H (.inl i) G') (.inr m) E,?_,λj ε=>?_,λb hb=>?_,⟨?_,λb0 e=>?_⟩,?_,MO.two (bU.l.fits (h.mem.fit (.inl i))) (bU.r.fits (h.mem.fit (.inl i))) mj,λa=>?_⟩
   ·rw[bM _ _ fV,dy]
   ·rw[bM _ _ (by simp),bM _ _ (λe=>ε (by cases e;rfl))]
   ·have:(Sum.inr b:cB)≠.inr m:=λe=>hb (by cases e;exact .inr hm);rw[bM _ _ this,ix]
   ·have:(Sum.inr s:cB)≠.inr m:=λe=>si (by cases e;rfl);rw[bM _ _ this,ix];exact MM
   ·cases e;rw[dy]
   ·exact holdA.two fV bU.l.qT bU.r.qT bU.apart ⟨λs o ο=>⟨o,ο,rfl⟩,λs o ο=>⟨o,ο,rfl⟩⟩ λx U=>by
     rcases U with e|e
     ·cases e;exact⟨s,_,ML,.inr hm⟩
     ·cases e
   ·by_cases Ε:a=.inr m
    ·subst Ε;rw[dy];refine(xq.sub bU.r).mono λk χ=>.inr λr o μ hb j ε=>?_;rcases g1 r o μ with⟨rfl,rfl⟩|⟨e,fa⟩
     ·by_cases e:j=i
      ·subst e;exact χ
      ·rw[sg _ e,h.bk.bare r mx j] at ε;exact absurd rfl ε
     ·exact absurd (.inr hm) (nj r o m fa hb)
    ·rw[bM _ _ Ε];by_cases Ζ:a=.inl i
     ·subst Ζ;rw[dy];exact xq.sub bU.l
     ·rw[bM _ _ Ζ];by_cases aY:a=.inr s
      ·subst aY;rw[MM];exact df.empty
      ·refine MN a λb e hb=>?_;subst e;rcases hb with rfl|hb
       ·exact aY rfl
       ·rw[hm] at hb;cases hb;exact Ε rfl
 let c':cY:={c with H:=bN,aF:=upd c.aF i V',tok:=bY c.tok i s (.par 0 0 .add),spec:=upd c.spec i (upd (c.spec i) s (some sp)),view:=upd c.view i (upd (c.view i) s none),O:=O',bx:=upd c.bx s i,T:=upd c.T i (f (i==0,g,c8))}
 have n3:c'.x i=c8:=by rw[hy];simp[c',V',cY.x,upd_same,vy,jy]
 have pP:∀j r,r≠s->bY c.tok i s (.par 0 0 .add) j r=c.tok j r:=λj r μ=>eM _ λx=>μ x.2
 have se:∀j,j≠0->c.rel j=true->c.home j≠s:=λj ag ε e=>by
  obtain⟨op,a1,bl,_⟩:=h.dX.c1 j ag ε;have eO:=h.dX.dD (c.dr j) j (by simp[Trace.g?,a1,bl]);obtain⟨k,m,g,χ⟩:=h.bk.sb j ag eO;rw[e,h.bk.bare s mx j] at χ;cases χ
 refine⟨c',h.seen (c':=c') Υ GO GN ⟨h.bQ.race,h.bQ.low,h.bQ.norel,GP,λj b v hv=>h.bQ.oO j b v (fE j b v hv).1,λr o b μ hb k a ξ e9=>?_,h.bQ.hears⟩ (h.bk.UB mx br dZ sp) ⟨λr q m Ρ hm bP gr=>?_,λr q Ρ bP=>?_⟩
  ⟨h.dX.dD,h.dX.c1,λj ag ε bP=>?_,λj ag ε a b=>?_⟩ ⟨λr q m Ρ hm p op ψ ξ=>?_,λj b v hv=>h.gg.vu j b v (fE j b v hv).1⟩ ⟨g,?_,.inl rfl⟩ (λj ε=>⟨?_,upd_ne _ _ ε⟩) (λr o μ=>?_),_,rfl⟩
 ·rcases g1 r o μ with⟨rfl,rfl⟩|⟨e,fa⟩
  ·obtain⟨v,hv⟩:=ni b hb;exact absurd e9 (h.bQ.oO i b v hv k a ξ)
  ·have:=h.bQ.cont r o b fa hb k a ξ e9
   show _\/(_/\_=some (upd c.bx s i r));rw[upd_ne _ _ e];exact this
 ·rcases g1 r q Ρ with⟨rfl,rfl⟩|⟨e,b9⟩
  ·show sp.aH [] (bN (.inr m));rw[kJ.2 m hm];exact dg (by have:sp.aT=some m:=hm;rw[this];simp)
  ·show q.aH q.L (bN (.inr m));rw[GM m (nj r q m b9 (.inr hm))];exact h.eh.pM r q m b9 hm (λj iS p x=>bP j iS p (by show bY c.tok i s _ j r=_;rw[pP j r e];exact x)) λj k L g x=>gr j k L g (by show bY c.tok i s _ j r=_;rw[pP j r e];exact x)
 ·rcases g1 r q Ρ with⟨rfl,rfl⟩|⟨e,b9⟩
  ·show lC sp.D [] (bN (.inr r));rw[kJ.1];rfl
  ·show lC q.D q.Ω (bN (.inr r));rw[GM r (nj r q r b9 (.inl rfl))];exact h.eh.mi r q b9 λj iS p x=>bP j iS p (by show bY c.tok i s _ j r=_;rw[pP j r e];exact x)
 ·obtain⟨q,p,Ρ⟩:=bP;have e:=se j ag ε;have Cs:c'.bx (c.home j)=c.bx (c.home j):=upd_ne _ _ e;show Knows t (c'.bx (c.home j)) (c.dr j);rw[Cs];refine h.dX.c2 j ag ε ⟨q,p,?_⟩;have:bY c.tok i s (.par 0 0 .add) (c'.bx (c.home j)) (c.home j)=.par q p .bA:=Ρ
  rwa [pP _ _ e,Cs] at this
 ·have e:=se j ag ε
  have Cs:c'.bx (c.home j)=c.bx (c.home j):=upd_ne _ _ e
  show Before t (c.dr j) (c.dr (c'.bx (c.home j)))
  have b1:c'.bx (c.home j)≠0:=a
  have Χ:c.rel (c'.bx (c.home j))=true:=b;rw[Cs] at b1 Χ ⊢;exact h.dX.c3 j ag ε b1 Χ
 ·rcases g1 r q Ρ with⟨rfl,rfl⟩|⟨e,b9⟩
  ·obtain⟨v,hv⟩:=ni m (.inr hm);exact absurd ξ (h.gg.vu i m v hv op (mem_of_getElem? ψ))
  ·obtain⟨⟨k,mu,g,π⟩,Μ⟩:=h.gg.iQ r q m b9 hm p op ψ ξ;exact⟨⟨k,mu,g,by show bY c.tok i s _ _ r=_;rw[pP _ r e];exact π⟩,Μ⟩
 ·rw[n3];show jq P Q (upd c.T i (f (i==0,g,c8)) i) _ _ _;rw[upd_same];exact bb
 ·simp[c',cY.x,upd_ne _ _ ε,sg _ ε,iU j ε]
 ·show O' r=some o;rw[show O' r=c.O r from upd_ne _ _ (jX r o μ)];exact μ
theorem Inv.ghost (h:Inv P Q bt c gs w t) (Υ:gs[i]?=some g) (χ:Gj (i==0) (lF P Q f) g (c.x i)):Cg P Q bt c gs w t i f:=by
 rcases χ with⟨G',J,γ⟩|⟨b,cs,ty,J,γ⟩|⟨s,sp,ty,G',E,J,π,Μ,aA,bc,gK⟩
 ·exact h.less Υ J γ
 ·exact h.UN Υ J rfl γ
 ·exact h.group Υ J π Μ aA bc rfl gK
end
section
variable {P:Program} {Q:Value->Prop} {bt:World} {c c':cY} {gs:Array Goroutine} {w w':World} {t:Trace} {i:Nat} {g g':Goroutine} {es:Array Event}
theorem Inv.step (h:Inv P Q bt c gs w t) (Υ:gs[i]?=some g) (dJ:g.status=.running):(∃v es,i=0/\stepG P true g w=.ended (.done v) w es/\∀sl w1,Good P (λv w'=>Q v/\fq (λ_ _=>False) (λ_=>False) bt w') (crowd gs w1 sl) (.done v) w (t++MemOp.ofEvents 0 g.frame.fn g.frame.place es))\/
  ∃f,c.T i=.node f/\(hP P Q bt c gs w t i f\/Gj (i==0) (lF P Q f) g (c.x i)):=by
 obtain⟨cP,μ,ζ⟩:=h.vv i g Υ;rcases ζ with rfl|⟨_,rfl,_⟩
 ·have main:BZ P (i==0) g (c.x i) Q->(∃v es,i=0/\stepG P true g w=.ended (.done v) w es/\∀sl w1,Good P (λv w'=>Q v/\fq (λ_ _=>False) (λ_=>False) bt w') (crowd gs w1 sl) (.done v) w (t++MemOp.ofEvents 0 g.frame.fn g.frame.place es)):=λο=>by
   rcases ο with⟨ag,ο⟩|⟨_,ο⟩
   ·have e:i=0:=by simpa using ag
    subst e;obtain⟨v,es,J,γ⟩:=h.Me Υ ο none w;refine⟨v,es,rfl,J,λsl w1=>?_⟩;obtain⟨e8,es',xv,hf⟩:=h.Me Υ ο sl w1;rw[J] at xv;cases xv;exact hf
   ·rw[ο.2.2.1] at dJ;cases dJ
  cases Κ:c.T i with
  | leaf=>rw[Κ] at μ;exact .inl (main μ.2)
  | node f=>
   have fa:=μ;rw[Κ] at μ;rcases μ.2 with ο|χ
   ·exact .inl (main ο)
   ·refine .inr ⟨f,rfl,?_⟩;rcases χ with χ|⟨GW,χ⟩
    ·exact .inl (h.quits Υ χ)
    ·rcases χ with χ|χ|χ|χ|χ|χ|χ|χ|χ|χ
     ·exact .inl (h.Gp Υ χ)
     ·exact .inl (h.T6 Υ χ)
     ·exact .inl (h.T7 Υ χ)
     ·exact .inl (h.atom Υ GW fa χ)
     ·exact .inl (h.Ci Υ χ)
     ·exact .inl (h.GI Υ χ)
     ·exact .inl (h.GJ Υ χ)
     ·exact .inl (h.Cj Υ χ)
     ·exact .inl (h.GV Υ χ)
     ·exact .inr χ
 ·cases dJ
theorem Inv.UT (h:Inv P Q bt c gs w t):∀g∈gs,Go.Conc.awake g:=λg Υ=>by
 obtain⟨j,ε⟩:=Array.mem_iff_getElem?.1 Υ;intro t' Ο;rcases h.stat ε with e|⟨_,e,_⟩|⟨e,_⟩<;>rw[e] at Ο<;>cases Ο
theorem Inv.comes:∀(L:List (gd (Bool×Goroutine×aV))) (k:Nat) (c:cY) (jx:List Nat) (gs:Array Goroutine) (w:World) (t:Trace) (sl:Option (Nat×Nat)),jx.map c.T=L->Ord jx gs.size->xk gs=k->Inv P Q bt c gs w t->Comes P Q bt (crowd gs w sl) t:=by
 intro L
 induction L using (na.wf (B:=Bool×Goroutine×aV)).induction with
 | _ L GX=>
  intro k
  induction k using Nat.strongRecOn with
  | _ k xw=>
   intro c jx gs w t sl aC cI χ h;subst aC χ;obtain⟨i,g,d,zv,Υ,dJ,cA⟩:=crowd_pick (P:=P) (w:=w) (sl:=sl) h.UT h.awake;have cJ:=h.at d;have br:i<gs.size:=mq Υ;rcases cJ.step Υ dJ with⟨v,es,rfl,J,γ⟩|⟨f,Κ,GY⟩
   ·have μ:=runT_many_ended (sl:=zv) Υ (by simpa using J);rw[μ] at cA;exact Comes.last cA (γ sl w)
   ·rcases GY with GY|UU
    ·obtain⟨c',qZ,w',u,μ,fj,hQ⟩:=GY zv;rw[μ] at cA;refine Comes.next cA ?_;rcases hQ with⟨cm,kk,qW⟩|⟨cm,kk,GZ,qW⟩|⟨cm,qW,aD⟩
     ·exact GX _ (by rw[qW];exact cI.one br Κ kk) _ c' jx qZ w' _ zv rfl (by rw[cm];exact cI) rfl fj
     ·obtain⟨Cd,UW,UX⟩:=cI.two br Κ kk GZ;exact GX _ (by rw[qW];exact UX) _ c' Cd qZ w' _ zv rfl (by rw[cm];exact UW) rfl fj
     ·exact xw _ aD c' jx qZ w' _ zv (by rw[qW]) (by rw[cm];exact cI) rfl fj
    ·
     obtain⟨c',fj,kk,qW⟩:=h.ghost (f:=f) Υ UU;exact GX _ (by rw[qW];exact cI.one br Κ kk) _ c' jx gs w t sl rfl cI rfl fj
end
def Α.lH (w:World):Α:=
 ⟨λb o=>match w.heap[b]? with|some (.cells c _ _)=>(c[o]?).map (·,false)|_=>none,
  λb=>match w.heap[b]? with|some (.cells c t dI)=>if dI=(0,0) then some (t,c.size) else none|_=>none,λ_=>none⟩
theorem Α.UY (w:World):Fits (Α.lH w) w:=by
 refine⟨λb o v p h=>?_,λb t n h=>?_,λb x h=>(by cases h)⟩
 ·simp only[Α.lH] at h;cases hb:w.heap[b]? with
  | none=>rw[hb] at h;cases h
  | some x=>
   rw[hb] at h;cases x with
   | cells c t dI=>
    simp only at h;cases ζ:c[o]? with
    | none=>rw[ζ] at h;cases h
    | some e8=>rw[ζ] at h;cases h;exact nS hb ζ
   | _=>cases h
 ·simp only[Α.lH] at h;cases hb:w.heap[b]? with
  | none=>rw[hb] at h;cases h
  | some x=>
   rw[hb] at h;cases x with
   | cells c t' dI=>
    simp only at h;split at h
    ·rename_i e;cases h;exact⟨c,by rw[e],rfl⟩
    ·cases h
   | _=>cases h
theorem Α.UZ (w:World) (b o:Nat):¬(Α.lH w).owns b o:=λ⟨v,h⟩=>by
 simp only[Α.lH] at h;cases hb:w.heap[b]? with
 | none=>rw[hb] at h;cases h
 | some x=>
  rw[hb] at h;cases x with
  | cells c t dI=>
   simp only at h;cases ζ:c[o]? with
   | none=>rw[ζ] at h;cases h
   | some e8=>rw[ζ] at h;cases h
  | _=>cases h
def aV.start (w:World):aV:=⟨Α.lH w,λ_=>none,λ_=>.nil,λ_=>none,λ_=>none,0,false⟩
theorem Goes.comes {P:Program} {Q:Value->Prop} {g:Goroutine} {w:World} (h:Goes P Q true g (aV.start w)):Comes P Q w (solo g w) #[]:=by
 obtain⟨T,Κ⟩:=h;let c:cY:={H:=bL (λ_=>Α.empty) (.inl 0) (Α.lH w),aF:=λ_ _=>none,tok:=λ_ _=>.nil,spec:=λ_ _=>none,view:=λ_ _=>none,deaf:=λ_=>0,rel:=λ_=>false,T:=λ_=>T,O:=λ_=>none,bx:=λ_=>0,home:=λ_=>0,dr:=λ_=>0};have U:c.x 0=aV.start w:=by simp[c,cY.x,aV.start]
 have Β:∀k,k≠.inl 0->c.H k=Α.empty:=λk χ=>bM (λ_=>Α.empty) (Α.lH w) χ
 have sk:c.H (.inl 0)=Α.lH w:=dy (λ_=>Α.empty) (.inl 0) (Α.lH w)
 have G1:∀k b o,¬(c.H k).owns b o:=λk b o Γ=>by
  by_cases e:k=.inl 0
  ·subst e;rw[sk] at Γ;exact Α.UZ w b o Γ
  ·rw[Β k e] at Γ;obtain⟨v,hv⟩:=Γ;cases hv
 have MP:∀k b,¬(c.H k).eY b:=λk b Γ=>by
  by_cases e:k=.inl 0
  ·subst e;rw[sk] at Γ;obtain⟨v,hv⟩:=Γ;cases hv
  ·rw[Β k e] at Γ;obtain⟨v,hv⟩:=Γ;cases hv
 have jΒ:∀i:Nat,(#[]:Trace)[i]?=none:=λi=>by simp
 have cm:(#[g]:Array Goroutine).size=1:=rfl
 have inv:Inv P Q w c #[g] w #[]:=by
  refine⟨by simp,⟨λk=>?_,λj b c t hb=>(by cases hb),λs o ο=>(by cases ο),fq.refl _ _ _⟩,
   ⟨λk l _=>⟨λb o Γ=>absurd Γ (G1 k b o),λb o Γ=>absurd Γ (G1 l b o),λb Γ=>absurd Γ (MP k b)⟩,λk b o Γ=>absurd Γ (G1 k b o),λk b Γ=>absurd Γ (MP k b),λj b v hv=>(by cases hv),λs o b ο=>(by cases ο),λs bq o o' b ο=>(by cases ο),λs o m ο=>(by cases ο),λb _=>Β _ (by simp)⟩,
   ⟨λsaid ⟨i,j,_,⟨a,b,ξ,_⟩,_⟩=>(by simp[Trace.act?] at ξ),λop Ν=>(by simp at Ν),λop Ν=>(by simp at Ν),λk=>⟨λb o v p _ i a ξ=>(by simp[touchAt,Trace.act?] at ξ),λb _ i a ξ=>(by simp[touchAt,Trace.act?] at ξ)⟩,λj b v hv=>(by cases hv),λs o b ο=>(by cases ο),λj=>rfl⟩,
   ?_,⟨λs o m ο=>(by cases ο),λs o ο=>(by cases ο)⟩,⟨λk a χ=>(by simp[Trace.g?] at χ),λj _ ε=>(by cases ε),λj _ ε=>(by cases ε),λj _ ε=>(by cases ε)⟩,⟨λs o m ο=>(by cases ο),λj b v hv=>(by cases hv)⟩,λj b hb=>?_⟩
  ·by_cases e:k=.inl 0
   ·subst e;rw[sk];exact Α.UY w
   ·rw[Β k e];exact vo w
  ·exact⟨λs o ο=>(by cases ο),λs _ j=>rfl,λj s _=>rfl,λj s sp ο=>(by cases ο),λj s φ o ο=>(by cases ο),λj s k L g o ο=>(by cases ο),λj s m p aE ο=>(by cases ο),λj s k m g ο=>(by cases ο),λj ag ε=>(by rw[cm] at ε;omega),λj k m g _ ο=>(by cases ο),rfl,λj s ο=>(by cases ο),λj s k m g o ο=>(by cases ο),λs j bH k m g b0 g' ο=>(by cases ο),λs j k m g q p aE ο=>(by cases ο),λs o ο=>(by cases ο),λs o ο=>(by cases ο)⟩
  ·have ε:j=0:=by have:=mq hb;rw[cm] at this;omega
   subst ε;simp at hb;subst hb;exact⟨g,by rw[U];exact Κ,.inl rfl⟩
 rw[solo_eq_crowd];exact Inv.comes _ _ c [0] #[g] w #[] none rfl ⟨by simp,λi=>by simp⟩ rfl inv
def Α.fresh (G:Α) (r:Nat):Prop:=(∀o,G.aG r o=none)/\G.row r=none/\G.obj r=none/\∀b,r<b->(∀o,G.aG b o=none)/\G.row b=none/\G.obj b=none
def Α.vC (G:Α) (a:Addr) (v:Value):Α:={G with aG:=λb o=>if b=a.block/\o=a.off then some (v,true) else G.aG b o}
def Α.dv (G:Α) (r:Nat) (c:Array Value) (t:TypeId):Α:=⟨λb o=>if b=r then(c[o]?).map (·,true) else G.aG b o,λb=>if b=r then some (t,c.size) else G.row b,G.obj⟩
def Α.bI (G:Α) (r:Nat) (x:Obj):Α:={G with obj:=λb=>if b=r then some x else G.obj b}
def One:Value->Prop
 | .agg _|.tuple _=>False
 | _=>True
def υ {α:Type} (P:Program):Sem α->Α->(α->Α->Prop)->(Value->Α->Prop)->Prop
 | .pure a,G,K,_=>K a G
 | .load m a k,G,K,E=>m=.plain/\a.spot=none/\∃v p,G.aG a.block a.off=some (v,p)/\υ P (k v) G K E
 | .store m a v k,G,K,E=>m=.plain/\a.spot=none/\G.owns a.block a.off/\(∃t n,G.row a.block=some (t,n))/\One v/\υ P k (G.vC a v) K E
 | .new (.cells c t dI) k,G,K,E=>dI=(0,0)/\∀r,G.fresh r->υ P (k r) (G.dv r c t) K E
 | .new o k,G,K,E=>∀r,G.fresh r->υ P (k r) (G.bI r o) K E
 | .shape r k,G,K,E=>∃t n,G.row r=some (t,n)/\υ P (k (some (t,n))) G K E
 | .freeze _ _ _,_,_,_=>False
 | .frozen a k,G,K,E=>(∃t n,G.row a.block=some (t,n))/\υ P (k false) G K E
 | .getObj r k,G,K,E=>∃o,G.obj r=some o/\o.isChan=false/\υ P (k o) G K E
 | .setObj r o k,G,K,E=>G.eY r/\Obj.r6 o=false/\o.isChan=false/\υ P k (G.bI r o) K E
 | .choose q k,G,K,E=>if q.forced then υ P (k 0) G K E else ∀n,υ P (k (q.cut n)) G K E
 | .sys _ _,_,_,_=>False
 | .program k,G,K,E=>υ P (k P) G K E
 | .mark m k,G,K,E=>m=.noRoom/\υ P k G K E
 | .halt (.panic v),G,_,E=>E v G
 | .halt _,_,_,_=>False
structure dF (G0:Α) (w0:World) (G:Α) (w:World) (es:Array Event):Prop where
 fit:Fits G w
 keeps:fq G0.owns G0.eY w0 w
 kr:BX G0 G w0.heap.size
 gi:∀e∈es,ha G0 w0.heap.size w.heap.size e
theorem dF.start {G:Α} {w:World} (h:Fits G w):dF G w G w #[]:=
 ⟨h,fq.refl _ _ _,⟨λb o v p h=>.inr ⟨v,p,h,id⟩,λb h=>.inr h⟩,λe he=>by simp at he⟩
section
variable {G0 G:Α} {w0 w:World} {es:Array Event}
theorem Fits.bare (h:Fits G w) {b:Nat} (hb:w.heap.size<=b):(∀o,G.aG b o=none)/\G.row b=none/\G.obj b=none:=by
 refine⟨λo=>?_,?_,?_⟩
 ·cases ζ:G.aG b o with
  | none=>rfl
  | some x=>obtain⟨c,t,dI,hb,_⟩:=qK (h.aG _ _ x.1 x.2 ζ);have:=fr hb;omega
 ·cases ζ:G.row b with
  | none=>rfl
  | some x=>obtain⟨c,hb,_⟩:=h.row _ x.1 x.2 ζ;have:=fr hb;omega
 ·cases ζ:G.obj b with
  | none=>rfl
  | some x=>have:=fr (h.obj _ x ζ).1;omega
theorem Fits.fresh (h:Fits G w):G.fresh w.heap.size:=
 ⟨(h.bare (Nat.le_refl _)).1,(h.bare (Nat.le_refl _)).2.1,(h.bare (Nat.le_refl _)).2.2,λ_ hb=>h.bare (Nat.le_of_lt hb)⟩
theorem Α.G2 {H H':Α} (J:∀b o,H'.aG b o=none->H.aG b o=none) (γ:∀b,H'.row b=none->H.row b=none) (π:∀b,H'.obj b=none->H.obj b=none) (r:Nat) (h:H'.fresh r):H.fresh r:=
 ⟨λo=>J _ _ (h.1 o),γ _ h.2.1,π _ h.2.2.1,λb hb=>⟨λo=>J _ _ ((h.2.2.2 b hb).1 o),γ _ (h.2.2.2 b hb).2.1,π _ (h.2.2.2 b hb).2.2⟩⟩
theorem Α.MQ {H:Α} {r:Nat} (μ:H.fresh r) (c:Array Value) (t:TypeId):∀b,(H.dv r c t).fresh b->H.fresh b:=
 Α.G2 (λb o h=>by
  by_cases e:b=r
  ·subst e;exact μ.1 o
  ·simpa[Α.dv,e] using h) (λb h=>by
  by_cases e:b=r
  ·subst e;exact μ.2.1
  ·simpa[Α.dv,e] using h) (λb h=>h)
theorem Α.G3 {H:Α} {r:Nat} {x:Obj}:∀b,(H.bI r x).fresh b->H.fresh b:=
 Α.G2 (λb o h=>h) (λb h=>h) (λb h=>by
  by_cases e:b=r
  ·subst e;simp[Α.bI] at h
  ·simpa[Α.bI,e] using h)
theorem ha.mono {n iN MR:Nat} {e:Event} (h:ha G n iN e) (Η:iN<=MR):ha G n MR e:=by
 obtain⟨loc,wr,oP⟩:=e;cases loc with
 | cell a=>exact h.imp (λx=>⟨x.1,by omega⟩) id
 | obj r=>exact⟨h.1,h.2.imp (λx=>⟨x.1,by omega⟩) id⟩
 | _=>exact h
theorem dF.read (h:dF G0 w0 G w es) {a:Addr} {v:Value} {p:Bool} (ξ:a.spot=none) (ζ:G.aG a.block a.off=some (v,p)):w.cell? a=some v/\dF G0 w0 G w (es.push ⟨.cell a,false,false⟩):=by
 obtain⟨b,o,sp⟩:=a;simp only at ξ ζ;subst ξ;have hv:=h.fit.aG b o v p ζ;refine⟨hv,h.fit,h.keeps,h.kr,λe he=>?_⟩;rcases Array.mem_push.1 he with he|rfl
 ·exact h.gi e he
 ·rcases h.kr.aG b o v p ζ with Η|⟨v0,fs,ag,_⟩
  ·obtain⟨c,t,dI,hb,_⟩:=qK hv;exact .inl ⟨Η,fr hb⟩
  ·exact .inr ⟨rfl,_,ag⟩
theorem heap_setCell {a:Addr} {v:Value} {c:Array Value} {t:TypeId} {dI:Nat×Nat} (ξ:a.spot=none) (hb:w.heap[a.block]?=some (.cells c t dI)):(w.setCell a v).heap=w.heap.setIfInBounds a.block (.cells (c.setIfInBounds a.off v) t dI):=by
 obtain⟨b,o,sp⟩:=a;simp only at ξ hb;subst ξ;have aD:=fr hb;simp only[World.setCell];apply Array.ext_getElem?;intro j;rw[Array.getElem?_modify];by_cases e:b=j
 ·subst e;rw[Array.getElem?_setIfInBounds_self_of_lt aD,if_pos rfl,hb];simp
 ·rw[Array.getElem?_setIfInBounds_ne e,if_neg e]
theorem dF.write (h:dF G0 w0 G w es) {a:Addr} {v:Value} (ξ:a.spot=none) (ζ:G.owns a.block a.off):(∃u,w.cell? a=some u)/\dF G0 w0 (G.vC a v) (w.setCell a v) (es.push ⟨.cell a,true,false⟩):=by
 obtain⟨b,o,sp⟩:=a;simp only at ξ ζ;subst ξ;obtain⟨u,hu⟩:=ζ;have hv:=h.fit.aG b o u true hu;obtain⟨c,t,dI,hb,U0⟩:=qK hv;have aD:=fr hb;have aU:=heap_setCell (w:=w) (a:=⟨b,o,none⟩) (v:=v) rfl hb;have cm:(w.setCell ⟨b,o,none⟩ v).heap.size=w.heap.size:=by rw[aU];simp
 have pR:(w.setCell ⟨b,o,none⟩ v).heap[b]?=some (.cells (c.setIfInBounds o v) t dI):=by rw[aU,Array.getElem?_setIfInBounds_self_of_lt aD]
 have pS:∀j,b≠j->(w.setCell ⟨b,o,none⟩ v).heap[j]?=w.heap[j]?:=λj ε=>by rw[aU,Array.getElem?_setIfInBounds_ne ε]
 have Γ:o<c.size:=(Array.getElem?_eq_some_iff.1 U0).1
 have MS:b<w0.heap.size->G0.owns b o:=λjA=>by
  rcases h.kr.aG b o u true hu with Η|⟨v0,fs,ag,ψ⟩
  ·omega
  ·exact⟨v0,by rw[ag,ψ rfl]⟩
 refine⟨⟨u,hv⟩,⟨λΧ o' e8 e2 a5=>?_,λΧ t' iN μ=>?_,λΧ x U=>?_⟩,⟨by rw[cm];exact h.keeps.size,λΧ c' t' MT db=>?_,λΧ x db U Η=>?_,h.keeps.os,h.keeps.output,h.keeps.tape⟩,⟨λΧ o' e8 e2 a5=>?_,h.kr.obj⟩,λe he=>?_⟩
 ·simp only[Α.vC] at a5;by_cases e:Χ=b/\o'=o
  ·obtain⟨rfl,rfl⟩:=e;rw[if_pos ⟨rfl,rfl⟩] at a5;cases a5;exact nS pR (by rw[Array.getElem?_setIfInBounds_self_of_lt Γ])
  ·rw[if_neg e] at a5;have:=h.fit.aG Χ o' e8 e2 a5;by_cases Ζ:Χ=b
   ·subst Ζ;have Ε:o≠o':=λx=>e ⟨rfl,x.symm⟩;obtain⟨c2,t2,MU,fw,n4⟩:=qK this;rw[hb] at fw;cases fw;exact nS pR (by rw[Array.getElem?_setIfInBounds_ne Ε];exact n4)
   ·obtain⟨c2,t2,MU,fw,n4⟩:=qK this;exact nS (by rw[pS Χ (Ne.symm Ζ)];exact fw) n4
 ·obtain⟨c2,fw,dP⟩:=h.fit.row Χ t' iN μ;by_cases Ζ:Χ=b
  ·subst Ζ;rw[hb] at fw;cases fw;exact⟨_,pR,by simpa using dP⟩
  ·exact⟨c2,by rw[pS Χ (Ne.symm Ζ)];exact fw,dP⟩
 ·obtain⟨fw,my⟩:=h.fit.obj Χ x U;have Ζ:b≠Χ:=λe=>by subst e;rw[hb] at fw;cases fw;cases my
  exact⟨by rw[pS Χ Ζ];exact fw,my⟩
 ·obtain⟨c2,J,γ,π⟩:=h.keeps.cells Χ c' t' MT db;by_cases Ζ:Χ=b
  ·subst Ζ;rw[hb] at J;cases J;refine⟨_,pR,by simpa using γ,λo' jw=>?_⟩;have Ε:o≠o':=λe=>by subst e;exact jw (MS (fr db))
   rw[Array.getElem?_setIfInBounds_ne Ε];exact π o' jw
  ·exact⟨c2,by rw[pS Χ (Ne.symm Ζ)];exact J,γ,π⟩
 ·have J:=h.keeps.m8 Χ x db U Η
  have Ζ:b≠Χ:=λe=>by subst e;rw[hb] at J;cases J;cases U
  rw[pS Χ Ζ];exact J
 ·simp only[Α.vC] at a5;by_cases e:Χ=b/\o'=o
  ·obtain⟨rfl,rfl⟩:=e;rw[if_pos ⟨rfl,rfl⟩] at a5;cases a5;rcases h.kr.aG _ _ _ _ hu with Η|⟨v0,fs,ag,ψ⟩
   ·exact .inl Η
   ·exact .inr ⟨v0,fs,ag,ψ⟩
  ·rw[if_neg e] at a5;exact h.kr.aG Χ o' e8 e2 a5
 ·rw[cm];rcases Array.mem_push.1 he with he|rfl
  ·exact h.gi e he
  ·rcases Nat.lt_or_ge b w0.heap.size with jA|jA
   ·refine .inr ⟨rfl,?_⟩;exact MS jA
   ·exact .inl ⟨jA,aD⟩
theorem zw {x:Obj} {j:Nat} (ε:j<w.heap.size):(w.heap.push x)[j]?=w.heap[j]?:=by
 rw[Array.getElem?_push,if_neg (by omega)]
theorem Ct {x:Obj}:(w.heap.push x)[w.heap.size]?=some x:=by simp
theorem dF.new (h:dF G0 w0 G w es) {x:Obj} {G':Α} (ζ:∀b o,b≠w.heap.size->G'.aG b o=G.aG b o) (μ:∀b,b≠w.heap.size->G'.row b=G.row b) (Γ:∀b,b≠w.heap.size->G'.obj b=G.obj b)
  (Φ:Fits {aG:=λb o=>if b=w.heap.size then G'.aG b o else none,row:=λb=>if b=w.heap.size then G'.row b else none,obj:=λb=>if b=w.heap.size then G'.obj b else none} {w with heap:=w.heap.push x}) :
  dF G0 w0 G' {w with heap:=w.heap.push x} es:=by
 have hle:=h.keeps.size;refine⟨⟨λb o v p hb=>?_,λb t n hb=>?_,λb y hb=>?_⟩,⟨by simp;omega,λb c t dI hb=>?_,λb y hb Ξ Η=>?_,h.keeps.os,h.keeps.output,h.keeps.tape⟩,⟨λb o v p hb=>?_,λb ⟨y,hb⟩=>?_⟩,λe he=>(h.gi e he).mono (by simp)⟩
 ·by_cases e:b=w.heap.size
  ·exact Φ.aG b o v p (by simp only[e,if_true];rw[<-e];exact hb)
  ·rw[ζ b o e] at hb;obtain⟨c2,t2,MU,fw,n4⟩:=qK (h.fit.aG b o v p hb);exact nS (w:={w with heap:=w.heap.push x}) (by show(w.heap.push x)[b]?=_;rw[zw (fr fw)];exact fw) n4
 ·by_cases e:b=w.heap.size
  ·exact Φ.row b t n (by simp only[e,if_true];rw[<-e];exact hb)
  ·rw[μ b e] at hb;obtain⟨c2,fw,dP⟩:=h.fit.row b t n hb;exact⟨c2,by show(w.heap.push x)[b]?=_;rw[zw (fr fw)];exact fw,dP⟩
 ·by_cases e:b=w.heap.size
  ·exact Φ.obj b y (by simp only[e,if_true];rw[<-e];exact hb)
  ·rw[Γ b e] at hb;obtain⟨fw,Ξ⟩:=h.fit.obj b y hb;exact⟨by show(w.heap.push x)[b]?=_;rw[zw (fr fw)];exact fw,Ξ⟩
 ·obtain⟨c2,J,γ,π⟩:=h.keeps.cells b c t dI hb;exact⟨c2,by show(w.heap.push x)[b]?=_;rw[zw (fr J)];exact J,γ,π⟩
 ·have J:=h.keeps.m8 b y hb Ξ Η
  show(w.heap.push x)[b]?=_;rw[zw (fr J)];exact J
 ·by_cases e:b=w.heap.size
  ·exact .inl (by omega)
  ·rw[ζ b o e] at hb;exact h.kr.aG b o v p hb
 ·by_cases e:b=w.heap.size
  ·exact .inl (by omega)
  ·rw[Γ b e] at hb;exact h.kr.obj b ⟨y,hb⟩
end
section
variable {G0 G:Α} {w0 w:World} {es:Array Event} {P:Program}
theorem dF.push (h:dF G0 w0 G w es) {e:Event} (he:ha G0 w0.heap.size w.heap.size e):dF G0 w0 G w (es.push e):=
 ⟨h.fit,h.keeps,h.kr,λx U=>(Array.mem_push.1 U).elim (h.gi x) λy=>y▸he⟩
theorem dF.draw (h:dF G0 w0 G w es) (n:Nat):dF G0 w0 G {w with drawn:=n} es:=
 ⟨⟨h.fit.aG,h.fit.row,h.fit.obj⟩,⟨h.keeps.size,h.keeps.cells,h.keeps.m8,h.keeps.os,h.keeps.output,h.keeps.tape⟩,h.kr,h.gi⟩
theorem dF.row (h:dF G0 w0 G w es) (c:Array Value) (t:TypeId):dF G0 w0 (G.dv w.heap.size c t) {w with heap:=w.heap.push (.cells c t (0,0))} es:=by
 refine h.new (λb o hb=>by simp[Α.dv,hb]) (λb hb=>by simp[Α.dv,hb]) (λb hb=>rfl) ⟨λb o v p hb=>?_,λb t' n hb=>?_,λb y hb=>?_⟩
 ·by_cases e:b=w.heap.size
  ·simp[Α.dv,e] at hb;obtain⟨j0,fw,rfl,rfl⟩:=hb;rw[e];exact nS (w:={w with heap:=w.heap.push (.cells c t (0,0))}) Ct fw
  ·simp[e] at hb
 ·by_cases e:b=w.heap.size
  ·simp[Α.dv,e] at hb;obtain⟨rfl,rfl⟩:=hb;rw[e];exact⟨c,Ct,rfl⟩
  ·simp[e] at hb
 ·by_cases e:b=w.heap.size
  ·simp only[e,if_true,Α.dv] at hb;rw[h.fit.fresh.2.2.1] at hb;cases hb
  ·simp[e] at hb
theorem dF.obj (h:dF G0 w0 G w es) {x:Obj} (U:Obj.r6 x=false):dF G0 w0 (G.bI w.heap.size x) {w with heap:=w.heap.push x} es:=by
 refine h.new (λb o hb=>rfl) (λb hb=>rfl) (λb hb=>by simp[Α.bI,hb]) ⟨λb o v p hb=>?_,λb t' n hb=>?_,λb y hb=>?_⟩
 ·by_cases e:b=w.heap.size
  ·simp only[e,if_true,Α.bI] at hb;rw[h.fit.fresh.1] at hb;cases hb
  ·simp[e] at hb
 ·by_cases e:b=w.heap.size
  ·simp only[e,if_true,Α.bI] at hb;rw[h.fit.fresh.2.1] at hb;cases hb
  ·simp[e] at hb
 ·by_cases e:b=w.heap.size
  ·simp[Α.bI,e] at hb;subst hb;rw[e];exact⟨Ct,U⟩
  ·simp[e] at hb
theorem dF.setObj (h:dF G0 w0 G w es) {r:Nat} {x:Obj} (μ:G.eY r) (U:Obj.r6 x=false):(∃y,w.heap[r]?=some y/\Obj.r6 y=false)/\dF G0 w0 (G.bI r x) {w with heap:=w.heap.setIfInBounds r x} (es.push ⟨.obj r,true,false⟩):=by
 obtain⟨y,Ξ⟩:=μ;obtain⟨hb,tK⟩:=h.fit.obj r y Ξ;have aD:=fr hb;have pR:(w.heap.setIfInBounds r x)[r]?=some x:=Array.getElem?_setIfInBounds_self_of_lt aD;have pS:∀j,r≠j->(w.heap.setIfInBounds r x)[j]?=w.heap[j]?:=λj ε=>Array.getElem?_setIfInBounds_ne ε;have G4:∀b c t dI,w.heap[b]?=some (.cells c t dI)->r≠b:=λb c t dI ζ e=>by subst e;rw[hb] at ζ;cases ζ;cases tK
 refine⟨⟨y,hb,tK⟩,⟨λb o v p ζ=>?_,λb t n ζ=>?_,λb z Θ=>?_⟩,⟨by simp;exact h.keeps.size,λb c t dI ζ=>?_,λb z ζ Θ Η=>?_,h.keeps.os,h.keeps.output,h.keeps.tape⟩,⟨h.kr.aG,λb Θ=>?_⟩,λe he=>?_⟩
 ·obtain⟨c,t,dI,J,γ⟩:=qK (h.fit.aG b o v p ζ);exact nS (w:={w with heap:=w.heap.setIfInBounds r x}) (by show(w.heap.setIfInBounds r x)[b]?=_;rw[pS b (G4 b c t dI J)];exact J) γ
 ·obtain⟨c,J,γ⟩:=h.fit.row b t n ζ;exact⟨c,by show(w.heap.setIfInBounds r x)[b]?=_;rw[pS b (G4 b c t _ J)];exact J,γ⟩
 ·by_cases e:b=r
  ·subst e;simp[Α.bI] at Θ;subst Θ;exact⟨pR,U⟩
  ·simp[Α.bI,e] at Θ;obtain⟨J,γ⟩:=h.fit.obj b z Θ;exact⟨by show(w.heap.setIfInBounds r x)[b]?=_;rw[pS b (Ne.symm e)];exact J,γ⟩
 ·obtain⟨c2,J,γ,π⟩:=h.keeps.cells b c t dI ζ;exact⟨c2,by show(w.heap.setIfInBounds r x)[b]?=_;rw[pS b (G4 b c2 t dI J)];exact J,γ,π⟩
 ·have J:=h.keeps.m8 b z ζ Θ Η
  have e:r≠b:=λe=>by
   subst e;rcases h.kr.obj r ⟨y,Ξ⟩ with U|U
   ·have:=fr ζ;omega
   ·exact Η U
  show(w.heap.setIfInBounds r x)[b]?=_;rw[pS b e];exact J
 ·by_cases e:b=r
  ·subst e;exact h.kr.obj b ⟨y,Ξ⟩
  ·obtain⟨z,Θ⟩:=Θ;simp[Α.bI,e] at Θ;exact h.kr.obj b ⟨z,Θ⟩
 ·simp only[Array.size_setIfInBounds];rcases Array.mem_push.1 he with he|rfl
  ·exact h.gi e he
  ·exact⟨rfl,(h.kr.obj r ⟨y,Ξ⟩).imp (λU=>⟨U,aD⟩) id⟩
theorem υ.sound {α:Type} {K:α->Α->Prop} {E:Value->Α->Prop} (s:Sem α):∀{G:Α} {w:World} {es:Array Event},υ P s G K E->dF G0 w0 G w es->
  ∃G' w' es',dF G0 w0 G' w' es'/\((∃a,s.runT P w es=(.ok a w',es')/\K a G')\/(∃v,s.runT P w es=(.halt (.panic v) w',es')/\E v G')):=by
 induction s with
 | pure a=>intro G w es h hu;exact⟨G,w,es,hu,.inl ⟨a,rfl,h⟩⟩
 | load m a k Δ=>
  intro G w es h hu;obtain⟨rfl,ξ,v,p,ζ,χ⟩:=h;obtain⟨hv,vD⟩:=hu.read ξ ζ;obtain⟨G',w',es',J,γ⟩:=Δ v χ vD;refine⟨G',w',es',J,?_⟩;simp only[Sem.runT,hv];exact γ
 | store m a v k Δ=>
  intro G w es h hu;obtain⟨rfl,ξ,ζ,⟨t,n,bC⟩,Cu,χ⟩:=h;obtain⟨⟨u,hv⟩,vD⟩:=hu.write (v:=v) ξ ζ;obtain⟨G',w',es',J,γ⟩:=Δ χ vD;have MV:w.frozen? a=false:=by
   obtain⟨c,hb,_⟩:=hu.fit.row a.block t n bC;simp[World.frozen?,hb]
  refine⟨G',w',es',J,?_⟩;have e:(Sem.store .plain a v k).runT P w es=k.runT P (w.setCell a v) (es.push ⟨.cell a,true,false⟩):=by
   cases v<;>first|exact Cu.elim|(simp only[Sem.runT,hv,MV];rfl)
  rw[e];exact γ
 | new o k Δ=>
  intro G w es h hu;cases o with
  | cells c t dI=>
   obtain⟨rfl,χ⟩:=h;obtain⟨G',w',es',J,γ⟩:=Δ w.heap.size (χ _ hu.fit.fresh) (hu.row c t);exact⟨G',w',es',J,γ⟩
  | _=>
   obtain⟨G',w',es',J,γ⟩:=Δ w.heap.size (h _ hu.fit.fresh) (hu.obj rfl);exact⟨G',w',es',J,γ⟩
 | shape r k Δ=>
  intro G w es h hu;obtain⟨t,n,μ,χ⟩:=h;have e:w.shape? r=some (t,n):=by
   obtain⟨c,hb,ο⟩:=hu.fit.row r t n μ;simp[World.shape?,hb,ο]
  obtain⟨G',w',es',J,γ⟩:=Δ _ χ hu;refine⟨G',w',es',J,?_⟩;simp only[Sem.runT,e];exact γ
 | freeze a n k Δ=>intro G w es h hu;exact h.elim
 | frozen a k Δ=>
  intro G w es h hu;obtain⟨⟨t,n,μ⟩,χ⟩:=h;have e:w.frozen? a=false:=by
   obtain⟨c,hb,_⟩:=hu.fit.row a.block t n μ;simp[World.frozen?,hb]
  obtain⟨G',w',es',J,γ⟩:=Δ _ χ hu;refine⟨G',w',es',J,?_⟩;simp only[Sem.runT,e];exact γ
 | getObj r k Δ=>
  intro G w es h hu;obtain⟨o,Γ,ml,χ⟩:=h;obtain⟨hb,bP⟩:=hu.fit.obj r o Γ;have aD:=fr hb;have vD:=hu.push (e:=⟨.obj r,false,false⟩) ⟨rfl,(hu.kr.obj r ⟨o,Γ⟩).imp (λU=>⟨U,aD⟩) id⟩;obtain⟨G',w',es',J,γ⟩:=Δ _ χ vD;refine⟨G',w',es',J,?_⟩;have e:(Sem.getObj r k).runT P w es=(k o).runT P w (es.push ⟨.obj r,false,false⟩):=by
   cases o<;>first|(simp only[Sem.runT,hb];first|done|rfl|(rw[ml];done))|(cases bP;done)
  rw[e];exact γ
 | setObj r o k Δ=>
  intro G w es h hu;obtain⟨μ,bP,ml,χ⟩:=h;obtain⟨⟨y,hb,tK⟩,vD⟩:=hu.setObj μ bP;obtain⟨G',w',es',J,γ⟩:=Δ χ vD;refine⟨G',w',es',J,?_⟩;have e:(Sem.setObj r o k).runT P w es=k.runT P {w with heap:=w.heap.setIfInBounds r o} (es.push ⟨.obj r,true,false⟩):=by
   cases y<;>first|(simp only[Sem.runT,hb,ml];done)|(cases tK;done)
  rw[e];exact γ
 | choose q k Δ=>
  intro G w es h hu;simp only[υ] at h;by_cases Ρ:q.forced=true
  ·rw[if_pos Ρ] at h;obtain⟨G',w',es',J,γ⟩:=Δ _ h hu;refine⟨G',w',es',J,?_⟩;simp only[Sem.runT,Ρ,if_true];exact γ
  ·rw[if_neg Ρ] at h;obtain⟨G',w',es',J,γ⟩:=Δ _ (h (w.tape w.drawn q)) (hu.draw (w.drawn+1));refine⟨G',w',es',J,?_⟩;simp only[Sem.runT,Ρ];exact γ
 | sys c k Δ=>intro G w es h hu;exact h.elim
 | program k Δ=>
  intro G w es h hu;obtain⟨G',w',es',J,γ⟩:=Δ P h hu;exact⟨G',w',es',J,γ⟩
 | mark m k Δ=>
  intro G w es h hu;obtain⟨rfl,χ⟩:=h;obtain⟨G',w',es',J,γ⟩:=Δ χ (hu.push (e:=⟨.mark .noRoom,false,true⟩) rfl);exact⟨G',w',es',J,γ⟩
 | halt x=>
  intro G w es h hu;cases x<;>first|exact h.elim|skip
  exact⟨G,w,es,hu,.inr ⟨_,rfl,h⟩⟩
theorem mem_seen {fn:FuncId} {e:Event} (h:e∈seen P fn es):e∈es:=by
 unfold seen at h;obtain⟨l⟩:=es;have key:∀(l:List Event) (q:Bool) (kept:Array Event) (x:Event),x∈(l.foldl (λ(s:Bool×Array Event) e=>match e.loc with
   | .mark (Mark.extern f)=>((P.funcs[f]?).any (·.norace),s.2)
   | _=>(s.1,if s.1&&!e.sync then s.2 else s.2.push e)) (q,kept)).2->x∈kept\/x∈l:=by
  intro l
  induction l with
  | nil=>intro q kept x U;exact .inl U
  | cons y l Δ=>
   intro q kept x U;rw[List.foldl_cons] at U;rcases Δ _ _ x U with hy|hy
   ·split at hy
    ·exact .inl hy
    ·simp only at hy;split at hy
     ·exact .inl hy
     ·rcases Array.mem_push.1 hy with B9|rfl
      ·exact .inl B9
      ·exact .inr (by simp)
   ·exact .inr (by simp[hy])
 simp only[List.foldl_toArray'] at h;rcases key l _ #[] e h with U|U
 ·simp at U
 ·simpa using U
end
def cn (P:Program) (Q:Value->Prop) (mn:Bool) (y:aV) (ar:Frame) (cs:List Frame) (H:Α):Prop:=Goes P Q mn (Go.Conc.G ar cs) {y with G:=H}
def gN:Type:=aV->Prop
class bm where
 q:gN->Prop
structure Seq [bm] (x:gN):Prop where
 cls:bm.q x
 rel:∀y,x y->y.rel=false
 aF:∀y,x y->y.aF=λ_=>none
def aM (P:Program) (Q:Value->Prop) (mn:Bool) (x:gN) (ar:Frame) (cs:List Frame) (H:Α):Prop:=∀y,x y->cn P Q mn y ar cs H
def ar (b:Frame) (t:Array Value) (k:List Item):Frame:={b with tmps:=t,todo:=k}
section
variable {P:Program} {Q:Value->Prop} {mn:Bool} {x:gN} {cs:List Frame} {H:Α} {b f:Frame} {t:Array Value} {k:List Item}
theorem cn.own {y:aV} (dZ:y.rel=false) (fE:y.aF=λ_=>none) (h:∀w,Fits H w->∃f' cs' w' es H',stepG P mn (Go.Conc.G f cs) w=.go (Go.Conc.G f' cs') w' es/\dF H w H' w' es/\cn P Q mn y f' cs' H'):cn P Q mn y f cs H:=by
 refine Goes.step (λμ=>by rw[show({y with G:=H}:aV).rel=y.rel from rfl,dZ] at μ;cases μ) (.inr ⟨⟨rfl,rfl⟩,.inl λw Φ hv=>?_⟩);obtain⟨f',cs',w',es,H',J,γ,π⟩:=h w Φ;rw[J];refine⟨H',y.aF,⟨rfl,rfl⟩,γ.keeps,γ.fit,λb c t hb=>?_,γ.kr,λb c hb=>.inl hb,λe he=>?_,λb c hb=>?_,π⟩
 ·rw[fE] at hb;cases hb
 ·rw[if_neg (by rw[show({y with G:=H}:aV).rel=y.rel from rfl,dZ];simp)];exact γ.gi e he
 ·rw[fE] at hb;cases hb
variable [bm]
theorem aM.own (U:Seq x) (h:∀w,Fits H w->∃f' cs' w' es H',stepG P mn (Go.Conc.G f cs) w=.go (Go.Conc.G f' cs') w' es/\dF H w H' w' es/\aM P Q mn x f' cs' H'):aM P Q mn x f cs H:=
 λy Ξ=>.own (U.rel y Ξ) (U.aF y Ξ) λw Φ=>let ⟨f',cs',w',es,H',a,b,c⟩:=h w Φ;⟨f',cs',w',es,H',a,b,c y Ξ⟩
theorem aM.still (U:Seq x) {f':Frame} {cs':List Frame} (ο:∀w,stepG P mn (Go.Conc.G f cs) w=.go (Go.Conc.G f' cs') w #[]) (h:aM P Q mn x f' cs' H):aM P Q mn x f cs H:=
 .own U λw Φ=>⟨f',cs',w,#[],H,ο w,.start Φ,h⟩
theorem iV (hb:b.mode=.run) (w:World):stepG P mn (Go.Conc.G (ar b t k) cs) w=stepG.exec P mn true (ar b t k) cs none w:=by
 obtain⟨fn,xx,td,U1,tL,kd,ro⟩:=b;simp only at hb;subst hb;rfl
section U2
variable (U:Seq x) (hb:b.mode=.run)
include U hb
theorem aM.to {ab:List Item} (ο:∀w,stepG.exec P mn true (ar b t k) cs none w=.go (Go.Conc.G (ar b t ab) cs) w #[]) (h:aM P Q mn x (ar b t ab) cs H):aM P Q mn x (ar b t k) cs H:=
 .still U (λw=>(iV hb w).trans (ο w)) h
theorem aM.skip (h:aM P Q mn x (ar b t k) cs H):aM P Q mn x (ar b t (.code .skip::k)) cs H:=.to U hb (λ_=>rfl) h
theorem aM.inBlock {l:Nat} (h:aM P Q mn x (ar b t k) cs H):aM P Q mn x (ar b t (.inBlock l::k)) cs H:=.to U hb (λ_=>rfl) h
theorem aM.seq {a c:Code} (h:aM P Q mn x (ar b t (.code a::.code c::k)) cs H):aM P Q mn x (ar b t (.code (.seq a c)::k)) cs H:=.to U hb (λ_=>rfl) h
theorem aM.block {l:Nat} {c:Code} (h:aM P Q mn x (ar b t (.code c::.inBlock l::k)) cs H):aM P Q mn x (ar b t (.code (.block l c)::k)) cs H:=.to U hb (λ_=>rfl) h
theorem aM.loop {c:Code} (h:aM P Q mn x (ar b t (.code c::.inLoop c::k)) cs H):aM P Q mn x (ar b t (.code (.loop c)::k)) cs H:=.to U hb (λ_=>rfl) h
theorem aM.inLoop {c:Code} (h:aM P Q mn x (ar b t (.code c::.inLoop c::k)) cs H):aM P Q mn x (ar b t (.inLoop c::k)) cs H:=.to U hb (λ_=>rfl) h
theorem aM.region {id:Nat} {ops:Array Oper} (h:aM P Q mn x (ar b t (.inRegion ops (List.range ops.size)::k)) cs H):aM P Q mn x (ar b t (.code (.region id ops false)::k)) cs H:=.to U hb (λ_=>rfl) h
theorem aM.bF {ops:Array Oper} (h:aM P Q mn x (ar b t k) cs H):aM P Q mn x (ar b t (.inRegion ops []::k)) cs H:=.to U hb (λ_=>rfl) h
theorem aM.cond {c:Operand} {a e:Code} {v:Bool} (ζ:(ar b t k).eval c=.bool v) (h:aM P Q mn x (ar b t (.code (if v then a else e)::k)) cs H):aM P Q mn x (ar b t (.code (.cond c a e)::k)) cs H:=by
 refine .to U hb (λw=>?_) h;have a5:(ar b t (.code (.cond c a e)::k)).eval c=.bool v:=ζ;unfold stepG.exec;simp only[ar] at a5 ⊢;rw[a5];rfl
theorem aM.exit {l:Nat} {ab:List Item} (he:exitTo l k=some ab) (h:aM P Q mn x (ar b t ab) cs H):aM P Q mn x (ar b t (.code (.exit l)::k)) cs H:=by
 refine .to U hb (λw=>?_) h;unfold stepG.exec;simp only[ar,he,Option.elim];rfl
theorem aM.draw {id:Nat} {ops:Array Oper} (h:∀n,aM P Q mn x (ar b t (.inRegion ops (Region.schedule (P.follows .mixedOrders) ops n)::k)) cs H):aM P Q mn x (ar b t (.code (.region id ops true)::k)) cs H:=by
 refine .own U λw Φ=>⟨ar b t (.inRegion ops (Region.schedule (P.follows .mixedOrders) ops (w.tape w.drawn (.order b.fn id)))::k),cs,{w with drawn:=w.drawn+1},#[],H,?_,(dF.start Φ).draw _,h _⟩;rw[iV hb];rfl
theorem aM.ret (μ:b.roundOf=none) (h:aM P Q mn x {ar b t (.code .ret::k) with mode:=.returning} cs H):aM P Q mn x (ar b t (.code .ret::k)) cs H:=by
 refine .still U (λw=>?_) h;rw[iV hb];unfold stepG.exec;simp only[ar,μ];rfl
theorem aM.sm (μ:b.roundOf=none) (h:aM P Q mn x {ar b t [] with mode:=.returning} cs H):aM P Q mn x (ar b t []) cs H:=by
 refine .still U (λw=>?_) h;rw[iV hb];unfold stepG.exec;simp only[ar,μ];rfl
end U2
end
end Go.TL
namespace Go.TL
open Go.Conc
open Go.ConcM (OsLater)
open Go.ConcN (sumTo upd sumTo_upd upd_ne upd_same sumTo_congr le_sumTo)
variable [bm]
def bs (t:Array Value):Operand->Value
 | .tmp n=>t.getD n undef
 | .const v=>v
 | .global g=>.pointer (some ⟨g,0,none⟩)
 | .func f=>.func (.func f) #[] #[]
theorem zx (b:Frame) (t:Array Value) (k:List Item):(ar b t k).eval=bs t:=by funext o;cases o<;>rfl
def put (o:Oper) (t:Array Value) (v:Value):Array Value:=match o.dst with|some d=>t.setIfInBounds d v|none=>t
def MW (P:Program) (Q:Value->Prop) (mn:Bool) (x:gN) (b:Frame) (t:Array Value) (ops:Array Oper) (i:Nat) (o:Oper) (rest:List Nat) (k:List Item) (cs:List Frame):Next->Α->Prop
 | .value v,H=>aM P Q mn x (ar b (put o t v) (.inRegion ops rest::k)) cs H
 | .skip,H=>aM P Q mn x (ar b (put o t undef) (.inRegion ops rest::k)) cs H
 | .enter f args,H=>aM P Q mn x (Frame.enter P f args .normal) (ar b t (.inRegion ops (i::rest)::k)::cs) H
 | .round l f xx Cv sn,H=>aM P Q mn x (Frame.round l f xx Cv sn .normal) (ar b t (.inRegion ops (i::rest)::k)::cs) H
 | .defer d,H=>aM P Q mn x (ar {b with defers:=d::b.defers} (put o t undef) (.inRegion ops rest::k)) cs H
 | .recover,H=>b.roundOf=none/\match tryRecover (ar b t (.inRegion ops (i::rest)::k)) cs with
  | some (v,cs')=>aM P Q mn x (ar b (put o t v) (.inRegion ops rest::k)) cs' H
  | none=>aM P Q mn x (ar b (put o t .nilIface) (.inRegion ops rest::k)) cs H
 | _,_=>False
section
variable {P:Program} {Q:Value->Prop} {mn:Bool} {x:gN} {cs:List Frame} {H:Α} {b f:Frame} {t:Array Value} {k:List Item}
theorem dF.sub {G0 G:Α} {w0 w:World} {es es':Array Event} (h:dF G0 w0 G w es) (ο:∀e∈es',e∈es):dF G0 w0 G w es':=⟨h.fit,h.keeps,h.kr,λe he=>h.gi e (ο e he)⟩
theorem h' {b:Frame} {ops:Array Oper} {i:Nat} {o:Oper} {rest:List Nat} {v:Value} (Γ:ops[i]?=some o):(ar b t (.inRegion ops (i::rest)::k)).finish v=ar b (put o t v) (.inRegion ops rest::k):=by
 simp only[Frame.finish,ar,Γ,Option.bind,put];cases o.dst<;>rfl
theorem aM.unwanted (U:Seq x) (hb:b.mode=.run) {ops:Array Oper} {i:Nat} {o:Oper} {rest:List Nat} (Γ:ops[i]?=some o) (hw:Region.wanted o (yielded ops t)=false)
  (h:aM P Q mn x (ar b (put o t undef) (.inRegion ops rest::k)) cs H):aM P Q mn x (ar b t (.inRegion ops (i::rest)::k)) cs H:=by
 refine .still U (f':=ar b (put o t undef) (.inRegion ops rest::k)) (cs':=cs) (λw=>?_) h;rw[iV hb,<-h' Γ];have vm:((ops[i]?).map (Region.wanted · (yielded ops t))).getD false=false:=by simp[Γ,hw]
 unfold stepG.exec;simp only[ar,vm];rfl
theorem aM.op (U:Seq x) (hb:b.mode=.run) {ops:Array Oper} {i:Nat} {o:Oper} {rest:List Nat} (Γ:ops[i]?=some o) (hw:Region.wanted o (yielded ops t)=true) (hd:b.roundOf=none\/∀c,o.op≠.defer c)
  (h:υ P (execOp (bs t) o) H (MW P Q mn x b t ops i o rest k cs) (λv H'=>aM P Q mn x {ar b t (.inRegion ops (i::rest)::k) with mode:=.panicking [{v,recovered:=false}]} cs H')) :
  aM P Q mn x (ar b t (.inRegion ops (i::rest)::k)) cs H:=by
 refine .own U λw Φ=>?_;obtain⟨H',w',es',hu,hQ⟩:=υ.sound (P:=P) (G0:=H) (w0:=w) (execOp (bs t) o) h (dF.start Φ);have zy:stepG P mn (Go.Conc.G (ar b t (.inRegion ops (i::rest)::k)) cs) w=stepG.apply P true (ar b t (.inRegion ops (i::rest)::k)) cs none (execOp (bs t) o) w:=by
  rw[iV hb];have vm:((ops[i]?).map (Region.wanted · (yielded ops t))).getD false=true:=by simp[Γ,hw]
  have he:(ar b t (.inRegion ops (i::rest)::k)).oper?=some o:=by simp[Frame.oper?,ar,Γ]
  unfold stepG.exec;simp only[ar,vm,if_true];simp only[ar] at he;unfold stepG.oper;simp only[he];rcases hd with hd|hd
  ·simp only[hd];rw[<-zx b t (.inRegion ops (i::rest)::k)];rfl
  ·cases μ:b.roundOf with
   | none=>rw[<-zx b t (.inRegion ops (i::rest)::k)];rfl
   | some l=>
    cases Ν:o.op<;>first|exact absurd Ν (hd _)|(simp only;rw[<-zx b t (.inRegion ops (i::rest)::k)];rfl)
 rw[zy];generalize fu:(if(ar b t (.inRegion ops (i::rest)::k)).kind==.early then #[] else es')=n5;have jZ:∀e∈seen P b.fn n5,e∈es':=λe he=>by
  have:=mem_seen he;rw[<-fu] at this;split at this
  ·simp at this
  ·exact this
 have oW:∀v,(ar b t (.inRegion ops (i::rest)::k)).finish v=ar b (put o t v) (.inRegion ops rest::k):=λv=>h' Γ;rcases hQ with⟨gv,dJ,I⟩|⟨v,dJ,c9⟩
 ·cases gv<;>first|exact I.elim|skip
  case value v=>exact⟨_,_,w',seen P b.fn n5,H',by unfold stepG.apply;simp only[dJ,if_true];rw[fu,oW];simp[GStep.after,Go.Conc.G,ar],hu.sub jZ,I⟩
  case skip=>exact⟨_,_,w',seen P b.fn n5,H',by unfold stepG.apply;simp only[dJ,if_true];rw[fu,oW];simp[GStep.after,Go.Conc.G,ar],hu.sub jZ,I⟩
  case enter f args=>exact⟨_,_,w',seen P b.fn n5,H',by unfold stepG.apply;simp only[dJ,if_true];rw[fu];simp[GStep.after,Go.Conc.G,ar],hu.sub jZ,I⟩
  case round l f xx Cv sn=>exact⟨_,_,w',seen P b.fn n5,H',by unfold stepG.apply;simp only[dJ,if_true];rw[fu];simp[GStep.after,Go.Conc.G,ar],hu.sub jZ,I⟩
  case defer d=>exact⟨_,_,w',seen P b.fn n5,H',by unfold stepG.apply;simp only[dJ,if_true];rw[fu];simp[GStep.after,Go.Conc.G,Frame.finish,ar,put,Γ];cases o.dst<;>rfl,hu.sub jZ,I⟩
  case recover=>
   obtain⟨cd,I⟩:=I;cases oX:tryRecover (ar b t (.inRegion ops (i::rest)::k)) cs with
   | none=>
    rw[oX] at I;exact⟨_,_,w',seen P b.fn n5,H',by unfold stepG.apply;simp only[dJ,if_true];rw[fu,oW];simp only[ar] at oX ⊢;simp only[cd];rw[cd] at oX;rw[oX];simp[GStep.after,Go.Conc.G],hu.sub jZ,I⟩
   | some r=>
    obtain⟨v,cs'⟩:=r;rw[oX] at I;exact⟨_,_,w',seen P b.fn n5,H',by unfold stepG.apply;simp only[dJ,if_true];rw[fu];simp only[ar] at oX ⊢;simp only[cd];rw[cd] at oX;rw[oX];simp[GStep.after,Go.Conc.G];(have e:=oW v;simp only[ar,cd] at e;exact e),hu.sub jZ,I⟩
 ·exact⟨_,_,w',seen P b.fn n5,H',by unfold stepG.apply;simp only[dJ,if_true];rw[fu];simp[GStep.after,Go.Conc.G,Frame.raise,ar,hb],hu.sub jZ,c9⟩
end
section
variable {P:Program} {Q:Value->Prop} {mn:Bool} {x:gN} {cs rest:List Frame} {H:Α} {b f c:Frame} {t:Array Value} {k:List Item} {fn:Func}
theorem xy (hm:f.mode≠.run) (w:World):stepG P mn (Go.Conc.G f cs) w=unwind P mn f cs none w:=by
 obtain⟨a1,bl,cz,gb,tL,md,ve⟩:=f;cases tL with
 | run=>exact absurd rfl hm
 | returning=>rfl
 | panicking ch=>rfl
theorem aM.back (U:Seq x) (hm:f.mode=.returning) (hd:f.defers=[]) (χ:f.kind=.normal\/f.kind=.wrapped) (cf:P.funcs[f.fn]?=some fn)
  (h:υ P (results fn f.tmps) H (λv H'=>aM P Q mn x (c.finish v) rest H') (λ_ _=>False)):aM P Q mn x f (c::rest) H:=by
 refine .own U λw Φ=>?_;obtain⟨H',w',es',hu,hQ⟩:=υ.sound (P:=P) (G0:=H) (w0:=w) (results fn f.tmps) h (dF.start Φ);rcases hQ with⟨v,dJ,I⟩|⟨v,dJ,c9⟩
 ·refine⟨_,_,w',seen P f.fn es',H',?_,hu.sub λe he=>mem_seen he,I⟩;rw[xy (by rw[hm];simp)];unfold unwind;simp only[hd,hm,cf,dJ];unfold doReturn;rcases χ with χ|χ<;>simp[χ,GStep.after,Go.Conc.G]
 ·exact c9.elim
theorem aM.G5 (U:Seq x) (hm:f.mode=.returning) (hd:f.defers=[]) (χ:f.kind=.deferred) (cf:P.funcs[f.fn]?=some fn)
  (h:υ P (results fn f.tmps) H (λ_ H'=>aM P Q mn x (match c.mode with
   | .panicking ({recovered:=true,..}::U3)=>(match U3.dropWhile (!·.goexit) with|[]=>{c with mode:=.returning}|r=>{c with mode:=.panicking r})
   | _=>c) rest H') (λ_ _=>False)):aM P Q mn x f (c::rest) H:=by
 refine .own U λw Φ=>?_;obtain⟨H',w',es',hu,hQ⟩:=υ.sound (P:=P) (G0:=H) (w0:=w) (results fn f.tmps) h (dF.start Φ);rcases hQ with⟨v,dJ,I⟩|⟨v,dJ,c9⟩
 ·refine⟨_,_,w',seen P f.fn es',H',?_,hu.sub λe he=>mem_seen he,I⟩;rw[xy (by rw[hm];simp)];unfold unwind;simp only[hd,hm,cf,dJ];unfold doReturn;simp only[χ,GStep.after];rw[Array.append_empty];rfl
 ·exact c9.elim
theorem aM.deferred (U:Seq x) (hm:f.mode≠.run) {d:Deferred} {ds:List Deferred} (hd:f.defers=d::ds) (ζ:∀r,d.target≠.collected r) (Η:d.target≠.nil) {g:FuncId} {args:Array Value}
  (μ:∀w,(invoke d.target d.args).runT P w #[]=(.ok (.enter g args) w,#[])) (h:aM P Q mn x (Frame.enter P g args .deferred) ({f with defers:=ds}::cs) H):aM P Q mn x f cs H:=by
 refine .still U (λw=>?_) h;rw[xy hm];unfold unwind;obtain⟨xz,as9⟩:=d;simp only at ζ Η μ;have key:callDeferred P {f with defers:=ds} cs none ⟨xz,as9⟩ w=.go (Go.Conc.G (Frame.enter P g args .deferred) ({f with defers:=ds}::cs)) w #[]:=by
  unfold callDeferred;simp only[μ w];cases xz<;>first|exact absurd rfl Η|(simp[GStep.after,seen,Go.Conc.G])
 cases xz with
 | collected r=>exact absurd rfl (ζ r)
 | fn a b=>simp only[hd];exact key
 | nil=>exact absurd rfl Η
 | builtin a b c d=>simp only[hd];exact key
 | coroexit c=>simp only[hd];exact key
theorem aM.raised (U:Seq x) {ch:List PanicEntry} (hm:f.mode=.panicking ch) (hd:f.defers=[]) (U4:f.catches P=false) (h:aM P Q mn x (c.raise ch) rest H):aM P Q mn x f (c::rest) H:=by
 refine .still U (λw=>?_) h;rw[xy (by rw[hm];simp)];unfold unwind;simp only[hd,hm,U4];rfl
theorem aM.done (U:Seq x) (Ο:∀y,x y->∀s,fU (y.tok s)) (tM:∀y,x y->y.deaf=0) (hm:f.mode=.returning) (hd:f.defers=[]) (χ:f.kind=.normal) (cf:P.funcs[f.fn]?=some fn) (br:P.inits.idxOf? f.fn=none) {v:Value}
  (μ:results fn f.tmps=pure v) (U5:Q v):aM P Q true x f [] H:=by
 intro y Ξ;refine Goes.stop (λμ=>by rw[show({y with G:=H}:aV).rel=y.rel from rfl,U.rel y Ξ] at μ;cases μ) (.inl ⟨rfl,⟨rfl,rfl⟩,Ο y Ξ,tM y Ξ,λw Φ=>⟨v,#[],?_,λe he=>by simp at he,U5⟩⟩);rw[xy (by rw[hm];simp)];unfold unwind;simp only[hd,hm,cf,μ];have:(pure v:Sem Value).runT P w #[]=(.ok v w,#[]):=rfl;simp only[this];unfold doReturn;simp[χ,GStep.after,seen,br]
end
end Go.TL
namespace Go.TL
open Go.Conc
inductive θ where
 | z (v:Value)
 | Ψ (cells:List θ)
 | sl (ex:Bool) (k:Nat) (l:List θ)
 | aS (l:List θ)
 | bn (l:List θ)
 | al (id n i j:Nat)
 | ms (id n i len:Nat)
 | fn (f:Fn) (first captured:List θ)
 | fF (t:TypeId) (a:θ)
 | mp (id:Nat)
 | it (id:Nat)
 | cg
 deriving Inhabited
def θ.cells:θ->List θ
 | .aS l=>l
 | a=>[a]
inductive Row where
 | cells (t:TypeId) (k:Nat) (l:List θ)
 | map (es:List (θ×θ))
 | iter (m:Nat) (left:List (θ×θ)) (cur:Option (θ×θ))
 | dead
 deriving Inhabited
def Row.g4 (r:Row) (n:Nat):Prop:=match r with|.cells _ _ l=>n<l.length|_=>True
abbrev aR:=List (Option (Nat×Nat))
abbrev aB:=Nat->Nat->Option Value
inductive ao (S:aB) (B:aR) (σ:List Row):θ->Value->Prop where
 | z (v:Value):ao S B σ (.z v) v
 | Ψ {cells:List θ} (b o:Nat) (w:Nat->Value):(∀(j:Nat) (a:θ),cells[j]?=some a->S b (o+j)=some (w j))->(∀(j:Nat) (a:θ),cells[j]?=some a->ao S B σ a (w j))->ao S B σ (.Ψ cells) (.pointer (some ⟨b,o,none⟩))
 | iA {ex:Bool} {k:Nat} (base:Option Addr) (cap:Nat):(ex=true->cap=0)->ao S B σ (.sl ex k []) (.slice base 0 cap)
 | sl {ex:Bool} {k:Nat} {l:List θ} (b o cap:Nat) (w:Nat->Nat->Value):(ex=true->cap=l.length)->l.length<=cap->(∀(i:Nat) (e:θ),l[i]?=some e->e.cells.length=k)->
   (∀(i:Nat) (e:θ),l[i]?=some e->∀(j:Nat) (c:θ),e.cells[j]?=some c->S b (o+i*k+j)=some (w i j))->(∀(i:Nat) (e:θ),l[i]?=some e->∀(j:Nat) (c:θ),e.cells[j]?=some c->ao S B σ c (w i j))->ao S B σ (.sl ex k l) (.slice (some ⟨b,o,none⟩) l.length cap)
 | aS {l:List θ} (vs:Array Value):l.length=vs.size->(∀(i:Nat) (a:θ) (v:Value),l[i]?=some a->vs[i]?=some v->ao S B σ a v)->ao S B σ (.aS l) (.agg vs)
 | bn {l:List θ} (vs:Array Value):l.length=vs.size->(∀(i:Nat) (a:θ) (v:Value),l[i]?=some a->vs[i]?=some v->ao S B σ a v)->ao S B σ (.bn l) (.tuple vs)
 | al {id n i j k:Nat} {t:TypeId} {l:List θ} {b N:Nat}:σ[id]?=some (.cells t k l)->l.length=n->B[id]?=some (some (b,N))->ao S B σ (.al id n i j) (.pointer (some ⟨b,i*k+j,none⟩))
 | jB {id n i j:Nat} {r:Row} (v:Value):σ[id]?=some r->r.g4 n->ao S B σ (.al id n i j) v
 | ms {id n i len:Nat} {t:TypeId} {k:Nat} {l:List θ} {bo:Option (Nat×Nat)} {base:Option Addr} (cap:Nat):σ[id]?=some (.cells t k l)->l.length=n->B[id]?=some bo->i+len<=n->len<=cap->
   (cap=0\/∃b N,bo=some (b,N)/\base=some ⟨b,i*k,none⟩/\(i+cap)*k<=N)->ao S B σ (.ms id n i len) (.slice base len cap)
 | iW {id n i len:Nat} {r:Row} (v:Value):σ[id]?=some r->r.g4 n->ao S B σ (.ms id n i len) v
 | fn {f:Fn} {c5 cs:List θ} (vs ws:Array Value):c5.length=vs.size->cs.length=ws.size->(∀(i:Nat) (a:θ) (v:Value),c5[i]?=some a->vs[i]?=some v->ao S B σ a v)->(∀(i:Nat) (a:θ) (v:Value),cs[i]?=some a->ws[i]?=some v->ao S B σ a v)->ao S B σ (.fn f c5 cs) (.func f vs ws)
 | fF {t:TypeId} {a:θ} (v:Value):ao S B σ a v->ao S B σ (.fF t a) (.iface t v)
 | mp {id:Nat} {es:List (θ×θ)} {b N:Nat}:σ[id]?=some (.map es)->B[id]?=some (some (b,N))->ao S B σ (.mp id) (.map (some b))
 | lI {id:Nat} (v:Value):σ[id]?=some .dead->ao S B σ (.mp id) v
 | it {id m:Nat} {left:List (θ×θ)} {cur:Option (θ×θ)} {b N:Nat}:σ[id]?=some (.iter m left cur)->B[id]?=some (some (b,N))->ao S B σ (.it id) (.pointer (some ⟨b,0,none⟩))
 | nk {id:Nat} (v:Value):σ[id]?=some .dead->ao S B σ (.it id) v
 | cg (v:Value):ao S B σ .cg v
def Row.to (r r':Row) (b Χ:Option (Option (Nat×Nat))):Prop:=
 match r with
 | .cells t k l=>(∃dR,r'=.cells t k dR/\dR.length=l.length/\Χ=b)\/∀n,n<=l.length->r'.g4 n
 | .map _=>(∃es',r'=.map es'/\Χ=b)\/r'=.dead
 | .iter m _ _=>(∃G6 G7,r'=.iter m G6 G7/\Χ=b)\/r'=.dead
 | .dead=>r'=.dead
structure b3 (S ax:aB) (B B':aR) (σ σ':List Row):Prop where
 dd:∀b o v,S b o=some v->ax b o=some v
 rows:∀(id:Nat) (r:Row),σ[id]?=some r->∃r':Row,σ'[id]?=some r'/\r.to r' B[id]? B'[id]?
theorem Row.tN (r:Row) (b:Option (Option (Nat×Nat))):r.to r b b:=by
 cases r with
 | cells t k l=>exact .inl ⟨l,rfl,rfl,rfl⟩
 | map es=>exact .inl ⟨es,rfl,rfl⟩
 | iter m l c=>exact .inl ⟨l,c,rfl,rfl⟩
 | dead=>rfl
theorem b3.refl (S:aB) (B:aR) (σ:List Row):b3 S S B B σ σ:=⟨λ_ _ _ h=>h,λ_ r h=>⟨r,h,r.tN _⟩⟩
theorem Row.G8 {r r':Row} {b Χ:Option (Option (Nat×Nat))} {n:Nat} (h:r.to r' b Χ) (Η:r.g4 n):r'.g4 n:=by
 cases r with
 | cells t k l=>
  rcases h with⟨dR,rfl,J,_⟩|h
  ·simp only[Row.g4] at Η ⊢;omega
  ·exact h n (Nat.le_of_lt Η)
 | map es=>rcases h with⟨es',rfl,_⟩|rfl<;>trivial
 | iter m l c=>rcases h with⟨dR,c',rfl,_⟩|rfl<;>trivial
 | dead=>cases h;trivial
theorem Row.U6 {r r' Cw:Row} {b Χ MX:Option (Option (Nat×Nat))} (h:r.to r' b Χ) (k:r'.to Cw Χ MX):r.to Cw b MX:=by
 cases r with
 | cells t e l=>
  rcases h with⟨dR,rfl,J,rfl⟩|h
  ·rcases k with⟨U7,rfl,γ,rfl⟩|k
   ·exact .inl ⟨U7,rfl,γ.trans J,rfl⟩
   ·exact .inr λn Η=>k n (by omega)
  ·exact .inr λn Η=>Row.G8 k (h n Η)
 | map es=>
  rcases h with⟨es',rfl,rfl⟩|rfl
  ·exact k
  ·cases k;exact .inr rfl
 | iter m l c=>
  rcases h with⟨dR,c',rfl,rfl⟩|rfl
  ·exact k
  ·cases k;exact .inr rfl
 | dead=>cases h;exact k
theorem b3.trans {S ax zz:aB} {B B' zA:aR} {σ σ' zB:List Row} (h:b3 S ax B B' σ σ') (k:b3 ax zz B' zA σ' zB):b3 S zz B zA σ zB:=
 ⟨λb o v x=>k.dd b o v (h.dd b o v x),λid r μ=>by
  obtain⟨r',J,γ⟩:=h.rows id r μ;obtain⟨Cw,π,Μ⟩:=k.rows id r' J;exact⟨Cw,π,Row.U6 γ Μ⟩⟩
theorem ao.later {S ax:aB} {B B':aR} {σ σ':List Row} (ω:b3 S ax B B' σ σ') {a:θ} {v:Value} (h:ao S B σ a v):ao ax B' σ' a v:=by
 induction h with
 | z v=>exact .z v
 | Ψ b o w J _ Δ=>exact .Ψ b o w (λj a ε=>ω.dd _ _ _ (J j a ε)) Δ
 | iA base cap h=>exact .iA base cap h
 | sl b o cap w J γ π Μ _ Δ=>exact .sl b o cap w J γ π (λi e hi j c ε=>ω.dd _ _ _ (Μ i e hi j c ε)) Δ
 | aS vs J _ Δ=>exact .aS vs J Δ
 | bn vs J _ Δ=>exact .bn vs J Δ
 | al J γ π=>
  obtain⟨r',Ζ,Ε⟩:=ω.rows _ _ J;rcases Ε with⟨dR,rfl,aY,cy⟩|Ε
  ·exact .al Ζ (aY.trans γ) (by rw[cy];exact π)
  ·exact .jB _ Ζ (Ε _ (by omega))
 | jB v J γ=>
  obtain⟨r',Ζ,Ε⟩:=ω.rows _ _ J;exact .jB _ Ζ (Row.G8 Ε γ)
 | ms cap J γ π Μ aA bc=>
  obtain⟨r',Ζ,Ε⟩:=ω.rows _ _ J;rcases Ε with⟨dR,rfl,aY,cy⟩|Ε
  ·exact .ms cap Ζ (aY.trans γ) (by rw[cy];exact π) Μ aA bc
  ·exact .iW _ Ζ (Ε _ (by omega))
 | iW v J γ=>
  obtain⟨r',Ζ,Ε⟩:=ω.rows _ _ J;exact .iW _ Ζ (Row.G8 Ε γ)
 | fn vs ws J γ _ _ so mz=>exact .fn vs ws J γ so mz
 | fF v _ Δ=>exact .fF v Δ
 | mp J γ=>
  obtain⟨r',Ζ,Ε⟩:=ω.rows _ _ J;rcases Ε with⟨es',rfl,cy⟩|rfl
  ·exact .mp Ζ (by rw[cy];exact γ)
  ·exact .lI _ Ζ
 | lI v J=>
  obtain⟨r',Ζ,Ε⟩:=ω.rows _ _ J;cases Ε;exact .lI _ Ζ
 | it J γ=>
  obtain⟨r',Ζ,Ε⟩:=ω.rows _ _ J;rcases Ε with⟨dR,c',rfl,cy⟩|rfl
  ·exact .it Ζ (by rw[cy];exact γ)
  ·exact .nk _ Ζ
 | nk v J=>
  obtain⟨r',Ζ,Ε⟩:=ω.rows _ _ J;cases Ε;exact .nk _ Ζ
 | cg v=>exact .cg v
end Go.TL
