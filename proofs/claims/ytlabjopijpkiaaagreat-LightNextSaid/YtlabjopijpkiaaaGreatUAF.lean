import Derived.Test.YtlabjopijpkiaaaGreatUAE
set_option maxHeartbeats 16000000
set_option maxRecDepth 20000
set_option linter.unusedSectionVars false
set_option linter.unusedSimpArgs false
set_option linter.unusedVariables false
namespace Go.TL
open Go.Conc
open Go.ConcM (OsLater)
open Go.ConcN (sumTo upd sumTo_upd upd_ne upd_same sumTo_congr le_sumTo)
theorem UW (sp:Spec):cR (aP.new sp)=0:=by simp[cR,aP.new]
theorem UX (sp:Spec):mwd (aP.new sp)=0:=by simp[mwd,aP.new]
section
variable {P:Program} {Q:Value->Prop} {bs:World} {c c':c9} {gs:Array Goroutine} {w w':World} {t:Trace} {i:Nat} {g g':Goroutine} {es:Array Event}
variable {f:Bool×Goroutine×aX->gn (Bool×Goroutine×aX)}
theorem Inv.seen (h:Inv P Q bs c gs w t) (Ρ:gs[i]?=some g)
  (mem:g7 c'.H c'.aK c'.O bs w) (hold:ie c'.H c'.aK c'.O bs.heap.size) (bU:iF c'.H c'.aK c'.tok c'.O c'.bz c'.deaf w.heap.size t)
  (bj:eQ gs.size c'.tok c'.spec c'.view c'.rel c'.O c'.bz c'.home) (ez:xo c'.H c'.tok c'.O) (ec:vz gs.size c'.tok c'.rel c'.bz c'.home c'.dx t) (gq:xp c'.aK c'.tok c'.O c'.rel c'.dx t)
  (GW:Rec P Q c' i g) (γ:∀j,j≠i->c'.x j=c.x j/\c'.T j=c.T j) (cO:∀s o,c.O s=some o->c'.O s=some o):Inv P Q bs c' gs w t:=by
 refine⟨h.pos,mem,hold,bU,bj,ez,ec,gq,λj b hb=>?_⟩;by_cases e:j=i
 ·subst e;rw[Ρ] at hb;cases hb;exact GW
 ·obtain⟨cV,I,U⟩:=h.vB j b hb;obtain⟨Δ,Γ⟩:=γ j e;have Ν:c'.tok j=c.tok j:=congrArg aX.tok Δ;refine⟨cV,by rw[Δ,Γ];exact I,U.imp id λ⟨a1,bk,s,o,cz,gm,hO⟩=>⟨a1,bk,s,o,cO s o cz,by rw[Ν];exact gm,by rw[Ν];exact hO⟩⟩
theorem Inv.UY (h:Inv P Q bs c gs w t) (Ρ:gs[i]?=some g) {b:Nat} {cs:Array Value} {ty:TypeId} (hb:c.aK i b=some (cs,ty)) {df:aX}
  (hM:df={c.x i with aK:=upd (c.aK i) b none,G:=⟨λΩ o=>if Ω=b then(cs[o]?).map (·,true) else(c.H (.inl i)).aL Ω o,λΩ=>if Ω=b then some (ty,cs.size) else(c.H (.inl i)).row Ω,(c.H (.inl i)).obj⟩}) (bc:lQ P Q f (i==0) g df):CG P Q bs c gs w t i f:=by
 let G':χ:=⟨λΩ o=>if Ω=b then(cs[o]?).map (·,true) else(c.H (.inl i)).aL Ω o,λΩ=>if Ω=b then some (ty,cs.size) else(c.H (.inl i)).row Ω,(c.H (.inl i)).obj⟩;obtain⟨f1,f2,f3⟩:=h.hold.fresh i b _ hb;have MR:=h.mem.mx i b cs ty hb;have CR:∀Ω o,Ω≠b->G'.aL Ω o=(c.H (.inl i)).aL Ω o:=λΩ o e=>by simp[G',e]
 have UZ:∀o,G'.aL b o=(cs[o]?).map (·,true):=λo=>by simp[G']
 have MS:∀Ω o,Ω≠b->(G'.has Ω o↔(c.H (.inl i)).has Ω o):=λΩ o e=>by unfold χ.has;rw[CR Ω o e]
 have MT:∀Ω o,Ω≠b->(G'.owns Ω o↔(c.H (.inl i)).owns Ω o):=λΩ o e=>by unfold χ.owns;rw[CR Ω o e]
 have U0:∀Ω,G'.e9 Ω↔(c.H (.inl i)).e9 Ω:=λΩ=>Iff.rfl
 have MU:∀Ω,Ω≠b->(c.H (.inl i)).off Ω->G'.off Ω:=λΩ e Α=>⟨λo aY=>Α.1 o ((MS Ω o e).1 aY),Α.2⟩
 let c':c9:={c with H:=bO c.H (.inl i) G',aK:=upd c.aK i (upd (c.aK i) b none),T:=upd c.T i (f (i==0,g,df))}
 have fR:∀j Ω v,upd c.aK i (upd (c.aK i) b none) j Ω=some v->c.aK j Ω=some v/\Ω≠b:=λj Ω v hv=>by
  by_cases e:j=i
  ·subst e;rw[upd_same] at hv;by_cases aM:Ω=b
   ·subst aM;rw[upd_same] at hv;cases hv
   ·rw[upd_ne _ _ aM] at hv;exact⟨hv,aM⟩
  ·rw[upd_ne _ _ e] at hv;exact⟨hv,λaM=>by rw[aM,f3 j e] at hv;cases hv⟩
 have U1:∀s o Ω,c.O s=some o->ep s o.toSpec Ω->Ω≠b:=λs o Ω ν dF e=>by
  have:=(h.hold.kC s o Ω ν dF).2.2 i;rw[e,hb] at this;cases this
 have ap:∀k,k≠.inl i->Apart G' (c.H k):=λk ς=>by
  have a:=h.hold.apart _ _ (Ne.symm ς);refine⟨λΩ o x y=>?_,λΩ o x y=>?_,λΩ x y=>a.obj Ω x y⟩
  ·by_cases e:Ω=b
   ·subst e;exact(f2 k).1 o y
   ·exact a.aL Ω o ((MT Ω o e).1 x) y
  ·by_cases e:Ω=b
   ·subst e;exact(f2 k).1 o ⟨_,x.choose_spec⟩
   ·exact a.qU Ω o x ((MS Ω o e).1 y)
 have n4:c'.x i=df:=by rw[hM];simp[c',G',c9.x,upd_same]
 refine⟨c',h.seen (c':=c') Ρ ⟨λk=>?_,λj Ω cs' jC hv=>h.mem.mx j Ω cs' jC (fR j Ω _ hv).1,h.mem.fQ,h.mem.keep⟩
  ⟨λk l jd=>?_,λk Ω o Α=>?_,λk Ω Α=>?_,λj Ω v hv=>?_,λs o Ω ν dF=>?_,h.hold.kU,h.hold.pU,λΩ dF=>?_⟩ ⟨h.bU.race,h.bU.low,h.bU.norel,λk=>?_,λj Ω v hv=>h.bU.oR j Ω v (fR j Ω v hv).1,h.bU.cont,h.bU.hears⟩ h.bj (h.ez.zz λΩ=>iH c.H i G' Ω) h.ec
  ⟨h.gq.jb,λj Ω v hv=>h.gq.vA j Ω v (fR j Ω v hv).1⟩ ⟨g,?_,.inl rfl⟩ (λj δ=>⟨?_,upd_ne _ _ δ⟩) λ_ _ a=>a,_,rfl⟩
 ·show Fits (bO c.H (.inl i) G' k) w;by_cases e:k=.inl i
  ·subst e;rw[dC];have gB:=h.mem.fit (.inl i);refine⟨λΩ o v p ε=>?_,λΩ t' iZ κ=>?_,gB.obj⟩
   ·by_cases aM:Ω=b
    ·subst aM;rw[UZ] at ε;cases γ:cs[o]? with
     | none=>rw[γ] at ε;cases ε
     | some fi=>rw[γ] at ε;cases ε;exact nU MR γ
    ·rw[CR Ω o aM] at ε;exact gB.aL Ω o v p ε
   ·by_cases aM:Ω=b
    ·subst aM;simp[G'] at κ;obtain⟨rfl,rfl⟩:=κ;exact⟨cs,MR,rfl⟩
    ·simp[G',aM] at κ;exact gB.row Ω t' iZ κ
  ·rw[bP _ _ e];exact h.mem.fit k
 ·show Apart (bO c.H (.inl i) G' k) (bO c.H (.inl i) G' l);by_cases e:k=.inl i
  ·subst e;rw[dC,bP _ _ (Ne.symm jd)];exact ap l (Ne.symm jd)
  ·rw[bP _ _ e];by_cases aM:l=.inl i
   ·subst aM;rw[dC];exact(ap k e).symm
   ·rw[bP _ _ aM];exact h.hold.apart k l jd
 ·replace Α:(bO c.H (.inl i) G' k).owns Ω o:=Α
  by_cases e:k=.inl i
  ·subst e;rw[dC] at Α;by_cases aM:Ω=b
   ·subst aM;exact f1
   ·exact h.hold.high _ _ _ ((MT Ω o aM).1 Α)
  ·rw[bP _ _ e] at Α;exact h.hold.high _ _ _ Α
 ·replace Α:(bO c.H (.inl i) G' k).e9 Ω:=Α
  by_cases e:k=.inl i
  ·subst e;rw[dC] at Α;exact h.hold.n1 _ _ ((U0 Ω).1 Α)
  ·rw[bP _ _ e] at Α;exact h.hold.n1 _ _ Α
 ·obtain⟨lP,bA⟩:=fR j Ω v hv;obtain⟨a1,bk,cz⟩:=h.hold.fresh j Ω v lP;refine⟨a1,λk=>?_,λbK bn=>?_⟩
  ·show(bO c.H (.inl i) G' k).off Ω;by_cases e:k=.inl i
   ·subst e;rw[dC];exact MU Ω bA (bk _)
   ·rw[bP _ _ e];exact bk k
  ·cases γ:c'.aK bK Ω with
   | none=>rfl
   | some fi=>have:=(fR bK Ω fi γ).1;rw[cz bK bn] at this;cases this
 ·obtain⟨a1,bk,cz⟩:=h.hold.kC s o Ω ν dF;have bA:=U1 s o Ω ν dF;refine⟨a1,λk=>?_,λbK=>?_⟩
  ·show(bO c.H (.inl i) G' k).off Ω;by_cases e:k=.inl i
   ·subst e;rw[dC];exact MU Ω bA (bk _)
   ·rw[bP _ _ e];exact bk k
  ·cases γ:c'.aK bK Ω with
   | none=>rfl
   | some fi=>have:=(fR bK Ω fi γ).1;rw[cz bK] at this;cases this
 ·show bO c.H (.inl i) G' (.inr Ω)=χ.empty;rw[iH];exact h.hold.ez Ω dF
 ·show dk t (jE c.tok c.O t k) (bO c.H (.inl i) G' k);by_cases e:k=.inl i
  ·subst e;rw[dC];have ψ:=h.bU.perms (.inl i);refine⟨λΩ o v p ε k a μ υ hw=>?_,ψ.obj⟩;by_cases aM:Ω=b
   ·exfalso;refine h.bU.oR i b _ hb k a μ ?_;rw[υ];exact aM
   ·rw[CR Ω o aM] at ε;exact ψ.aL Ω o v p ε k a μ υ hw
  ·rw[bP _ _ e];exact h.bU.perms k
 ·rw[n4];show jD P Q (upd c.T i (f (i==0,g,df)) i) _ _ _;rw[upd_same];exact bc
 ·have gb:(Sum.inl j:cI)≠.inl i:=λx=>δ (by cases x;rfl);simp[c',c9.x,upd_ne _ _ δ,bP _ _ gb]
theorem Inv.less (h:Inv P Q bs c gs w t) (Ρ:gs[i]?=some g) {G':χ} (ν:Sub G' (c.H (.inl i))) (bc:lQ P Q f (i==0) g {c.x i with G:=G'}):CG P Q bs c gs w t i f:=by
 let df:aX:={c.x i with G:=G'}
 let c':c9:={c with H:=bO c.H (.inl i) G',T:=upd c.T i (f (i==0,g,df))}
 have n4:c'.x i=df:=by simp[c',df,c9.x]
 have U2:upd c.aK i (c.aK i)=c.aK:=CE rfl
 have hm:=h.mem.own h.hold i (fD.refl _ _ w) (ν.fits (h.mem.fit (.inl i))) (h.mem.mx i) rfl
 have aY:=h.hold.own h.mem h.mem.keep.size i (G':=G') (V':=c.aK i) ⟨λb o v p ε=>.inr (let ⟨fF,ai,ψ⟩:=ν.aL b o v p ε;⟨v,fF,ai,ψ⟩),λb hb=>.inr (ν.e9 hb)⟩ (λb x γ=>.inl γ);rw[U2] at hm aY;refine⟨c',h.seen (c':=c') Ρ hm aY ⟨h.bU.race,h.bU.low,h.bU.norel,λk=>?_,h.bU.oR,h.bU.cont,h.bU.hears⟩ h.bj (h.ez.zz λΩ=>iH c.H i G' Ω) h.ec h.gq ⟨g,?_,.inl rfl⟩ (λj δ=>⟨?_,upd_ne _ _ δ⟩) λ_ _ a=>a,_,rfl⟩
 ·show dk t (jE c.tok c.O t k) (bO c.H (.inl i) G' k);by_cases e:k=.inl i
  ·subst e;rw[dC];exact(h.bU.perms (.inl i)).sub ν
  ·rw[bP _ _ e];exact h.bU.perms k
 ·rw[n4];show jD P Q (upd c.T i (f (i==0,g,df)) i) _ _ _;rw[upd_same];exact bc
 ·have gb:(Sum.inl j:cI)≠.inl i:=λx=>δ (by cases x;rfl);simp[c',c9.x,bP _ _ gb]
theorem Inv.group (h:Inv P Q bs c gs w t) (Ρ:gs[i]?=some g) {s:Nat} {sp:Spec} {ty:TypeId} {G' E:χ} (ν:c.aK i s=some (#[.int .u64 0,.int .u32 0],ty)) (fw:∀m,sp.aW=some m->m≠s/\∃jC,c.aK i m=some (#[.int .i32 0,.int .u32 0],jC))
  (eh:c.rel i=false) (b2:Split (c.H (.inl i)) G' E) (dp:sp.aW≠none->sp.aN [] E) {df:aX}
  (hM:df={c.x i with G:=G',aK:=λb=>if b=s\/sp.aW=some b then none else c.aK i b,tok:=upd (c.tok i) s (.par 0 0 .add),spec:=upd (c.spec i) s (some sp),view:=upd (c.view i) s none}) (bc:lQ P Q f (i==0) g df):CG P Q bs c gs w t i f:=by
 have bq:i<gs.size:=mF Ρ
 have mH:c.O s=none:=by
  cases γ:c.O s with
  | none=>rfl
  | some o=>have:=(h.hold.kC s o s γ (.inl rfl)).2.2 i;rw[ν] at this;cases this
 have np:∀b,ep s sp b->∃v,c.aK i b=some v:=λb hb=>by
  rcases hb with rfl|hb
  ·exact⟨_,ν⟩
  ·obtain⟨_,jC,I⟩:=fw b hb;exact⟨_,I⟩
 have nq:∀r o b,c.O r=some o->ep r o.toSpec b->¬ep s sp b:=λr o b κ hb dF=>by
  obtain⟨v,hv⟩:=np b dF;have:=(h.hold.kC r o b κ hb).2.2 i;rw[hv] at this;cases this
 have ih:∀r o,c.O r=some o->r≠s:=λr o κ e=>by rw[e,mH] at κ;cases κ
 let V':Nat->Option (Array Value×TypeId):=λb=>if b=s\/sp.aW=some b then none else c.aK i b
 let O':=upd c.O s (some (aP.new sp))
 have fR:∀j b v,upd c.aK i V' j b=some v->c.aK j b=some v/\¬ep s sp b:=λj b v hv=>by
  by_cases e:j=i
  ·subst e;rw[upd_same] at hv;by_cases aM:b=s\/sp.aW=some b
   ·simp[V',aM] at hv
   ·simp[V',aM] at hv;exact⟨hv,aM⟩
  ·rw[upd_ne _ _ e] at hv;refine⟨hv,λhb=>?_⟩;obtain⟨fi,lP⟩:=np b hb;have:=(h.hold.fresh i b fi lP).2.2 j e;rw[this] at hv;cases hv
 have MV:∀j b,c.aK j b=none->upd c.aK i V' j b=none:=λj b e=>by
  cases γ:upd c.aK i V' j b with
  | none=>rfl
  | some v=>have:=(fR j b v γ).1;rw[e] at this;cases this
 have U3:∀j b,ep s sp b->upd c.aK i V' j b=none:=λj b hb=>by
  cases γ:upd c.aK i V' j b with
  | none=>rfl
  | some v=>exact absurd hb (fR j b v γ).2
 have g9:∀r q,O' r=some q->(r=s/\q=aP.new sp)\/(r≠s/\c.O r=some q):=λr q Ψ=>by
  by_cases e:r=s
  ·subst e;rw[show O' r=some (aP.new sp) from upd_same ..] at Ψ;cases Ψ;exact .inl ⟨rfl,rfl⟩
  ·rw[show O' r=c.O r from upd_ne _ _ e] at Ψ;exact .inr ⟨e,Ψ⟩
 have holdA:ie c.H (upd c.aK i V') O' bs.heap.size:=by
  refine⟨h.hold.apart,h.hold.high,h.hold.n1,λj b v hv=>?_,λr o b κ hb=>?_,λr r' o o' b κ fp hb dF=>?_,λr o m κ hm=>?_,λb hb=>h.hold.ez b λr o κ hi=>hb r o (by rw[show O' r=c.O r from upd_ne _ _ (ih r o κ)];exact κ) hi⟩
  ·obtain⟨a1,bk,cz⟩:=h.hold.fresh j b v (fR j b v hv).1;exact⟨a1,bk,λbK bn=>MV bK b (cz bK bn)⟩
  ·rcases g9 r o κ with⟨rfl,rfl⟩|⟨e,fp⟩
   ·obtain⟨v,hv⟩:=np b hb;obtain⟨a1,bk,_⟩:=h.hold.fresh i b v hv;exact⟨a1,bk,λj=>U3 j b hb⟩
   ·obtain⟨a1,bk,cz⟩:=h.hold.kC r o b fp hb;exact⟨a1,bk,λj=>MV j b (cz j)⟩
  ·rcases g9 r o κ with⟨rfl,rfl⟩|⟨e,k3⟩<;>rcases g9 r' o' fp with⟨rfl,rfl⟩|⟨aM,sw⟩
   ·rfl
   ·exact absurd hb (nq r' o' b sw dF)
   ·exact absurd dF (nq r o b k3 hb)
   ·exact h.hold.kU r r' o o' b k3 sw hb dF
  ·rcases g9 r o κ with⟨rfl,rfl⟩|⟨e,fp⟩
   ·exact(fw m hm).1
   ·exact h.hold.pU r o m fp hm
 have MW:O' s=some (aP.new sp):=upd_same ..
 have MX:c.H (.inr s)=χ.empty:=h.hold.ez s λr o κ hi=>nq r o s κ hi (.inl rfl)
 have mC:∀r q,O' r=some q->At r q w:=λr q Ψ=>by
  rcases g9 r q Ψ with⟨rfl,rfl⟩|⟨_,cb⟩
  ·refine⟨⟨ty,?_⟩,λm hm=>let ⟨_,jC,hv⟩:=fw m hm;⟨jC,?_⟩⟩
   ·rw[UW];exact h.mem.mx i r _ _ ν
   ·rw[UX];exact h.mem.mx i m _ _ hv
  ·exact h.mem.fQ _ _ cb
 obtain⟨bQ,jL,je,G6,kY,G7,G8,G9⟩:∃bQ:cI->χ,bQ (.inl i)=G'/\(∀j,j≠i->bQ (.inl j)=c.H (.inl j))/\(∀b,¬ep s sp b->bQ (.inr b)=c.H (.inr b))/\(bQ (.inr s)=χ.empty/\∀m,sp.aW=some m->bQ (.inr m)=E)/\
   ie bQ (upd c.aK i V') O' bs.heap.size/\g7 bQ (upd c.aK i V') O' bs w/\∀a,dk t (jE (b5 c.tok i s (.par 0 0 .add)) O' t a) (bQ a):=by
  have xy:=h.bU.perms (.inl i)
  have MY:∀a,(∀b,a=.inr b->¬ep s sp b)->dk t (jE (b5 c.tok i s (.par 0 0 .add)) O' t a) (c.H a):=λa μ=>by
   refine(h.bU.perms a).mono λk ς=>?_;cases a with
   | inl j=>exact ς
   | inr b=>
    refine ς.imp id λς r o κ hb j δ=>?_;rcases g9 r o κ with⟨rfl,rfl⟩|⟨e,fp⟩
    ·exact absurd hb (μ b rfl)
    ·rw[eY _ (λx=>e x.2)] at δ;exact ς r o fp hb j δ
  have MZ:g7 c.H (upd c.aK i V') c.O bs w:=h.mem.xx λj b v hv=>(fR j b v hv).1
  have hP:(Sum.inl i:cI)≠.inr s:=θ;cases hm:sp.aW with
  | none=>
   refine⟨bO (bO c.H (.inl i) G') (.inr s) χ.empty,?_,λj δ=>?_,λb hb=>?_,⟨dC ..,λm e=>(by cases e)⟩,?_,MZ.two (b2.l.fits (h.mem.fit (.inl i))) (vw w) mC,λa=>?_⟩
   ·rw[bP _ _ hP,dC]
   ·rw[bP _ _ θ,bP _ _ (λe=>δ (by cases e;rfl))]
   ·have:(Sum.inr b:cI)≠.inr s:=λe=>hb (by cases e;exact .inl rfl);rw[bP _ _ this,iH]
   ·exact holdA.two hP b2.l.q4 (Sub.empty _) (Apart.tK _) ⟨λs o ν=>⟨o,ν,rfl⟩,λs o ν=>⟨o,ν,rfl⟩⟩ λx γ=>by
     rcases γ with e|e
     ·cases e;exact⟨s,_,MW,.inl rfl⟩
     ·cases e
   ·by_cases Γ:a=.inr s
    ·subst Γ;rw[dC];exact dk.empty
    ·rw[bP _ _ Γ];by_cases Δ:a=.inl i
     ·subst Δ;rw[dC];exact xy.sub b2.l
     ·rw[bP _ _ Δ];refine MY a λb e hb=>?_;subst e;rcases hb with rfl|hb
      ·exact Γ rfl
      ·rw[hm] at hb;cases hb
  | some m=>
   have su:=(fw m hm).1
   have gb:(Sum.inl i:cI)≠.inr m:=θ;refine⟨bO (bO c.H (.inl i) G') (.inr m) E,?_,λj δ=>?_,λb hb=>?_,⟨?_,λb7 e=>?_⟩,?_,MZ.two (b2.l.fits (h.mem.fit (.inl i))) (b2.r.fits (h.mem.fit (.inl i))) mC,λa=>?_⟩
   ·rw[bP _ _ gb,dC]
   ·rw[bP _ _ θ,bP _ _ (λe=>δ (by cases e;rfl))]
   ·have:(Sum.inr b:cI)≠.inr m:=λe=>hb (by cases e;exact .inr hm);rw[bP _ _ this,iH]
   ·have:(Sum.inr s:cI)≠.inr m:=λe=>su (by cases e;rfl);rw[bP _ _ this,iH];exact MX
   ·cases e;rw[dC]
   ·exact holdA.two gb b2.l.q4 b2.r.q4 b2.apart ⟨λs o ν=>⟨o,ν,rfl⟩,λs o ν=>⟨o,ν,rfl⟩⟩ λx γ=>by
     rcases γ with e|e
     ·cases e;exact⟨s,_,MW,.inr hm⟩
     ·cases e
   ·by_cases Γ:a=.inr m
    ·subst Γ;rw[dC];refine(xy.sub b2.r).mono λk ς=>.inr λr o κ hb j δ=>?_;rcases g9 r o κ with⟨rfl,rfl⟩|⟨e,fp⟩
     ·by_cases e:j=i
      ·subst e;exact ς
      ·rw[sr _ e,h.bj.bare r mH j] at δ;exact absurd rfl δ
     ·exact absurd (.inr hm) (nq r o m fp hb)
    ·rw[bP _ _ Γ];by_cases Δ:a=.inl i
     ·subst Δ;rw[dC];exact xy.sub b2.l
     ·rw[bP _ _ Δ];by_cases a0:a=.inr s
      ·subst a0;rw[MX];exact dk.empty
      ·refine MY a λb e hb=>?_;subst e;rcases hb with rfl|hb
       ·exact a0 rfl
       ·rw[hm] at hb;cases hb;exact Γ rfl
 let c':c9:={c with H:=bQ,aK:=upd c.aK i V',tok:=b5 c.tok i s (.par 0 0 .add),spec:=upd c.spec i (upd (c.spec i) s (some sp)),view:=upd c.view i (upd (c.view i) s none),O:=O',bz:=upd c.bz s i,T:=upd c.T i (f (i==0,g,df))}
 have n4:c'.x i=df:=by rw[hM];simp[c',V',c9.x,upd_same,vE,jL]
 have pY:∀j r,r≠s->b5 c.tok i s (.par 0 0 .add) j r=c.tok j r:=λj r κ=>eY _ λx=>κ x.2
 have sn:∀j,j≠0->c.rel j=true->c.home j≠s:=λj ai δ e=>by
  obtain⟨op,a1,bk,_⟩:=h.ec.c1 j ai δ;have e0:=h.ec.er (c.dx j) j (by simp[Trace.g?,a1,bk]);obtain⟨k,m,g,ς⟩:=h.bj.sj j ai e0;rw[e,h.bj.bare s mH j] at ς;cases ς
 refine⟨c',h.seen (c':=c') Ρ G8 G7 ⟨h.bU.race,h.bU.low,h.bU.norel,G9,λj b v hv=>h.bU.oR j b v (fR j b v hv).1,λr o b κ hb k a μ fj=>?_,h.bU.hears⟩ (h.bj.UL mH bq eh sp) ⟨λr q m Ψ hm bX hq=>?_,λr q Ψ bX=>?_⟩
  ⟨h.ec.er,h.ec.c1,λj ai δ bX=>?_,λj ai δ a b=>?_⟩ ⟨λr q m Ψ hm p op ψ μ=>?_,λj b v hv=>h.gq.vA j b v (fR j b v hv).1⟩ ⟨g,?_,.inl rfl⟩ (λj δ=>⟨?_,upd_ne _ _ δ⟩) (λr o κ=>?_),_,rfl⟩
 ·rcases g9 r o κ with⟨rfl,rfl⟩|⟨e,fp⟩
  ·obtain⟨v,hv⟩:=np b hb;exact absurd fj (h.bU.oR i b v hv k a μ)
  ·have:=h.bU.cont r o b fp hb k a μ fj
   show _\/(_/\_=some (upd c.bz s i r));rw[upd_ne _ _ e];exact this
 ·rcases g9 r q Ψ with⟨rfl,rfl⟩|⟨e,cb⟩
  ·show sp.aN [] (bQ (.inr m));rw[kY.2 m hm];exact dp (by have:sp.aW=some m:=hm;rw[this];simp)
  ·show q.aN q.L (bQ (.inr m));rw[G6 m (nq r q m cb (.inr hm))];exact h.ez.pV r q m cb hm (λj jc p x=>bX j jc p (by show b5 c.tok i s _ j r=_;rw[pY j r e];exact x)) λj k L g x=>hq j k L g (by show b5 c.tok i s _ j r=_;rw[pY j r e];exact x)
 ·rcases g9 r q Ψ with⟨rfl,rfl⟩|⟨e,cb⟩
  ·show lO sp.D [] (bQ (.inr r));rw[kY.1];rfl
  ·show lO q.D q.ah (bQ (.inr r));rw[G6 r (nq r q r cb (.inl rfl))];exact h.ez.mB r q cb λj jc p x=>bX j jc p (by show b5 c.tok i s _ j r=_;rw[pY j r e];exact x)
 ·obtain⟨q,p,Ψ⟩:=bX;have e:=sn j ai δ;have CS:c'.bz (c.home j)=c.bz (c.home j):=upd_ne _ _ e;show Knows t (c'.bz (c.home j)) (c.dx j);rw[CS];refine h.ec.c2 j ai δ ⟨q,p,?_⟩;have:b5 c.tok i s (.par 0 0 .add) (c'.bz (c.home j)) (c.home j)=.par q p .bB:=Ψ
  rwa [pY _ _ e,CS] at this
 ·have e:=sn j ai δ
  have CS:c'.bz (c.home j)=c.bz (c.home j):=upd_ne _ _ e
  show Before t (c.dx j) (c.dx (c'.bz (c.home j)))
  have cn:c'.bz (c.home j)≠0:=a
  have Ω:c.rel (c'.bz (c.home j))=true:=b;rw[CS] at cn Ω ⊢;exact h.ec.c3 j ai δ cn Ω
 ·rcases g9 r q Ψ with⟨rfl,rfl⟩|⟨e,cb⟩
  ·obtain⟨v,hv⟩:=np m (.inr hm);exact absurd μ (h.gq.vA i m v hv op (mem_of_getElem? ψ))
  ·obtain⟨⟨k,mu,g,ξ⟩,Κ⟩:=h.gq.jb r q m cb hm p op ψ μ;exact⟨⟨k,mu,g,by show b5 c.tok i s _ _ r=_;rw[pY _ r e];exact ξ⟩,Κ⟩
 ·rw[n4];show jD P Q (upd c.T i (f (i==0,g,df)) i) _ _ _;rw[upd_same];exact bc
 ·simp[c',c9.x,upd_ne _ _ δ,sr _ δ,je j δ]
 ·show O' r=some o;rw[show O' r=c.O r from upd_ne _ _ (ih r o κ)];exact κ
theorem Inv.ghost (h:Inv P Q bs c gs w t) (Ρ:gs[i]?=some g) (ς:GB (i==0) (lQ P Q f) g (c.x i)):CG P Q bs c gs w t i f:=by
 rcases ς with⟨G',I,U⟩|⟨b,cs,ty,I,U⟩|⟨s,sp,ty,G',E,I,ξ,Κ,aE,bd,gT⟩
 ·exact h.less Ρ I U
 ·exact h.UY Ρ I rfl U
 ·exact h.group Ρ I ξ Κ aE bd rfl gT
end
section
variable {P:Program} {Q:Value->Prop} {bs:World} {c c':c9} {gs:Array Goroutine} {w w':World} {t:Trace} {i:Nat} {g g':Goroutine} {es:Array Event}
theorem Inv.step (h:Inv P Q bs c gs w t) (Ρ:gs[i]?=some g) (dR:g.status=.running):(∃v es,i=0/\stepG P true g w=.ended (.done v) w es/\∀sl w1,Good P (λv w'=>Q v/\fD (λ_ _=>False) (λ_=>False) bs w') (crowd gs w1 sl) (.done v) w (t++MemOp.ofEvents 0 g.frame.fn g.frame.place es))\/
  ∃f,c.T i=.node f/\(h0 P Q bs c gs w t i f\/GB (i==0) (lQ P Q f) g (c.x i)):=by
 obtain⟨cV,κ,ε⟩:=h.vB i g Ρ;rcases ε with rfl|⟨_,rfl,_⟩
 ·have main:Co P (i==0) g (c.x i) Q->(∃v es,i=0/\stepG P true g w=.ended (.done v) w es/\∀sl w1,Good P (λv w'=>Q v/\fD (λ_ _=>False) (λ_=>False) bs w') (crowd gs w1 sl) (.done v) w (t++MemOp.ofEvents 0 g.frame.fn g.frame.place es)):=λν=>by
   rcases ν with⟨ai,ν⟩|⟨_,ν⟩
   ·have e:i=0:=by simpa using ai
    subst e;obtain⟨v,es,I,U⟩:=h.good Ρ ν none w;refine⟨v,es,rfl,I,λsl w1=>?_⟩;obtain⟨fi,es',xA,ho⟩:=h.good Ρ ν sl w1;rw[I] at xA;cases xA;exact ho
   ·rw[ν.2.2.1] at dR;cases dR
  cases Ι:c.T i with
  | leaf=>rw[Ι] at κ;exact .inl (main κ.2)
  | node f=>
   have fp:=κ;rw[Ι] at κ;rcases κ.2 with ν|ς
   ·exact .inl (main ν)
   ·refine .inr ⟨f,rfl,?_⟩;rcases ς with ς|⟨He,ς⟩
    ·exact .inl (h.quits Ρ ς)
    ·rcases ς with ς|ς|ς|ς|ς|ς|ς|ς|ς|ς
     ·exact .inl (h.GH Ρ ς)
     ·exact .inl (h.Ug Ρ ς)
     ·exact .inl (h.says Ρ ς)
     ·exact .inl (h.atom Ρ He fp ς)
     ·exact .inl (h.CI Ρ ς)
     ·exact .inl (h.G2 Ρ ς)
     ·exact .inl (h.G3 Ρ ς)
     ·exact .inl (h.CJ Ρ ς)
     ·exact .inl (h.Hd Ρ ς)
     ·exact .inr ς
 ·cases dR
theorem Inv.U4 (h:Inv P Q bs c gs w t):∀g∈gs,Go.Conc.awake g:=λg Ρ=>by
 obtain⟨j,δ⟩:=Array.mem_iff_getElem?.1 Ρ;intro t' Ν;rcases h.stat δ with e|⟨_,e,_⟩|⟨e,_⟩<;>rw[e] at Ν<;>cases Ν
theorem Inv.comes:∀(L:List (gn (Bool×Goroutine×aX))) (k:Nat) (c:c9) (jJ:List Nat) (gs:Array Goroutine) (w:World) (t:Trace) (sl:Option (Nat×Nat)),jJ.map c.T=L->Ord jJ gs.size->xq gs=k->Inv P Q bs c gs w t->Comes P Q bs (crowd gs w sl) t:=by
 intro L
 induction L using (nh.wf (B:=Bool×Goroutine×aX)).induction with
 | _ L Hf=>
  intro k
  induction k using Nat.strongRecOn with
  | _ k xB=>
   intro c jJ gs w t sl aG cO ς h;subst aG ς;obtain⟨i,g,d,zI,Ρ,dR,cH⟩:=crowd_pick (P:=P) (w:=w) (sl:=sl) h.U4 h.awake;have cU:=h.at d;have bq:i<gs.size:=mF Ρ;rcases cU.step Ρ dR with⟨v,es,rfl,I,U⟩|⟨f,Ι,Hg⟩
   ·have κ:=runT_many_ended (sl:=zI) Ρ (by simpa using I);rw[κ] at cH;exact Comes.last cH (U sl w)
   ·rcases Hg with Hg|U5
    ·obtain⟨c',q',w',u,κ,fx,h1⟩:=Hg zI;rw[κ] at cH;refine Comes.next cH ?_;rcases h1 with⟨cv,kk,q7⟩|⟨cv,kk,Hh,q7⟩|⟨cv,q7,aB⟩
     ·exact Hf _ (by rw[q7];exact cO.one bq Ι kk) _ c' jJ q' w' _ zI rfl (by rw[cv];exact cO) rfl fx
     ·obtain⟨CD,U6,U7⟩:=cO.two bq Ι kk Hh;exact Hf _ (by rw[q7];exact U7) _ c' CD q' w' _ zI rfl (by rw[cv];exact U6) rfl fx
     ·exact xB _ aB c' jJ q' w' _ zI (by rw[q7]) (by rw[cv];exact cO) rfl fx
    ·
     obtain⟨c',fx,kk,q7⟩:=h.ghost (f:=f) Ρ U5;exact Hf _ (by rw[q7];exact cO.one bq Ι kk) _ c' jJ gs w t sl rfl cO rfl fx
end
def χ.lS (w:World):χ:=
 ⟨λb o=>match w.heap[b]? with|some (.cells c _ _)=>(c[o]?).map (·,false)|_=>none,
  λb=>match w.heap[b]? with|some (.cells c t dQ)=>if dQ=(0,0) then some (t,c.size) else none|_=>none,λ_=>none⟩
theorem χ.U8 (w:World):Fits (χ.lS w) w:=by
 refine⟨λb o v p h=>?_,λb t n h=>?_,λb x h=>(by cases h)⟩
 ·simp only[χ.lS] at h;cases hb:w.heap[b]? with
  | none=>rw[hb] at h;cases h
  | some x=>
   rw[hb] at h;cases x with
   | cells c t dQ=>
    simp only at h;cases ε:c[o]? with
    | none=>rw[ε] at h;cases h
    | some fi=>rw[ε] at h;cases h;exact nU hb ε
   | _=>cases h
 ·simp only[χ.lS] at h;cases hb:w.heap[b]? with
  | none=>rw[hb] at h;cases h
  | some x=>
   rw[hb] at h;cases x with
   | cells c t' dQ=>
    simp only at h;split at h
    ·rename_i e;cases h;exact⟨c,by rw[e],rfl⟩
    ·cases h
   | _=>cases h
theorem χ.U9 (w:World) (b o:Nat):¬(χ.lS w).owns b o:=λ⟨v,h⟩=>by
 simp only[χ.lS] at h;cases hb:w.heap[b]? with
 | none=>rw[hb] at h;cases h
 | some x=>
  rw[hb] at h;cases x with
  | cells c t dQ=>
   simp only at h;cases ε:c[o]? with
   | none=>rw[ε] at h;cases h
   | some fi=>rw[ε] at h;cases h
  | _=>cases h
def aX.start (w:World):aX:=⟨χ.lS w,λ_=>none,λ_=>.nil,λ_=>none,λ_=>none,0,false⟩
theorem Goes.comes {P:Program} {Q:Value->Prop} {g:Goroutine} {w:World} (h:Goes P Q true g (aX.start w)):Comes P Q w (solo g w) #[]:=by
 obtain⟨T,Ι⟩:=h;let c:c9:={H:=bO (λ_=>χ.empty) (.inl 0) (χ.lS w),aK:=λ_ _=>none,tok:=λ_ _=>.nil,spec:=λ_ _=>none,view:=λ_ _=>none,deaf:=λ_=>0,rel:=λ_=>false,T:=λ_=>T,O:=λ_=>none,bz:=λ_=>0,home:=λ_=>0,dx:=λ_=>0};have γ:c.x 0=aX.start w:=by simp[c,c9.x,aX.start]
 have ω:∀k,k≠.inl 0->c.H k=χ.empty:=λk ς=>bP (λ_=>χ.empty) (χ.lS w) ς
 have sx:c.H (.inl 0)=χ.lS w:=dC (λ_=>χ.empty) (.inl 0) (χ.lS w)
 have Hi:∀k b o,¬(c.H k).owns b o:=λk b o Α=>by
  by_cases e:k=.inl 0
  ·subst e;rw[sx] at Α;exact χ.U9 w b o Α
  ·rw[ω k e] at Α;obtain⟨v,hv⟩:=Α;cases hv
 have M0:∀k b,¬(c.H k).e9 b:=λk b Α=>by
  by_cases e:k=.inl 0
  ·subst e;rw[sx] at Α;obtain⟨v,hv⟩:=Α;cases hv
  ·rw[ω k e] at Α;obtain⟨v,hv⟩:=Α;cases hv
 have jρ:∀i:Nat,(#[]:Trace)[i]?=none:=λi=>θ
 have cv:(#[g]:Array Goroutine).size=1:=rfl
 have inv:Inv P Q w c #[g] w #[]:=by
  refine⟨θ,⟨λk=>?_,λj b c t hb=>(by cases hb),λs o ν=>(by cases ν),fD.refl _ _ _⟩,
   ⟨λk l _=>⟨λb o Α=>absurd Α (Hi k b o),λb o Α=>absurd Α (Hi l b o),λb Α=>absurd Α (M0 k b)⟩,λk b o Α=>absurd Α (Hi k b o),λk b Α=>absurd Α (M0 k b),λj b v hv=>(by cases hv),λs o b ν=>(by cases ν),λs bp o o' b ν=>(by cases ν),λs o m ν=>(by cases ν),λb _=>ω _ θ⟩,
   ⟨λsaid ⟨i,j,_,⟨a,b,μ,_⟩,_⟩=>(by simp[Trace.act?] at μ),λop Ξ=>(by simp at Ξ),λop Ξ=>(by simp at Ξ),λk=>⟨λb o v p _ i a μ=>(by simp[touchAt,Trace.act?] at μ),λb _ i a μ=>(by simp[touchAt,Trace.act?] at μ)⟩,λj b v hv=>(by cases hv),λs o b ν=>(by cases ν),λj=>rfl⟩,
   ?_,⟨λs o m ν=>(by cases ν),λs o ν=>(by cases ν)⟩,⟨λk a ς=>(by simp[Trace.g?] at ς),λj _ δ=>(by cases δ),λj _ δ=>(by cases δ),λj _ δ=>(by cases δ)⟩,⟨λs o m ν=>(by cases ν),λj b v hv=>(by cases hv)⟩,λj b hb=>?_⟩
  ·by_cases e:k=.inl 0
   ·subst e;rw[sx];exact χ.U8 w
   ·rw[ω k e];exact vw w
  ·exact⟨λs o ν=>(by cases ν),λs _ j=>rfl,λj s _=>rfl,λj s sp ν=>(by cases ν),λj s φ o ν=>(by cases ν),λj s k L g o ν=>(by cases ν),λj s m p aJ ν=>(by cases ν),λj s k m g ν=>(by cases ν),λj ai δ=>(by rw[cv] at δ;omega),λj k m g _ ν=>(by cases ν),rfl,λj s ν=>(by cases ν),λj s k m g o ν=>(by cases ν),λs j bK k m g b7 g' ν=>(by cases ν),λs j k m g q p aJ ν=>(by cases ν),λs o ν=>(by cases ν),λs o ν=>(by cases ν)⟩
  ·have δ:j=0:=by have:=mF hb;rw[cv] at this;omega
   subst δ;simp at hb;subst hb;exact⟨g,by rw[γ];exact Ι,.inl rfl⟩
 rw[solo_eq_crowd];exact Inv.comes _ _ c [0] #[g] w #[] none rfl ⟨θ,λi=>θ⟩ rfl inv
def χ.fresh (G:χ) (r:Nat):Prop:=(∀o,G.aL r o=none)/\G.row r=none/\G.obj r=none/\∀b,r<b->(∀o,G.aL b o=none)/\G.row b=none/\G.obj b=none
def χ.vI (G:χ) (a:Addr) (v:Value):χ:={G with aL:=λb o=>if b=a.block/\o=a.off then some (v,true) else G.aL b o}
def χ.dA (G:χ) (r:Nat) (c:Array Value) (t:TypeId):χ:=⟨λb o=>if b=r then(c[o]?).map (·,true) else G.aL b o,λb=>if b=r then some (t,c.size) else G.row b,G.obj⟩
def χ.bL (G:χ) (r:Nat) (x:Obj):χ:={G with obj:=λb=>if b=r then some x else G.obj b}
def One:Value->Prop
 | .agg _|.tuple _=>False
 | _=>True
def π {α:Type} (P:Program):Sem α->χ->(α->χ->Prop)->(Value->χ->Prop)->Prop
 | .pure a,G,K,_=>K a G
 | .load m a k,G,K,E=>m=.plain/\a.spot=none/\∃v p,G.aL a.block a.off=some (v,p)/\π P (k v) G K E
 | .store m a v k,G,K,E=>m=.plain/\a.spot=none/\G.owns a.block a.off/\(∃t n,G.row a.block=some (t,n))/\One v/\π P k (G.vI a v) K E
 | .new (.cells c t dQ) k,G,K,E=>dQ=(0,0)/\∀r,G.fresh r->π P (k r) (G.dA r c t) K E
 | .new o k,G,K,E=>∀r,G.fresh r->π P (k r) (G.bL r o) K E
 | .shape r k,G,K,E=>∃t n,G.row r=some (t,n)/\π P (k (some (t,n))) G K E
 | .freeze _ _ _,_,_,_=>False
 | .frozen a k,G,K,E=>(∃t n,G.row a.block=some (t,n))/\π P (k false) G K E
 | .getObj r k,G,K,E=>∃o,G.obj r=some o/\o.isChan=false/\π P (k o) G K E
 | .setObj r o k,G,K,E=>G.e9 r/\Obj.se o=false/\o.isChan=false/\π P k (G.bL r o) K E
 | .choose q k,G,K,E=>if q.forced then π P (k 0) G K E else ∀n,π P (k (q.cut n)) G K E
 | .sys _ _,_,_,_=>False
 | .program k,G,K,E=>π P (k P) G K E
 | .mark m k,G,K,E=>m=.noRoom/\π P k G K E
 | .halt (.panic v),G,_,E=>E v G
 | .halt _,_,_,_=>False
structure dJ (G0:χ) (w0:World) (G:χ) (w:World) (es:Array Event):Prop where
 fit:Fits G w
 keeps:fD G0.owns G0.e9 w0 w
 kG:Cm G0 G w0.heap.size
 gu:∀e∈es,hl G0 w0.heap.size w.heap.size e
theorem dJ.start {G:χ} {w:World} (h:Fits G w):dJ G w G w #[]:=
 ⟨h,fD.refl _ _ _,⟨λb o v p h=>.inr ⟨v,p,h,id⟩,λb h=>.inr h⟩,λe he=>by simp at he⟩
section
variable {G0 G:χ} {w0 w:World} {es:Array Event}
theorem Fits.bare (h:Fits G w) {b:Nat} (hb:w.heap.size<=b):(∀o,G.aL b o=none)/\G.row b=none/\G.obj b=none:=by
 refine⟨λo=>?_,?_,?_⟩
 ·cases ε:G.aL b o with
  | none=>rfl
  | some x=>obtain⟨c,t,dQ,hb,_⟩:=qV (h.aL _ _ x.1 x.2 ε);have:=fE hb;omega
 ·cases ε:G.row b with
  | none=>rfl
  | some x=>obtain⟨c,hb,_⟩:=h.row _ x.1 x.2 ε;have:=fE hb;omega
 ·cases ε:G.obj b with
  | none=>rfl
  | some x=>have:=fE (h.obj _ x ε).1;omega
theorem Fits.fresh (h:Fits G w):G.fresh w.heap.size:=
 ⟨(h.bare (Nat.le_refl _)).1,(h.bare (Nat.le_refl _)).2.1,(h.bare (Nat.le_refl _)).2.2,λ_ hb=>h.bare (Nat.le_of_lt hb)⟩
theorem χ.Hj {H H':χ} (I:∀b o,H'.aL b o=none->H.aL b o=none) (U:∀b,H'.row b=none->H.row b=none) (ξ:∀b,H'.obj b=none->H.obj b=none) (r:Nat) (h:H'.fresh r):H.fresh r:=
 ⟨λo=>I _ _ (h.1 o),U _ h.2.1,ξ _ h.2.2.1,λb hb=>⟨λo=>I _ _ ((h.2.2.2 b hb).1 o),U _ (h.2.2.2 b hb).2.1,ξ _ (h.2.2.2 b hb).2.2⟩⟩
theorem χ.M1 {H:χ} {r:Nat} (κ:H.fresh r) (c:Array Value) (t:TypeId):∀b,(H.dA r c t).fresh b->H.fresh b:=
 χ.Hj (λb o h=>by
  by_cases e:b=r
  ·subst e;exact κ.1 o
  ·simpa[χ.dA,e] using h) (λb h=>by
  by_cases e:b=r
  ·subst e;exact κ.2.1
  ·simpa[χ.dA,e] using h) (λb h=>h)
theorem χ.Hk {H:χ} {r:Nat} {x:Obj}:∀b,(H.bL r x).fresh b->H.fresh b:=
 χ.Hj (λb o h=>h) (λb h=>h) (λb h=>by
  by_cases e:b=r
  ·subst e;simp[χ.bL] at h
  ·simpa[χ.bL,e] using h)
theorem hl.mono {n iZ M3:Nat} {e:Event} (h:hl G n iZ e) (Η:iZ<=M3):hl G n M3 e:=by
 obtain⟨loc,wr,oS⟩:=e;cases loc with
 | cell a=>exact h.imp (λx=>⟨x.1,R⟩) id
 | obj r=>exact⟨h.1,h.2.imp (λx=>⟨x.1,R⟩) id⟩
 | _=>exact h
theorem dJ.read (h:dJ G0 w0 G w es) {a:Addr} {v:Value} {p:Bool} (μ:a.spot=none) (ε:G.aL a.block a.off=some (v,p)):w.cell? a=some v/\dJ G0 w0 G w (es.push ⟨.cell a,false,false⟩):=by
 obtain⟨b,o,sp⟩:=a;simp only at μ ε;subst μ;have hv:=h.fit.aL b o v p ε;refine⟨hv,h.fit,h.keeps,h.kG,λe he=>?_⟩;rcases Array.mem_push.1 he with he|rfl
 ·exact h.gu e he
 ·rcases h.kG.aL b o v p ε with Η|⟨v0,fF,ai,_⟩
  ·obtain⟨c,t,dQ,hb,_⟩:=qV hv;exact .inl ⟨Η,fE hb⟩
  ·exact .inr ⟨rfl,_,ai⟩
theorem heap_setCell {a:Addr} {v:Value} {c:Array Value} {t:TypeId} {dQ:Nat×Nat} (μ:a.spot=none) (hb:w.heap[a.block]?=some (.cells c t dQ)):(w.setCell a v).heap=w.heap.setIfInBounds a.block (.cells (c.setIfInBounds a.off v) t dQ):=by
 obtain⟨b,o,sp⟩:=a;simp only at μ hb;subst μ;have aB:=fE hb;simp only[World.setCell];apply Array.ext_getElem?;intro j;rw[Array.getElem?_modify];by_cases e:b=j
 ·subst e;rw[Array.getElem?_setIfInBounds_self_of_lt aB,if_pos rfl,hb];simp
 ·rw[Array.getElem?_setIfInBounds_ne e,if_neg e]
theorem dJ.write (h:dJ G0 w0 G w es) {a:Addr} {v:Value} (μ:a.spot=none) (ε:G.owns a.block a.off):(∃u,w.cell? a=some u)/\dJ G0 w0 (G.vI a v) (w.setCell a v) (es.push ⟨.cell a,true,false⟩):=by
 obtain⟨b,o,sp⟩:=a;simp only at μ ε;subst μ;obtain⟨u,hu⟩:=ε;have hv:=h.fit.aL b o u true hu;obtain⟨c,t,dQ,hb,U'⟩:=qV hv;have aB:=fE hb;have aY:=heap_setCell (w:=w) (a:=⟨b,o,none⟩) (v:=v) rfl hb;have cv:(w.setCell ⟨b,o,none⟩ v).heap.size=w.heap.size:=by rw[aY];simp
 have pZ:(w.setCell ⟨b,o,none⟩ v).heap[b]?=some (.cells (c.setIfInBounds o v) t dQ):=by rw[aY,Array.getElem?_setIfInBounds_self_of_lt aB]
 have p0:∀j,b≠j->(w.setCell ⟨b,o,none⟩ v).heap[j]?=w.heap[j]?:=λj δ=>by rw[aY,Array.getElem?_setIfInBounds_ne δ]
 have Α:o<c.size:=(Array.getElem?_eq_some_iff.1 U').1
 have M4:b<w0.heap.size->G0.owns b o:=λjN=>by
  rcases h.kG.aL b o u true hu with Η|⟨v0,fF,ai,ψ⟩
  ·omega
  ·exact⟨v0,by rw[ai,ψ rfl]⟩
 refine⟨⟨u,hv⟩,⟨λΩ o' fi fb a8=>?_,λΩ t' iZ κ=>?_,λΩ x γ=>?_⟩,⟨by rw[cv];exact h.keeps.size,λΩ c' t' M5 dF=>?_,λΩ x dF γ Η=>?_,h.keeps.os,h.keeps.output,h.keeps.tape⟩,⟨λΩ o' fi fb a8=>?_,h.kG.obj⟩,λe he=>?_⟩
 ·simp only[χ.vI] at a8;by_cases e:Ω=b/\o'=o
  ·obtain⟨rfl,rfl⟩:=e;rw[if_pos ⟨rfl,rfl⟩] at a8;cases a8;exact nU pZ (by rw[Array.getElem?_setIfInBounds_self_of_lt Α])
  ·rw[if_neg e] at a8;have:=h.fit.aL Ω o' fi fb a8;by_cases Δ:Ω=b
   ·subst Δ;have Γ:o≠o':=λx=>e ⟨rfl,x.symm⟩;obtain⟨c2,t2,M6,gC,j8⟩:=qV this;rw[hb] at gC;cases gC;exact nU pZ (by rw[Array.getElem?_setIfInBounds_ne Γ];exact j8)
   ·obtain⟨c2,t2,M6,gC,j8⟩:=qV this;exact nU (by rw[p0 Ω (Ne.symm Δ)];exact gC) j8
 ·obtain⟨c2,gC,dX⟩:=h.fit.row Ω t' iZ κ;by_cases Δ:Ω=b
  ·subst Δ;rw[hb] at gC;cases gC;exact⟨_,pZ,by simpa using dX⟩
  ·exact⟨c2,by rw[p0 Ω (Ne.symm Δ)];exact gC,dX⟩
 ·obtain⟨gC,mI⟩:=h.fit.obj Ω x γ;have Δ:b≠Ω:=λe=>by subst e;rw[hb] at gC;cases gC;cases mI
  exact⟨by rw[p0 Ω Δ];exact gC,mI⟩
 ·obtain⟨c2,I,U,ξ⟩:=h.keeps.cells Ω c' t' M5 dF;by_cases Δ:Ω=b
  ·subst Δ;rw[hb] at I;cases I;refine⟨_,pZ,by simpa using U,λo' jI=>?_⟩;have Γ:o≠o':=λe=>by subst e;exact jI (M4 (fE dF))
   rw[Array.getElem?_setIfInBounds_ne Γ];exact ξ o' jI
  ·exact⟨c2,by rw[p0 Ω (Ne.symm Δ)];exact I,U,ξ⟩
 ·have I:=h.keeps.nd Ω x dF γ Η
  have Δ:b≠Ω:=λe=>by subst e;rw[hb] at I;cases I;cases γ
  rw[p0 Ω Δ];exact I
 ·simp only[χ.vI] at a8;by_cases e:Ω=b/\o'=o
  ·obtain⟨rfl,rfl⟩:=e;rw[if_pos ⟨rfl,rfl⟩] at a8;cases a8;rcases h.kG.aL _ _ _ _ hu with Η|⟨v0,fF,ai,ψ⟩
   ·exact .inl Η
   ·exact .inr ⟨v0,fF,ai,ψ⟩
  ·rw[if_neg e] at a8;exact h.kG.aL Ω o' fi fb a8
 ·rw[cv];rcases Array.mem_push.1 he with he|rfl
  ·exact h.gu e he
  ·rcases Nat.lt_or_ge b w0.heap.size with jN|jN
   ·refine .inr ⟨rfl,?_⟩;exact M4 jN
   ·exact .inl ⟨jN,aB⟩
theorem zJ {x:Obj} {j:Nat} (δ:j<w.heap.size):(w.heap.push x)[j]?=w.heap[j]?:=by
 rw[Array.getElem?_push,if_neg R]
theorem CU {x:Obj}:(w.heap.push x)[w.heap.size]?=some x:=θ
theorem dJ.new (h:dJ G0 w0 G w es) {x:Obj} {G':χ} (ε:∀b o,b≠w.heap.size->G'.aL b o=G.aL b o) (κ:∀b,b≠w.heap.size->G'.row b=G.row b) (Α:∀b,b≠w.heap.size->G'.obj b=G.obj b)
  (Χ:Fits {aL:=λb o=>if b=w.heap.size then G'.aL b o else none,row:=λb=>if b=w.heap.size then G'.row b else none,obj:=λb=>if b=w.heap.size then G'.obj b else none} {w with heap:=w.heap.push x}) :
  dJ G0 w0 G' {w with heap:=w.heap.push x} es:=by
 have hle:=h.keeps.size;refine⟨⟨λb o v p hb=>?_,λb t n hb=>?_,λb y hb=>?_⟩,⟨by simp;omega,λb c t dQ hb=>?_,λb y hb Ο Η=>?_,h.keeps.os,h.keeps.output,h.keeps.tape⟩,⟨λb o v p hb=>?_,λb ⟨y,hb⟩=>?_⟩,λe he=>(h.gu e he).mono θ⟩
 ·by_cases e:b=w.heap.size
  ·exact Χ.aL b o v p (by simp only[e,if_true];rw[<-e];exact hb)
  ·rw[ε b o e] at hb;obtain⟨c2,t2,M6,gC,j8⟩:=qV (h.fit.aL b o v p hb);exact nU (w:={w with heap:=w.heap.push x}) (by show(w.heap.push x)[b]?=_;rw[zJ (fE gC)];exact gC) j8
 ·by_cases e:b=w.heap.size
  ·exact Χ.row b t n (by simp only[e,if_true];rw[<-e];exact hb)
  ·rw[κ b e] at hb;obtain⟨c2,gC,dX⟩:=h.fit.row b t n hb;exact⟨c2,by show(w.heap.push x)[b]?=_;rw[zJ (fE gC)];exact gC,dX⟩
 ·by_cases e:b=w.heap.size
  ·exact Χ.obj b y (by simp only[e,if_true];rw[<-e];exact hb)
  ·rw[Α b e] at hb;obtain⟨gC,Ο⟩:=h.fit.obj b y hb;exact⟨by show(w.heap.push x)[b]?=_;rw[zJ (fE gC)];exact gC,Ο⟩
 ·obtain⟨c2,I,U,ξ⟩:=h.keeps.cells b c t dQ hb;exact⟨c2,by show(w.heap.push x)[b]?=_;rw[zJ (fE I)];exact I,U,ξ⟩
 ·have I:=h.keeps.nd b y hb Ο Η
  show(w.heap.push x)[b]?=_;rw[zJ (fE I)];exact I
 ·by_cases e:b=w.heap.size
  ·exact .inl R
  ·rw[ε b o e] at hb;exact h.kG.aL b o v p hb
 ·by_cases e:b=w.heap.size
  ·exact .inl R
  ·rw[Α b e] at hb;exact h.kG.obj b ⟨y,hb⟩
end
section
variable {G0 G:χ} {w0 w:World} {es:Array Event} {P:Program}
theorem dJ.push (h:dJ G0 w0 G w es) {e:Event} (he:hl G0 w0.heap.size w.heap.size e):dJ G0 w0 G w (es.push e):=
 ⟨h.fit,h.keeps,h.kG,λx γ=>(Array.mem_push.1 γ).elim (h.gu x) λy=>y▸he⟩
theorem dJ.draw (h:dJ G0 w0 G w es) (n:Nat):dJ G0 w0 G {w with drawn:=n} es:=
 ⟨⟨h.fit.aL,h.fit.row,h.fit.obj⟩,⟨h.keeps.size,h.keeps.cells,h.keeps.nd,h.keeps.os,h.keeps.output,h.keeps.tape⟩,h.kG,h.gu⟩
theorem dJ.row (h:dJ G0 w0 G w es) (c:Array Value) (t:TypeId):dJ G0 w0 (G.dA w.heap.size c t) {w with heap:=w.heap.push (.cells c t (0,0))} es:=by
 refine h.new (λb o hb=>by simp[χ.dA,hb]) (λb hb=>by simp[χ.dA,hb]) (λb hb=>rfl) ⟨λb o v p hb=>?_,λb t' n hb=>?_,λb y hb=>?_⟩
 ·by_cases e:b=w.heap.size
  ·simp[χ.dA,e] at hb;obtain⟨k4,gC,rfl,rfl⟩:=hb;rw[e];exact nU (w:={w with heap:=w.heap.push (.cells c t (0,0))}) CU gC
  ·simp[e] at hb
 ·by_cases e:b=w.heap.size
  ·simp[χ.dA,e] at hb;obtain⟨rfl,rfl⟩:=hb;rw[e];exact⟨c,CU,rfl⟩
  ·simp[e] at hb
 ·by_cases e:b=w.heap.size
  ·simp only[e,if_true,χ.dA] at hb;rw[h.fit.fresh.2.2.1] at hb;cases hb
  ·simp[e] at hb
theorem dJ.obj (h:dJ G0 w0 G w es) {x:Obj} (γ:Obj.se x=false):dJ G0 w0 (G.bL w.heap.size x) {w with heap:=w.heap.push x} es:=by
 refine h.new (λb o hb=>rfl) (λb hb=>rfl) (λb hb=>by simp[χ.bL,hb]) ⟨λb o v p hb=>?_,λb t' n hb=>?_,λb y hb=>?_⟩
 ·by_cases e:b=w.heap.size
  ·simp only[e,if_true,χ.bL] at hb;rw[h.fit.fresh.1] at hb;cases hb
  ·simp[e] at hb
 ·by_cases e:b=w.heap.size
  ·simp only[e,if_true,χ.bL] at hb;rw[h.fit.fresh.2.1] at hb;cases hb
  ·simp[e] at hb
 ·by_cases e:b=w.heap.size
  ·simp[χ.bL,e] at hb;subst hb;rw[e];exact⟨CU,γ⟩
  ·simp[e] at hb
theorem dJ.setObj (h:dJ G0 w0 G w es) {r:Nat} {x:Obj} (κ:G.e9 r) (γ:Obj.se x=false):(∃y,w.heap[r]?=some y/\Obj.se y=false)/\dJ G0 w0 (G.bL r x) {w with heap:=w.heap.setIfInBounds r x} (es.push ⟨.obj r,true,false⟩):=by
 obtain⟨y,Ο⟩:=κ;obtain⟨hb,CV⟩:=h.fit.obj r y Ο;have aB:=fE hb;have pZ:(w.heap.setIfInBounds r x)[r]?=some x:=Array.getElem?_setIfInBounds_self_of_lt aB;have p0:∀j,r≠j->(w.heap.setIfInBounds r x)[j]?=w.heap[j]?:=λj δ=>Array.getElem?_setIfInBounds_ne δ;have Hl:∀b c t dQ,w.heap[b]?=some (.cells c t dQ)->r≠b:=λb c t dQ ε e=>by subst e;rw[hb] at ε;cases ε;cases CV
 refine⟨⟨y,hb,CV⟩,⟨λb o v p ε=>?_,λb t n ε=>?_,λb z Θ=>?_⟩,⟨by simp;exact h.keeps.size,λb c t dQ ε=>?_,λb z ε Θ Η=>?_,h.keeps.os,h.keeps.output,h.keeps.tape⟩,⟨h.kG.aL,λb Θ=>?_⟩,λe he=>?_⟩
 ·obtain⟨c,t,dQ,I,U⟩:=qV (h.fit.aL b o v p ε);exact nU (w:={w with heap:=w.heap.setIfInBounds r x}) (by show(w.heap.setIfInBounds r x)[b]?=_;rw[p0 b (Hl b c t dQ I)];exact I) U
 ·obtain⟨c,I,U⟩:=h.fit.row b t n ε;exact⟨c,by show(w.heap.setIfInBounds r x)[b]?=_;rw[p0 b (Hl b c t _ I)];exact I,U⟩
 ·by_cases e:b=r
  ·subst e;simp[χ.bL] at Θ;subst Θ;exact⟨pZ,γ⟩
  ·simp[χ.bL,e] at Θ;obtain⟨I,U⟩:=h.fit.obj b z Θ;exact⟨by show(w.heap.setIfInBounds r x)[b]?=_;rw[p0 b (Ne.symm e)];exact I,U⟩
 ·obtain⟨c2,I,U,ξ⟩:=h.keeps.cells b c t dQ ε;exact⟨c2,by show(w.heap.setIfInBounds r x)[b]?=_;rw[p0 b (Hl b c2 t dQ I)];exact I,U,ξ⟩
 ·have I:=h.keeps.nd b z ε Θ Η
  have e:r≠b:=λe=>by
   subst e;rcases h.kG.obj r ⟨y,Ο⟩ with γ|γ
   ·have:=fE ε;omega
   ·exact Η γ
  show(w.heap.setIfInBounds r x)[b]?=_;rw[p0 b e];exact I
 ·by_cases e:b=r
  ·subst e;exact h.kG.obj b ⟨y,Ο⟩
  ·obtain⟨z,Θ⟩:=Θ;simp[χ.bL,e] at Θ;exact h.kG.obj b ⟨z,Θ⟩
 ·simp only[Array.size_setIfInBounds];rcases Array.mem_push.1 he with he|rfl
  ·exact h.gu e he
  ·exact⟨rfl,(h.kG.obj r ⟨y,Ο⟩).imp (λγ=>⟨γ,aB⟩) id⟩
theorem π.sound {α:Type} {K:α->χ->Prop} {E:Value->χ->Prop} (s:Sem α):∀{G:χ} {w:World} {es:Array Event},π P s G K E->dJ G0 w0 G w es->
  ∃G' w' es',dJ G0 w0 G' w' es'/\((∃a,s.runT P w es=(.ok a w',es')/\K a G')\/(∃v,s.runT P w es=(.halt (.panic v) w',es')/\E v G')):=by
 induction s with
 | pure a=>intro G w es h hu;exact⟨G,w,es,hu,.inl ⟨a,rfl,h⟩⟩
 | load m a k Β=>
  intro G w es h hu;obtain⟨rfl,μ,v,p,ε,ς⟩:=h;obtain⟨hv,vJ⟩:=hu.read μ ε;obtain⟨G',w',es',I,U⟩:=Β v ς vJ;refine⟨G',w',es',I,?_⟩;simp only[Sem.runT,hv];exact U
 | store m a v k Β=>
  intro G w es h hu;obtain⟨rfl,μ,ε,⟨t,n,bF⟩,CW,ς⟩:=h;obtain⟨⟨u,hv⟩,vJ⟩:=hu.write (v:=v) μ ε;obtain⟨G',w',es',I,U⟩:=Β ς vJ;have M7:w.frozen? a=false:=by
   obtain⟨c,hb,_⟩:=hu.fit.row a.block t n bF;simp[World.frozen?,hb]
  refine⟨G',w',es',I,?_⟩;have e:(Sem.store .plain a v k).runT P w es=k.runT P (w.setCell a v) (es.push ⟨.cell a,true,false⟩):=by
   cases v<;>first|exact CW.elim|(simp only[Sem.runT,hv,M7];rfl)
  rw[e];exact U
 | new o k Β=>
  intro G w es h hu;cases o with
  | cells c t dQ=>
   obtain⟨rfl,ς⟩:=h;obtain⟨G',w',es',I,U⟩:=Β w.heap.size (ς _ hu.fit.fresh) (hu.row c t);exact⟨G',w',es',I,U⟩
  | _=>
   obtain⟨G',w',es',I,U⟩:=Β w.heap.size (h _ hu.fit.fresh) (hu.obj rfl);exact⟨G',w',es',I,U⟩
 | shape r k Β=>
  intro G w es h hu;obtain⟨t,n,κ,ς⟩:=h;have e:w.shape? r=some (t,n):=by
   obtain⟨c,hb,ν⟩:=hu.fit.row r t n κ;simp[World.shape?,hb,ν]
  obtain⟨G',w',es',I,U⟩:=Β _ ς hu;refine⟨G',w',es',I,?_⟩;simp only[Sem.runT,e];exact U
 | freeze a n k Β=>intro G w es h hu;exact h.elim
 | frozen a k Β=>
  intro G w es h hu;obtain⟨⟨t,n,κ⟩,ς⟩:=h;have e:w.frozen? a=false:=by
   obtain⟨c,hb,_⟩:=hu.fit.row a.block t n κ;simp[World.frozen?,hb]
  obtain⟨G',w',es',I,U⟩:=Β _ ς hu;refine⟨G',w',es',I,?_⟩;simp only[Sem.runT,e];exact U
 | getObj r k Β=>
  intro G w es h hu;obtain⟨o,Α,oZ,ς⟩:=h;obtain⟨hb,bX⟩:=hu.fit.obj r o Α;have aB:=fE hb;have vJ:=hu.push (e:=⟨.obj r,false,false⟩) ⟨rfl,(hu.kG.obj r ⟨o,Α⟩).imp (λγ=>⟨γ,aB⟩) id⟩;obtain⟨G',w',es',I,U⟩:=Β _ ς vJ;refine⟨G',w',es',I,?_⟩;have e:(Sem.getObj r k).runT P w es=(k o).runT P w (es.push ⟨.obj r,false,false⟩):=by
   cases o<;>first|(simp only[Sem.runT,hb];first|done|rfl|(rw[oZ];done))|(cases bX;done)
  rw[e];exact U
 | setObj r o k Β=>
  intro G w es h hu;obtain⟨κ,bX,oZ,ς⟩:=h;obtain⟨⟨y,hb,CV⟩,vJ⟩:=hu.setObj κ bX;obtain⟨G',w',es',I,U⟩:=Β ς vJ;refine⟨G',w',es',I,?_⟩;have e:(Sem.setObj r o k).runT P w es=k.runT P {w with heap:=w.heap.setIfInBounds r o} (es.push ⟨.obj r,true,false⟩):=by
   cases y<;>first|(simp only[Sem.runT,hb,oZ];done)|(cases CV;done)
  rw[e];exact U
 | choose q k Β=>
  intro G w es h hu;simp only[π] at h;by_cases Ψ:q.forced=true
  ·rw[if_pos Ψ] at h;obtain⟨G',w',es',I,U⟩:=Β _ h hu;refine⟨G',w',es',I,?_⟩;simp only[Sem.runT,Ψ,if_true];exact U
  ·rw[if_neg Ψ] at h;obtain⟨G',w',es',I,U⟩:=Β _ (h (w.tape w.drawn q)) (hu.draw (w.drawn+1));refine⟨G',w',es',I,?_⟩;simp only[Sem.runT,Ψ];exact U
 | sys c k Β=>intro G w es h hu;exact h.elim
 | program k Β=>
  intro G w es h hu;obtain⟨G',w',es',I,U⟩:=Β P h hu;exact⟨G',w',es',I,U⟩
 | mark m k Β=>
  intro G w es h hu;obtain⟨rfl,ς⟩:=h;obtain⟨G',w',es',I,U⟩:=Β ς (hu.push (e:=⟨.mark .noRoom,false,true⟩) rfl);exact⟨G',w',es',I,U⟩
 | halt x=>
  intro G w es h hu;cases x<;>first|exact h.elim|skip
  exact⟨G,w,es,hu,.inr ⟨_,rfl,h⟩⟩
theorem mem_seen {fn:FuncId} {e:Event} (h:e∈seen P fn es):e∈es:=by
 unfold seen at h;obtain⟨l⟩:=es;have key:∀(l:List Event) (q:Bool) (kept:Array Event) (x:Event),x∈(l.foldl (λ(s:Bool×Array Event) e=>match e.loc with
   | .mark (Mark.extern f)=>((P.funcs[f]?).any (·.norace),s.2)
   | _=>(s.1,if s.1&&!e.sync then s.2 else s.2.push e)) (q,kept)).2->x∈kept\/x∈l:=by
  intro l
  induction l with
  | nil=>intro q kept x γ;exact .inl γ
  | cons y l Β=>
   intro q kept x γ;rw[List.foldl_cons] at γ;rcases Β _ _ x γ with hM|hM
   ·split at hM
    ·exact .inl hM
    ·simp only at hM;split at hM
     ·exact .inl hM
     ·rcases Array.mem_push.1 hM with Cz|rfl
      ·exact .inl Cz
      ·exact .inr θ
   ·exact .inr (by simp[hM])
 simp only[List.foldl_toArray'] at h;rcases key l _ #[] e h with γ|γ
 ·simp at γ
 ·simpa using γ
end
def cw (P:Program) (Q:Value->Prop) (mn:Bool) (y:aX) (ax:Frame) (cs:List Frame) (H:χ):Prop:=Goes P Q mn (Go.Conc.G ax cs) {y with G:=H}
def gV:Type:=aX->Prop
class bt where
 q:gV->Prop
structure Seq [bt] (x:gV):Prop where
 cls:bt.q x
 rel:∀y,x y->y.rel=false
 aK:∀y,x y->y.aK=λ_=>none
def aO (P:Program) (Q:Value->Prop) (mn:Bool) (x:gV) (ax:Frame) (cs:List Frame) (H:χ):Prop:=∀y,x y->cw P Q mn y ax cs H
def ax (b:Frame) (t:Array Value) (k:List Item):Frame:={b with tmps:=t,todo:=k}
section
variable {P:Program} {Q:Value->Prop} {mn:Bool} {x:gV} {cs:List Frame} {H:χ} {b f:Frame} {t:Array Value} {k:List Item}
theorem cw.own {y:aX} (eh:y.rel=false) (fR:y.aK=λ_=>none) (h:∀w,Fits H w->∃f' cs' w' es H',stepG P mn (Go.Conc.G f cs) w=.go (Go.Conc.G f' cs') w' es/\dJ H w H' w' es/\cw P Q mn y f' cs' H'):cw P Q mn y f cs H:=by
 refine Goes.step (λκ=>by rw[show({y with G:=H}:aX).rel=y.rel from rfl,eh] at κ;cases κ) (.inr ⟨⟨rfl,rfl⟩,.inl λw Χ hv=>?_⟩);obtain⟨f',cs',w',es,H',I,U,ξ⟩:=h w Χ;rw[I];refine⟨H',y.aK,⟨rfl,rfl⟩,U.keeps,U.fit,λb c t hb=>?_,U.kG,λb c hb=>.inl hb,λe he=>?_,λb c hb=>?_,ξ⟩
 ·rw[fR] at hb;cases hb
 ·rw[if_neg (by rw[show({y with G:=H}:aX).rel=y.rel from rfl,eh];simp)];exact U.gu e he
 ·rw[fR] at hb;cases hb
variable [bt]
theorem aO.own (γ:Seq x) (h:∀w,Fits H w->∃f' cs' w' es H',stepG P mn (Go.Conc.G f cs) w=.go (Go.Conc.G f' cs') w' es/\dJ H w H' w' es/\aO P Q mn x f' cs' H'):aO P Q mn x f cs H:=
 λy Ο=>.own (γ.rel y Ο) (γ.aK y Ο) λw Χ=>let ⟨f',cs',w',es,H',a,b,c⟩:=h w Χ;⟨f',cs',w',es,H',a,b,c y Ο⟩
theorem aO.still (γ:Seq x) {f':Frame} {cs':List Frame} (ν:∀w,stepG P mn (Go.Conc.G f cs) w=.go (Go.Conc.G f' cs') w #[]) (h:aO P Q mn x f' cs' H):aO P Q mn x f cs H:=
 .own γ λw Χ=>⟨f',cs',w,#[],H,ν w,.start Χ,h⟩
theorem jf (hb:b.mode=.run) (w:World):stepG P mn (Go.Conc.G (ax b t k) cs) w=stepG.exec P mn true (ax b t k) cs none w:=by
 obtain⟨fn,xC,td,Va,tS,kd,ro⟩:=b;simp only at hb;subst hb;rfl
section Vb
variable (γ:Seq x) (hb:b.mode=.run)
include γ hb
theorem aO.to {ae:List Item} (ν:∀w,stepG.exec P mn true (ax b t k) cs none w=.go (Go.Conc.G (ax b t ae) cs) w #[]) (h:aO P Q mn x (ax b t ae) cs H):aO P Q mn x (ax b t k) cs H:=
 .still γ (λw=>(jf hb w).trans (ν w)) h
theorem aO.skip (h:aO P Q mn x (ax b t k) cs H):aO P Q mn x (ax b t (.code .skip::k)) cs H:=.to γ hb (λ_=>rfl) h
theorem aO.inBlock {l:Nat} (h:aO P Q mn x (ax b t k) cs H):aO P Q mn x (ax b t (.inBlock l::k)) cs H:=.to γ hb (λ_=>rfl) h
theorem aO.seq {a c:Code} (h:aO P Q mn x (ax b t (.code a::.code c::k)) cs H):aO P Q mn x (ax b t (.code (.seq a c)::k)) cs H:=.to γ hb (λ_=>rfl) h
theorem aO.block {l:Nat} {c:Code} (h:aO P Q mn x (ax b t (.code c::.inBlock l::k)) cs H):aO P Q mn x (ax b t (.code (.block l c)::k)) cs H:=.to γ hb (λ_=>rfl) h
theorem aO.loop {c:Code} (h:aO P Q mn x (ax b t (.code c::.inLoop c::k)) cs H):aO P Q mn x (ax b t (.code (.loop c)::k)) cs H:=.to γ hb (λ_=>rfl) h
theorem aO.inLoop {c:Code} (h:aO P Q mn x (ax b t (.code c::.inLoop c::k)) cs H):aO P Q mn x (ax b t (.inLoop c::k)) cs H:=.to γ hb (λ_=>rfl) h
theorem aO.region {id:Nat} {ops:Array Oper} (h:aO P Q mn x (ax b t (.inRegion ops (List.range ops.size)::k)) cs H):aO P Q mn x (ax b t (.code (.region id ops false)::k)) cs H:=.to γ hb (λ_=>rfl) h
theorem aO.bI {ops:Array Oper} (h:aO P Q mn x (ax b t k) cs H):aO P Q mn x (ax b t (.inRegion ops []::k)) cs H:=.to γ hb (λ_=>rfl) h
theorem aO.cond {c:Operand} {a e:Code} {v:Bool} (ε:(ax b t k).eval c=.bool v) (h:aO P Q mn x (ax b t (.code (if v then a else e)::k)) cs H):aO P Q mn x (ax b t (.code (.cond c a e)::k)) cs H:=by
 refine .to γ hb (λw=>?_) h;have a8:(ax b t (.code (.cond c a e)::k)).eval c=.bool v:=ε;unfold stepG.exec;simp only[ax] at a8 ⊢;rw[a8];rfl
theorem aO.exit {l:Nat} {ae:List Item} (he:exitTo l k=some ae) (h:aO P Q mn x (ax b t ae) cs H):aO P Q mn x (ax b t (.code (.exit l)::k)) cs H:=by
 refine .to γ hb (λw=>?_) h;unfold stepG.exec;simp only[ax,he,Option.elim];rfl
theorem aO.draw {id:Nat} {ops:Array Oper} (h:∀n,aO P Q mn x (ax b t (.inRegion ops (Region.schedule (P.follows .mixedOrders) ops n)::k)) cs H):aO P Q mn x (ax b t (.code (.region id ops true)::k)) cs H:=by
 refine .own γ λw Χ=>⟨ax b t (.inRegion ops (Region.schedule (P.follows .mixedOrders) ops (w.tape w.drawn (.order b.fn id)))::k),cs,{w with drawn:=w.drawn+1},#[],H,?_,(dJ.start Χ).draw _,h _⟩;rw[jf hb];rfl
theorem aO.ret (κ:b.roundOf=none) (h:aO P Q mn x {ax b t (.code .ret::k) with mode:=.returning} cs H):aO P Q mn x (ax b t (.code .ret::k)) cs H:=by
 refine .still γ (λw=>?_) h;rw[jf hb];unfold stepG.exec;simp only[ax,κ];rfl
theorem aO.sy (κ:b.roundOf=none) (h:aO P Q mn x {ax b t [] with mode:=.returning} cs H):aO P Q mn x (ax b t []) cs H:=by
 refine .still γ (λw=>?_) h;rw[jf hb];unfold stepG.exec;simp only[ax,κ];rfl
end Vb
end
end Go.TL
namespace Go.TL
open Go.Conc
open Go.ConcM (OsLater)
open Go.ConcN (sumTo upd sumTo_upd upd_ne upd_same sumTo_congr le_sumTo)
variable [bt]
def br (t:Array Value):Operand->Value
 | .tmp n=>t.getD n undef
 | .const v=>v
 | .global g=>.pointer (some ⟨g,0,none⟩)
 | .func f=>.func (.func f) #[] #[]
theorem zK (b:Frame) (t:Array Value) (k:List Item):(ax b t k).eval=br t:=by funext o;cases o<;>rfl
def put (o:Oper) (t:Array Value) (v:Value):Array Value:=match o.dst with|some d=>t.setIfInBounds d v|none=>t
def M8 (P:Program) (Q:Value->Prop) (mn:Bool) (x:gV) (b:Frame) (t:Array Value) (ops:Array Oper) (i:Nat) (o:Oper) (rest:List Nat) (k:List Item) (cs:List Frame):Next->χ->Prop
 | .value v,H=>aO P Q mn x (ax b (put o t v) (.inRegion ops rest::k)) cs H
 | .skip,H=>aO P Q mn x (ax b (put o t undef) (.inRegion ops rest::k)) cs H
 | .enter f args,H=>aO P Q mn x (Frame.enter P f args .normal) (ax b t (.inRegion ops (i::rest)::k)::cs) H
 | .round l f xC CX sz,H=>aO P Q mn x (Frame.round l f xC CX sz .normal) (ax b t (.inRegion ops (i::rest)::k)::cs) H
 | .defer d,H=>aO P Q mn x (ax {b with defers:=d::b.defers} (put o t undef) (.inRegion ops rest::k)) cs H
 | .recover,H=>b.roundOf=none/\match tryRecover (ax b t (.inRegion ops (i::rest)::k)) cs with
  | some (v,cs')=>aO P Q mn x (ax b (put o t v) (.inRegion ops rest::k)) cs' H
  | none=>aO P Q mn x (ax b (put o t .nilIface) (.inRegion ops rest::k)) cs H
 | _,_=>False
section
variable {P:Program} {Q:Value->Prop} {mn:Bool} {x:gV} {cs:List Frame} {H:χ} {b f:Frame} {t:Array Value} {k:List Item}
theorem dJ.sub {G0 G:χ} {w0 w:World} {es es':Array Event} (h:dJ G0 w0 G w es) (ν:∀e∈es',e∈es):dJ G0 w0 G w es':=⟨h.fit,h.keeps,h.kG,λe he=>h.gu e (ν e he)⟩
theorem il {b:Frame} {ops:Array Oper} {i:Nat} {o:Oper} {rest:List Nat} {v:Value} (Α:ops[i]?=some o):(ax b t (.inRegion ops (i::rest)::k)).finish v=ax b (put o t v) (.inRegion ops rest::k):=by
 simp only[Frame.finish,ax,Α,Option.bind,put];cases o.dst<;>rfl
theorem aO.unwanted (γ:Seq x) (hb:b.mode=.run) {ops:Array Oper} {i:Nat} {o:Oper} {rest:List Nat} (Α:ops[i]?=some o) (hw:Region.wanted o (yielded ops t)=false)
  (h:aO P Q mn x (ax b (put o t undef) (.inRegion ops rest::k)) cs H):aO P Q mn x (ax b t (.inRegion ops (i::rest)::k)) cs H:=by
 refine .still γ (f':=ax b (put o t undef) (.inRegion ops rest::k)) (cs':=cs) (λw=>?_) h;rw[jf hb,<-il Α];have vu:((ops[i]?).map (Region.wanted · (yielded ops t))).getD false=false:=by simp[Α,hw]
 unfold stepG.exec;simp only[ax,vu];rfl
theorem aO.op (γ:Seq x) (hb:b.mode=.run) {ops:Array Oper} {i:Nat} {o:Oper} {rest:List Nat} (Α:ops[i]?=some o) (hw:Region.wanted o (yielded ops t)=true) (hd:b.roundOf=none\/∀c,o.op≠.defer c)
  (h:π P (execOp (br t) o) H (M8 P Q mn x b t ops i o rest k cs) (λv H'=>aO P Q mn x {ax b t (.inRegion ops (i::rest)::k) with mode:=.panicking [{v,recovered:=false}]} cs H')) :
  aO P Q mn x (ax b t (.inRegion ops (i::rest)::k)) cs H:=by
 refine .own γ λw Χ=>?_;obtain⟨H',w',es',hu,h1⟩:=π.sound (P:=P) (G0:=H) (w0:=w) (execOp (br t) o) h (dJ.start Χ);have zL:stepG P mn (Go.Conc.G (ax b t (.inRegion ops (i::rest)::k)) cs) w=stepG.apply P true (ax b t (.inRegion ops (i::rest)::k)) cs none (execOp (br t) o) w:=by
  rw[jf hb];have vu:((ops[i]?).map (Region.wanted · (yielded ops t))).getD false=true:=by simp[Α,hw]
  have he:(ax b t (.inRegion ops (i::rest)::k)).oper?=some o:=by simp[Frame.oper?,ax,Α]
  unfold stepG.exec;simp only[ax,vu,if_true];simp only[ax] at he;unfold stepG.oper;simp only[he];rcases hd with hd|hd
  ·simp only[hd];rw[<-zK b t (.inRegion ops (i::rest)::k)];rfl
  ·cases κ:b.roundOf with
   | none=>rw[<-zK b t (.inRegion ops (i::rest)::k)];rfl
   | some l=>
    cases Ξ:o.op<;>first|exact absurd Ξ (hd _)|(simp only;rw[<-zK b t (.inRegion ops (i::rest)::k)];rfl)
 rw[zL];generalize ga:(if(ax b t (.inRegion ops (i::rest)::k)).kind==.early then #[] else es')=n5;have j7:∀e∈seen P b.fn n5,e∈es':=λe he=>by
  have:=mem_seen he;rw[<-ga] at this;split at this
  ·simp at this
  ·exact this
 have o0:∀v,(ax b t (.inRegion ops (i::rest)::k)).finish v=ax b (put o t v) (.inRegion ops rest::k):=λv=>il Α;rcases h1 with⟨gD,dR,ζ⟩|⟨v,dR,dn⟩
 ·cases gD<;>first|exact ζ.elim|skip
  case value v=>exact⟨_,_,w',seen P b.fn n5,H',by unfold stepG.apply;simp only[dR,if_true];rw[ga,o0];simp[GStep.after,Go.Conc.G,ax],hu.sub j7,ζ⟩
  case skip=>exact⟨_,_,w',seen P b.fn n5,H',by unfold stepG.apply;simp only[dR,if_true];rw[ga,o0];simp[GStep.after,Go.Conc.G,ax],hu.sub j7,ζ⟩
  case enter f args=>exact⟨_,_,w',seen P b.fn n5,H',by unfold stepG.apply;simp only[dR,if_true];rw[ga];simp[GStep.after,Go.Conc.G,ax],hu.sub j7,ζ⟩
  case round l f xC CX sz=>exact⟨_,_,w',seen P b.fn n5,H',by unfold stepG.apply;simp only[dR,if_true];rw[ga];simp[GStep.after,Go.Conc.G,ax],hu.sub j7,ζ⟩
  case defer d=>exact⟨_,_,w',seen P b.fn n5,H',by unfold stepG.apply;simp only[dR,if_true];rw[ga];simp[GStep.after,Go.Conc.G,Frame.finish,ax,put,Α];cases o.dst<;>rfl,hu.sub j7,ζ⟩
  case recover=>
   obtain⟨cm,ζ⟩:=ζ;cases o1:tryRecover (ax b t (.inRegion ops (i::rest)::k)) cs with
   | none=>
    rw[o1] at ζ;exact⟨_,_,w',seen P b.fn n5,H',by unfold stepG.apply;simp only[dR,if_true];rw[ga,o0];simp only[ax] at o1 ⊢;simp only[cm];rw[cm] at o1;rw[o1];simp[GStep.after,Go.Conc.G],hu.sub j7,ζ⟩
   | some r=>
    obtain⟨v,cs'⟩:=r;rw[o1] at ζ;exact⟨_,_,w',seen P b.fn n5,H',by unfold stepG.apply;simp only[dR,if_true];rw[ga];simp only[ax] at o1 ⊢;simp only[cm];rw[cm] at o1;rw[o1];simp[GStep.after,Go.Conc.G];(have e:=o0 v;simp only[ax,cm] at e;exact e),hu.sub j7,ζ⟩
 ·exact⟨_,_,w',seen P b.fn n5,H',by unfold stepG.apply;simp only[dR,if_true];rw[ga];simp[GStep.after,Go.Conc.G,Frame.raise,ax,hb],hu.sub j7,dn⟩
end
section
variable {P:Program} {Q:Value->Prop} {mn:Bool} {x:gV} {cs rest:List Frame} {H:χ} {b f c:Frame} {t:Array Value} {k:List Item} {fn:Func}
theorem xD (hm:f.mode≠.run) (w:World):stepG P mn (Go.Conc.G f cs) w=unwind P mn f cs none w:=by
 obtain⟨a1,bk,cz,gm,tS,mw,vk⟩:=f;cases tS with
 | run=>exact absurd rfl hm
 | returning=>rfl
 | panicking ch=>rfl
theorem aO.back (γ:Seq x) (hm:f.mode=.returning) (hd:f.defers=[]) (ς:f.kind=.normal\/f.kind=.wrapped) (bY:P.funcs[f.fn]?=some fn)
  (h:π P (results fn f.tmps) H (λv H'=>aO P Q mn x (c.finish v) rest H') (λ_ _=>False)):aO P Q mn x f (c::rest) H:=by
 refine .own γ λw Χ=>?_;obtain⟨H',w',es',hu,h1⟩:=π.sound (P:=P) (G0:=H) (w0:=w) (results fn f.tmps) h (dJ.start Χ);rcases h1 with⟨v,dR,ζ⟩|⟨v,dR,dn⟩
 ·refine⟨_,_,w',seen P f.fn es',H',?_,hu.sub λe he=>mem_seen he,ζ⟩;rw[xD (by rw[hm];simp)];unfold unwind;simp only[hd,hm,bY,dR];unfold doReturn;rcases ς with ς|ς<;>simp[ς,GStep.after,Go.Conc.G]
 ·exact dn.elim
theorem aO.Hm (γ:Seq x) (hm:f.mode=.returning) (hd:f.defers=[]) (ς:f.kind=.deferred) (bY:P.funcs[f.fn]?=some fn)
  (h:π P (results fn f.tmps) H (λ_ H'=>aO P Q mn x (match c.mode with
   | .panicking ({recovered:=true,..}::Vd)=>(match Vd.dropWhile (!·.goexit) with|[]=>{c with mode:=.returning}|r=>{c with mode:=.panicking r})
   | _=>c) rest H') (λ_ _=>False)):aO P Q mn x f (c::rest) H:=by
 refine .own γ λw Χ=>?_;obtain⟨H',w',es',hu,h1⟩:=π.sound (P:=P) (G0:=H) (w0:=w) (results fn f.tmps) h (dJ.start Χ);rcases h1 with⟨v,dR,ζ⟩|⟨v,dR,dn⟩
 ·refine⟨_,_,w',seen P f.fn es',H',?_,hu.sub λe he=>mem_seen he,ζ⟩;rw[xD (by rw[hm];simp)];unfold unwind;simp only[hd,hm,bY,dR];unfold doReturn;simp only[ς,GStep.after];rw[Array.append_empty];rfl
 ·exact dn.elim
theorem aO.deferred (γ:Seq x) (hm:f.mode≠.run) {d:Deferred} {ds:List Deferred} (hd:f.defers=d::ds) (ε:∀r,d.target≠.collected r) (Η:d.target≠.nil) {g:FuncId} {args:Array Value}
  (κ:∀w,(invoke d.target d.args).runT P w #[]=(.ok (.enter g args) w,#[])) (h:aO P Q mn x (Frame.enter P g args .deferred) ({f with defers:=ds}::cs) H):aO P Q mn x f cs H:=by
 refine .still γ (λw=>?_) h;rw[xD hm];unfold unwind;obtain⟨xE,as9⟩:=d;simp only at ε Η κ;have key:callDeferred P {f with defers:=ds} cs none ⟨xE,as9⟩ w=.go (Go.Conc.G (Frame.enter P g args .deferred) ({f with defers:=ds}::cs)) w #[]:=by
  unfold callDeferred;simp only[κ w];cases xE<;>first|exact absurd rfl Η|(simp[GStep.after,seen,Go.Conc.G])
 cases xE with
 | collected r=>exact absurd rfl (ε r)
 | fn a b=>simp only[hd];exact key
 | nil=>exact absurd rfl Η
 | builtin a b c d=>simp only[hd];exact key
 | coroexit c=>simp only[hd];exact key
theorem aO.raised (γ:Seq x) {ch:List PanicEntry} (hm:f.mode=.panicking ch) (hd:f.defers=[]) (Ve:f.catches P=false) (h:aO P Q mn x (c.raise ch) rest H):aO P Q mn x f (c::rest) H:=by
 refine .still γ (λw=>?_) h;rw[xD (by rw[hm];simp)];unfold unwind;simp only[hd,hm,Ve];rfl
theorem aO.done (γ:Seq x) (Ν:∀y,x y->∀s,fZ (y.tok s)) (tT:∀y,x y->y.deaf=0) (hm:f.mode=.returning) (hd:f.defers=[]) (ς:f.kind=.normal) (bY:P.funcs[f.fn]?=some fn) (bq:P.inits.idxOf? f.fn=none) {v:Value}
  (κ:results fn f.tmps=pure v) (Vf:Q v):aO P Q true x f [] H:=by
 intro y Ο;refine Goes.stop (λκ=>by rw[show({y with G:=H}:aX).rel=y.rel from rfl,γ.rel y Ο] at κ;cases κ) (.inl ⟨rfl,⟨rfl,rfl⟩,Ν y Ο,tT y Ο,λw Χ=>⟨v,#[],?_,λe he=>by simp at he,Vf⟩⟩);rw[xD (by rw[hm];simp)];unfold unwind;simp only[hd,hm,bY,κ];have:(pure v:Sem Value).runT P w #[]=(.ok v w,#[]):=rfl;simp only[this];unfold doReturn;simp[ς,GStep.after,seen,bq]
end
end Go.TL
namespace Go.TL
open Go.Conc
inductive η where
 | z (v:Value)
 | ab (cells:List η)
 | sl (ex:Bool) (k:Nat) (l:List η)
 | aV (l:List η)
 | bw (l:List η)
 | an (id n i j:Nat)
 | ms (id n i len:Nat)
 | fn (f:Fn) (first captured:List η)
 | fS (t:TypeId) (a:η)
 | mp (id:Nat)
 | it (id:Nat)
 | cp
 deriving Inhabited
def η.cells:η->List η
 | .aV l=>l
 | a=>[a]
inductive Row where
 | cells (t:TypeId) (k:Nat) (l:List η)
 | map (es:List (η×η))
 | iter (m:Nat) (left:List (η×η)) (cur:Option (η×η))
 | dead
 deriving Inhabited
def Row.hf (r:Row) (n:Nat):Prop:=match r with|.cells _ _ l=>n<l.length|_=>True
abbrev aU:=List (Option (Nat×Nat))
abbrev aH:=Nat->Nat->Option Value
inductive av (S:aH) (B:aU) (σ:List Row):η->Value->Prop where
 | z (v:Value):av S B σ (.z v) v
 | ab {cells:List η} (b o:Nat) (w:Nat->Value):(∀(j:Nat) (a:η),cells[j]?=some a->S b (o+j)=some (w j))->(∀(j:Nat) (a:η),cells[j]?=some a->av S B σ a (w j))->av S B σ (.ab cells) (.pointer (some ⟨b,o,none⟩))
 | iK {ex:Bool} {k:Nat} (base:Option Addr) (cap:Nat):(ex=true->cap=0)->av S B σ (.sl ex k []) (.slice base 0 cap)
 | sl {ex:Bool} {k:Nat} {l:List η} (b o cap:Nat) (w:Nat->Nat->Value):(ex=true->cap=l.length)->l.length<=cap->(∀(i:Nat) (e:η),l[i]?=some e->e.cells.length=k)->
   (∀(i:Nat) (e:η),l[i]?=some e->∀(j:Nat) (c:η),e.cells[j]?=some c->S b (o+i*k+j)=some (w i j))->(∀(i:Nat) (e:η),l[i]?=some e->∀(j:Nat) (c:η),e.cells[j]?=some c->av S B σ c (w i j))->av S B σ (.sl ex k l) (.slice (some ⟨b,o,none⟩) l.length cap)
 | aV {l:List η} (vs:Array Value):l.length=vs.size->(∀(i:Nat) (a:η) (v:Value),l[i]?=some a->vs[i]?=some v->av S B σ a v)->av S B σ (.aV l) (.agg vs)
 | bw {l:List η} (vs:Array Value):l.length=vs.size->(∀(i:Nat) (a:η) (v:Value),l[i]?=some a->vs[i]?=some v->av S B σ a v)->av S B σ (.bw l) (.tuple vs)
 | an {id n i j k:Nat} {t:TypeId} {l:List η} {b N:Nat}:σ[id]?=some (.cells t k l)->l.length=n->B[id]?=some (some (b,N))->av S B σ (.an id n i j) (.pointer (some ⟨b,i*k+j,none⟩))
 | jO {id n i j:Nat} {r:Row} (v:Value):σ[id]?=some r->r.hf n->av S B σ (.an id n i j) v
 | ms {id n i len:Nat} {t:TypeId} {k:Nat} {l:List η} {bo:Option (Nat×Nat)} {base:Option Addr} (cap:Nat):σ[id]?=some (.cells t k l)->l.length=n->B[id]?=some bo->i+len<=n->len<=cap->
   (cap=0\/∃b N,bo=some (b,N)/\base=some ⟨b,i*k,none⟩/\(i+cap)*k<=N)->av S B σ (.ms id n i len) (.slice base len cap)
 | jg {id n i len:Nat} {r:Row} (v:Value):σ[id]?=some r->r.hf n->av S B σ (.ms id n i len) v
 | fn {f:Fn} {dc cs:List η} (vs ws:Array Value):dc.length=vs.size->cs.length=ws.size->(∀(i:Nat) (a:η) (v:Value),dc[i]?=some a->vs[i]?=some v->av S B σ a v)->(∀(i:Nat) (a:η) (v:Value),cs[i]?=some a->ws[i]?=some v->av S B σ a v)->av S B σ (.fn f dc cs) (.func f vs ws)
 | fS {t:TypeId} {a:η} (v:Value):av S B σ a v->av S B σ (.fS t a) (.iface t v)
 | mp {id:Nat} {es:List (η×η)} {b N:Nat}:σ[id]?=some (.map es)->B[id]?=some (some (b,N))->av S B σ (.mp id) (.map (some b))
 | lT {id:Nat} (v:Value):σ[id]?=some .dead->av S B σ (.mp id) v
 | it {id m:Nat} {left:List (η×η)} {cur:Option (η×η)} {b N:Nat}:σ[id]?=some (.iter m left cur)->B[id]?=some (some (b,N))->av S B σ (.it id) (.pointer (some ⟨b,0,none⟩))
 | ns {id:Nat} (v:Value):σ[id]?=some .dead->av S B σ (.it id) v
 | cp (v:Value):av S B σ .cp v
def Row.to (r r':Row) (b Ω:Option (Option (Nat×Nat))):Prop:=
 match r with
 | .cells t k l=>(∃d',r'=.cells t k d'/\d'.length=l.length/\Ω=b)\/∀n,n<=l.length->r'.hf n
 | .map _=>(∃es',r'=.map es'/\Ω=b)\/r'=.dead
 | .iter m _ _=>(∃Hn Ho,r'=.iter m Hn Ho/\Ω=b)\/r'=.dead
 | .dead=>r'=.dead
structure b' (S aA:aH) (B B':aU) (σ σ':List Row):Prop where
 di:∀b o v,S b o=some v->aA b o=some v
 rows:∀(id:Nat) (r:Row),σ[id]?=some r->∃r':Row,σ'[id]?=some r'/\r.to r' B[id]? B'[id]?
theorem Row.tU (r:Row) (b:Option (Option (Nat×Nat))):r.to r b b:=by
 cases r with
 | cells t k l=>exact .inl ⟨l,rfl,rfl,rfl⟩
 | map es=>exact .inl ⟨es,rfl,rfl⟩
 | iter m l c=>exact .inl ⟨l,c,rfl,rfl⟩
 | dead=>rfl
theorem b'.refl (S:aH) (B:aU) (σ:List Row):b' S S B B σ σ:=⟨λ_ _ _ h=>h,λ_ r h=>⟨r,h,r.tU _⟩⟩
theorem Row.Hp {r r':Row} {b Ω:Option (Option (Nat×Nat))} {n:Nat} (h:r.to r' b Ω) (Η:r.hf n):r'.hf n:=by
 cases r with
 | cells t k l=>
  rcases h with⟨d',rfl,I,_⟩|h
  ·simp only[Row.hf] at Η ⊢;omega
  ·exact h n (Nat.le_of_lt Η)
 | map es=>rcases h with⟨es',rfl,_⟩|rfl<;>trivial
 | iter m l c=>rcases h with⟨d',c',rfl,_⟩|rfl<;>trivial
 | dead=>cases h;trivial
theorem Row.Vg {r r' CY:Row} {b Ω M9:Option (Option (Nat×Nat))} (h:r.to r' b Ω) (k:r'.to CY Ω M9):r.to CY b M9:=by
 cases r with
 | cells t e l=>
  rcases h with⟨d',rfl,I,rfl⟩|h
  ·rcases k with⟨Vh,rfl,U,rfl⟩|k
   ·exact .inl ⟨Vh,rfl,U.trans I,rfl⟩
   ·exact .inr λn Η=>k n R
  ·exact .inr λn Η=>Row.Hp k (h n Η)
 | map es=>
  rcases h with⟨es',rfl,rfl⟩|rfl
  ·exact k
  ·cases k;exact .inr rfl
 | iter m l c=>
  rcases h with⟨d',c',rfl,rfl⟩|rfl
  ·exact k
  ·cases k;exact .inr rfl
 | dead=>cases h;exact k
theorem b'.trans {S aA zM:aH} {B B' zN:aU} {σ σ' zO:List Row} (h:b' S aA B B' σ σ') (k:b' aA zM B' zN σ' zO):b' S zM B zN σ zO:=
 ⟨λb o v x=>k.di b o v (h.di b o v x),λid r κ=>by
  obtain⟨r',I,U⟩:=h.rows id r κ;obtain⟨CY,ξ,Κ⟩:=k.rows id r' I;exact⟨CY,ξ,Row.Vg U Κ⟩⟩
theorem av.later {S aA:aH} {B B':aU} {σ σ':List Row} (υ:b' S aA B B' σ σ') {a:η} {v:Value} (h:av S B σ a v):av aA B' σ' a v:=by
 induction h with
 | z v=>exact .z v
 | ab b o w I _ Β=>exact .ab b o w (λj a δ=>υ.di _ _ _ (I j a δ)) Β
 | iK base cap h=>exact .iK base cap h
 | sl b o cap w I U ξ Κ _ Β=>exact .sl b o cap w I U ξ (λi e hi j c δ=>υ.di _ _ _ (Κ i e hi j c δ)) Β
 | aV vs I _ Β=>exact .aV vs I Β
 | bw vs I _ Β=>exact .bw vs I Β
 | an I U ξ=>
  obtain⟨r',Δ,Γ⟩:=υ.rows _ _ I;rcases Γ with⟨d',rfl,a0,cG⟩|Γ
  ·exact .an Δ (a0.trans U) (by rw[cG];exact ξ)
  ·exact .jO _ Δ (Γ _ R)
 | jO v I U=>
  obtain⟨r',Δ,Γ⟩:=υ.rows _ _ I;exact .jO _ Δ (Row.Hp Γ U)
 | ms cap I U ξ Κ aE bd=>
  obtain⟨r',Δ,Γ⟩:=υ.rows _ _ I;rcases Γ with⟨d',rfl,a0,cG⟩|Γ
  ·exact .ms cap Δ (a0.trans U) (by rw[cG];exact ξ) Κ aE bd
  ·exact .jg _ Δ (Γ _ R)
 | jg v I U=>
  obtain⟨r',Δ,Γ⟩:=υ.rows _ _ I;exact .jg _ Δ (Row.Hp Γ U)
 | fn vs ws I U _ _ sA mJ=>exact .fn vs ws I U sA mJ
 | fS v _ Β=>exact .fS v Β
 | mp I U=>
  obtain⟨r',Δ,Γ⟩:=υ.rows _ _ I;rcases Γ with⟨es',rfl,cG⟩|rfl
  ·exact .mp Δ (by rw[cG];exact U)
  ·exact .lT _ Δ
 | lT v I=>
  obtain⟨r',Δ,Γ⟩:=υ.rows _ _ I;cases Γ;exact .lT _ Δ
 | it I U=>
  obtain⟨r',Δ,Γ⟩:=υ.rows _ _ I;rcases Γ with⟨d',c',rfl,cG⟩|rfl
  ·exact .it Δ (by rw[cG];exact U)
  ·exact .ns _ Δ
 | ns v I=>
  obtain⟨r',Δ,Γ⟩:=υ.rows _ _ I;cases Γ;exact .ns _ Δ
 | cp v=>exact .cp v
end Go.TL
