import Derived.Test.YtlabjopijpkiaaaGreatDAE
set_option maxHeartbeats 16000000
set_option maxRecDepth 20000
set_option linter.unusedSectionVars false
set_option linter.unusedSimpArgs false
set_option linter.unusedVariables false
namespace Go.TL
open Go.Conc
open Go.ConcM (OsLater)
open Go.ConcN (sumTo upd sumTo_upd upd_ne upd_same sumTo_congr le_sumTo)
theorem Sn (sp:Spec):cJ (aN.new sp)=0:=by simp[cJ,aN.new]
theorem So (sp:Spec):mwd (aN.new sp)=0:=by simp[mwd,aN.new]
section
variable {P:Program} {Q:Value->Prop} {bl:World} {c c':c0} {gs:Array Goroutine} {w w':World} {t:Trace} {i:Nat} {g g':Goroutine} {es:Array Event}
variable {f:Bool×Goroutine×aW->ga (Bool×Goroutine×aW)}
theorem Inv.seen (h:Inv P Q bl c gs w t) (Ο:gs[i]?=some g)
  (mem:gX c'.H c'.aG c'.O bl w) (hold:h8 c'.H c'.aG c'.O bl.heap.size) (bS:iu c'.H c'.aG c'.tok c'.O c'.bx c'.deaf w.heap.size t)
  (bh:eR gs.size c'.tok c'.spec c'.view c'.rel c'.O c'.bx c'.home) (eA:wB c'.H c'.tok c'.O) (ea:uM gs.size c'.tok c'.rel c'.bx c'.home c'.dw t) (gd:wC c'.aG c'.tok c'.O c'.rel c'.dw t)
  (Fx:Rec P Q c' i g) (U:∀j,j≠i->c'.x j=c.x j/\c'.T j=c.T j) (cK:∀s o,c.O s=some o->c'.O s=some o):Inv P Q bl c' gs w t:=by
 refine⟨h.pos,mem,hold,bS,bh,eA,ea,gd,λj b hb=>?_⟩;by_cases e:j=i
 ·subst e;rw[Ο] at hb;cases hb;exact Fx
 ·obtain⟨cP,I,R⟩:=h.uO j b hb;obtain⟨Γ,Θ⟩:=U j e;have Ν:c'.tok j=c.tok j:=congrArg aW.tok Γ;refine⟨cP,by rw[Γ,Θ];exact I,R.imp id λ⟨a1,a2,s,o,ck,fY,hA⟩=>⟨a1,a2,s,o,cK s o ck,by rw[Ν];exact fY,by rw[Ν];exact hA⟩⟩
theorem Inv.Sp (h:Inv P Q bl c gs w t) (Ο:gs[i]?=some g) {b:Nat} {cs:Array Value} {ty:TypeId} (hb:c.aG i b=some (cs,ty)) {de:aW}
  (hy:de={c.x i with aG:=upd (c.aG i) b none,G:=⟨λΨ o=>if Ψ=b then(cs[o]?).map (·,true) else(c.H (.inl i)).aJ Ψ o,λΨ=>if Ψ=b then some (ty,cs.size) else(c.H (.inl i)).row Ψ,(c.H (.inl i)).obj⟩}) (bm:lz P Q f (i==0) g de):BL P Q bl c gs w t i f:=by
 let G':π:=⟨λΨ o=>if Ψ=b then(cs[o]?).map (·,true) else(c.H (.inl i)).aJ Ψ o,λΨ=>if Ψ=b then some (ty,cs.size) else(c.H (.inl i)).row Ψ,(c.H (.inl i)).obj⟩;obtain⟨f1,f2,f3⟩:=h.hold.fresh i b _ hb;have Lf:=h.mem.l4 i b cs ty hb;have BW:∀Ψ o,Ψ≠b->G'.aJ Ψ o=(c.H (.inl i)).aJ Ψ o:=λΨ o e=>by simp[G',e]
 have Sq:∀o,G'.aJ b o=(cs[o]?).map (·,true):=λo=>by simp[G']
 have Lg:∀Ψ o,Ψ≠b->(G'.has Ψ o↔(c.H (.inl i)).has Ψ o):=λΨ o e=>by unfold π.has;rw[BW Ψ o e]
 have Lh:∀Ψ o,Ψ≠b->(G'.owns Ψ o↔(c.H (.inl i)).owns Ψ o):=λΨ o e=>by unfold π.owns;rw[BW Ψ o e]
 have Sr:∀Ψ,G'.e7 Ψ↔(c.H (.inl i)).e7 Ψ:=λΨ=>Iff.rfl
 have Li:∀Ψ,Ψ≠b->(c.H (.inl i)).off Ψ->G'.off Ψ:=λΨ e Α=>⟨λo aX=>Α.1 o ((Lg Ψ o e).1 aX),Α.2⟩
 let c':c0:={c with H:=bL c.H (.inl i) G',aG:=upd c.aG i (upd (c.aG i) b none),T:=upd c.T i (f (i==0,g,de))}
 have fI:∀j Ψ v,upd c.aG i (upd (c.aG i) b none) j Ψ=some v->c.aG j Ψ=some v/\Ψ≠b:=λj Ψ v hv=>by
  by_cases e:j=i
  ·subst e;rw[upd_same] at hv;by_cases aH:Ψ=b
   ·subst aH;rw[upd_same] at hv;cases hv
   ·rw[upd_ne _ _ aH] at hv;exact⟨hv,aH⟩
  ·rw[upd_ne _ _ e] at hv;exact⟨hv,λaH=>by rw[aH,f3 j e] at hv;cases hv⟩
 have Ss:∀s o Ψ,c.O s=some o->ep s o.toSpec Ψ->Ψ≠b:=λs o Ψ μ dF e=>by
  have:=(h.hold.kr s o Ψ μ dF).2.2 i;rw[e,hb] at this;cases this
 have ap:∀k,k≠.inl i->Apart G' (c.H k):=λk ψ=>by
  have a:=h.hold.apart _ _ (Ne.symm ψ);refine⟨λΨ o x y=>?_,λΨ o x y=>?_,λΨ x y=>a.obj Ψ x y⟩
  ·by_cases e:Ψ=b
   ·subst e;exact(f2 k).1 o y
   ·exact a.aJ Ψ o ((Lh Ψ o e).1 x) y
  ·by_cases e:Ψ=b
   ·subst e;exact(f2 k).1 o ⟨_,x.choose_spec⟩
   ·exact a.qv Ψ o x ((Lg Ψ o e).1 y)
 have nv:c'.x i=de:=by rw[hy];simp[c',G',c0.x,upd_same]
 refine⟨c',h.seen (c':=c') Ο ⟨λk=>?_,λj Ψ cs' jv hv=>h.mem.l4 j Ψ cs' jv (fI j Ψ _ hv).1,h.mem.fH,h.mem.keep⟩
  ⟨λk l gI=>?_,λk Ψ o Α=>?_,λk Ψ Α=>?_,λj Ψ v hv=>?_,λs o Ψ μ dF=>?_,h.hold.kE,h.hold.po,λΨ dF=>?_⟩ ⟨h.bS.race,h.bS.low,h.bS.norel,λk=>?_,λj Ψ v hv=>h.bS.oo j Ψ v (fI j Ψ v hv).1,h.bS.cont,h.bS.hears⟩ h.bh (h.eA.yQ λΨ=>iv c.H i G' Ψ) h.ea
  ⟨h.gd.iO,λj Ψ v hv=>h.gd.uN j Ψ v (fI j Ψ v hv).1⟩ ⟨g,?_,.inl rfl⟩ (λj δ=>⟨?_,upd_ne _ _ δ⟩) λ_ _ a=>a,_,rfl⟩
 ·show Fits (bL c.H (.inl i) G' k) w;by_cases e:k=.inl i
  ·subst e;rw[dC];have e':=h.mem.fit (.inl i);refine⟨λΨ o v p ε=>?_,λΨ t' iL ι=>?_,e'.obj⟩
   ·by_cases aH:Ψ=b
    ·subst aH;rw[Sq] at ε;cases U:cs[o]? with
     | none=>rw[U] at ε;cases ε
     | some fc=>rw[U] at ε;cases ε;exact nj Lf U
    ·rw[BW Ψ o aH] at ε;exact e'.aJ Ψ o v p ε
   ·by_cases aH:Ψ=b
    ·subst aH;simp[G'] at ι;obtain⟨rfl,rfl⟩:=ι;exact⟨cs,Lf,rfl⟩
    ·simp[G',aH] at ι;exact e'.row Ψ t' iL ι
  ·rw[bM _ _ e];exact h.mem.fit k
 ·show Apart (bL c.H (.inl i) G' k) (bL c.H (.inl i) G' l);by_cases e:k=.inl i
  ·subst e;rw[dC,bM _ _ (Ne.symm gI)];exact ap l (Ne.symm gI)
  ·rw[bM _ _ e];by_cases aH:l=.inl i
   ·subst aH;rw[dC];exact(ap k e).symm
   ·rw[bM _ _ aH];exact h.hold.apart k l gI
 ·replace Α:(bL c.H (.inl i) G' k).owns Ψ o:=Α
  by_cases e:k=.inl i
  ·subst e;rw[dC] at Α;by_cases aH:Ψ=b
   ·subst aH;exact f1
   ·exact h.hold.high _ _ _ ((Lh Ψ o aH).1 Α)
  ·rw[bM _ _ e] at Α;exact h.hold.high _ _ _ Α
 ·replace Α:(bL c.H (.inl i) G' k).e7 Ψ:=Α
  by_cases e:k=.inl i
  ·subst e;rw[dC] at Α;exact h.hold.ns _ _ ((Sr Ψ).1 Α)
  ·rw[bM _ _ e] at Α;exact h.hold.ns _ _ Α
 ·obtain⟨ly,bC⟩:=fI j Ψ v hv;obtain⟨a1,a2,ck⟩:=h.hold.fresh j Ψ v ly;refine⟨a1,λk=>?_,λbI bk=>?_⟩
  ·show(bL c.H (.inl i) G' k).off Ψ;by_cases e:k=.inl i
   ·subst e;rw[dC];exact Li Ψ bC (a2 _)
   ·rw[bM _ _ e];exact a2 k
  ·cases U:c'.aG bI Ψ with
   | none=>rfl
   | some fc=>have:=(fI bI Ψ fc U).1;rw[ck bI bk] at this;cases this
 ·obtain⟨a1,a2,ck⟩:=h.hold.kr s o Ψ μ dF;have bC:=Ss s o Ψ μ dF;refine⟨a1,λk=>?_,λbI=>?_⟩
  ·show(bL c.H (.inl i) G' k).off Ψ;by_cases e:k=.inl i
   ·subst e;rw[dC];exact Li Ψ bC (a2 _)
   ·rw[bM _ _ e];exact a2 k
  ·cases U:c'.aG bI Ψ with
   | none=>rfl
   | some fc=>have:=(fI bI Ψ fc U).1;rw[ck bI] at this;cases this
 ·show bL c.H (.inl i) G' (.inr Ψ)=π.empty;rw[iv];exact h.hold.eA Ψ dF
 ·show dm t (jx c.tok c.O t k) (bL c.H (.inl i) G' k);by_cases e:k=.inl i
  ·subst e;rw[dC];have ς:=h.bS.perms (.inl i);refine⟨λΨ o v p ε k a κ υ hw=>?_,ς.obj⟩;by_cases aH:Ψ=b
   ·exfalso;refine h.bS.oo i b _ hb k a κ ?_;rw[υ];exact aH
   ·rw[BW Ψ o aH] at ε;exact ς.aJ Ψ o v p ε k a κ υ hw
  ·rw[bM _ _ e];exact h.bS.perms k
 ·rw[nv];show jw P Q (upd c.T i (f (i==0,g,de)) i) _ _ _;rw[upd_same];exact bm
 ·have fT:(Sum.inl j:cy)≠.inl i:=λx=>δ (by cases x;rfl);simp[c',c0.x,upd_ne _ _ δ,bM _ _ fT]
theorem Inv.less (h:Inv P Q bl c gs w t) (Ο:gs[i]?=some g) {G':π} (μ:Sub G' (c.H (.inl i))) (bm:lz P Q f (i==0) g {c.x i with G:=G'}):BL P Q bl c gs w t i f:=by
 let de:aW:={c.x i with G:=G'}
 let c':c0:={c with H:=bL c.H (.inl i) G',T:=upd c.T i (f (i==0,g,de))}
 have nv:c'.x i=de:=by simp[c',de,c0.x]
 have St:upd c.aG i (c.aG i)=c.aG:=BJ rfl
 have hm:=h.mem.own h.hold i (fv.refl _ _ w) (μ.fits (h.mem.fit (.inl i))) (h.mem.l4 i) rfl
 have aX:=h.hold.own h.mem h.mem.keep.size i (G':=G') (V':=c.aG i) ⟨λb o v p ε=>.inr (let ⟨eQ,ao,ς⟩:=μ.aJ b o v p ε;⟨v,eQ,ao,ς⟩),λb hb=>.inr (μ.e7 hb)⟩ (λb x U=>.inl U);rw[St] at hm aX;refine⟨c',h.seen (c':=c') Ο hm aX ⟨h.bS.race,h.bS.low,h.bS.norel,λk=>?_,h.bS.oo,h.bS.cont,h.bS.hears⟩ h.bh (h.eA.yQ λΨ=>iv c.H i G' Ψ) h.ea h.gd ⟨g,?_,.inl rfl⟩ (λj δ=>⟨?_,upd_ne _ _ δ⟩) λ_ _ a=>a,_,rfl⟩
 ·show dm t (jx c.tok c.O t k) (bL c.H (.inl i) G' k);by_cases e:k=.inl i
  ·subst e;rw[dC];exact(h.bS.perms (.inl i)).sub μ
  ·rw[bM _ _ e];exact h.bS.perms k
 ·rw[nv];show jw P Q (upd c.T i (f (i==0,g,de)) i) _ _ _;rw[upd_same];exact bm
 ·have fT:(Sum.inl j:cy)≠.inl i:=λx=>δ (by cases x;rfl);simp[c',c0.x,bM _ _ fT]
theorem Inv.group (h:Inv P Q bl c gs w t) (Ο:gs[i]?=some g) {s:Nat} {sp:Spec} {ty:TypeId} {G' E:π} (μ:c.aG i s=some (#[.int .u64 0,.int .u32 0],ty)) (fr:∀m,sp.aU=some m->m≠s/\∃jv,c.aG i m=some (#[.int .i32 0,.int .u32 0],jv))
  (ee:c.rel i=false) (b2:Split (c.H (.inl i)) G' E) (dy:sp.aU≠none->sp.bb [] E) {de:aW}
  (hy:de={c.x i with G:=G',aG:=λb=>if b=s\/sp.aU=some b then none else c.aG i b,tok:=upd (c.tok i) s (.par 0 0 .add),spec:=upd (c.spec i) s (some sp),view:=upd (c.view i) s none}) (bm:lz P Q f (i==0) g de):BL P Q bl c gs w t i f:=by
 have a4:i<gs.size:=mb Ο
 have qM:c.O s=none:=by
  cases U:c.O s with
  | none=>rfl
  | some o=>have:=(h.hold.kr s o s U (.inl rfl)).2.2 i;rw[μ] at this;cases this
 have iV:∀b,ep s sp b->∃v,c.aG i b=some v:=λb hb=>by
  rcases hb with rfl|hb
  ·exact⟨_,μ⟩
  ·obtain⟨_,jv,I⟩:=fr b hb;exact⟨_,I⟩
 have pw:∀r o b,c.O r=some o->ep r o.toSpec b->¬ep s sp b:=λr o b ι hb dF=>by
  obtain⟨v,hv⟩:=iV b dF;have:=(h.hold.kr r o b ι hb).2.2 i;rw[hv] at this;cases this
 have kG:∀r o,c.O r=some o->r≠s:=λr o ι e=>by rw[e,qM] at ι;cases ι
 let V':Nat->Option (Array Value×TypeId):=λb=>if b=s\/sp.aU=some b then none else c.aG i b
 let O':=upd c.O s (some (aN.new sp))
 have fI:∀j b v,upd c.aG i V' j b=some v->c.aG j b=some v/\¬ep s sp b:=λj b v hv=>by
  by_cases e:j=i
  ·subst e;rw[upd_same] at hv;by_cases aH:b=s\/sp.aU=some b
   ·simp[V',aH] at hv
   ·simp[V',aH] at hv;exact⟨hv,aH⟩
  ·rw[upd_ne _ _ e] at hv;refine⟨hv,λhb=>?_⟩;obtain⟨fc,ly⟩:=iV b hb;have:=(h.hold.fresh i b fc ly).2.2 j e;rw[this] at hv;cases hv
 have Lj:∀j b,c.aG j b=none->upd c.aG i V' j b=none:=λj b e=>by
  cases U:upd c.aG i V' j b with
  | none=>rfl
  | some v=>have:=(fI j b v U).1;rw[e] at this;cases this
 have Su:∀j b,ep s sp b->upd c.aG i V' j b=none:=λj b hb=>by
  cases U:upd c.aG i V' j b with
  | none=>rfl
  | some v=>exact absurd hb (fI j b v U).2
 have gZ:∀r q,O' r=some q->(r=s/\q=aN.new sp)\/(r≠s/\c.O r=some q):=λr q Χ=>by
  by_cases e:r=s
  ·subst e;rw[show O' r=some (aN.new sp) from upd_same ..] at Χ;cases Χ;exact .inl ⟨rfl,rfl⟩
  ·rw[show O' r=c.O r from upd_ne _ _ e] at Χ;exact .inr ⟨e,Χ⟩
 have holdA:h8 c.H (upd c.aG i V') O' bl.heap.size:=by
  refine⟨h.hold.apart,h.hold.high,h.hold.ns,λj b v hv=>?_,λr o b ι hb=>?_,λr r' o o' b ι fh hb dF=>?_,λr o m ι hm=>?_,λb hb=>h.hold.eA b λr o ι hi=>hb r o (by rw[show O' r=c.O r from upd_ne _ _ (kG r o ι)];exact ι) hi⟩
  ·obtain⟨a1,a2,ck⟩:=h.hold.fresh j b v (fI j b v hv).1;exact⟨a1,a2,λbI bk=>Lj bI b (ck bI bk)⟩
  ·rcases gZ r o ι with⟨rfl,rfl⟩|⟨e,fh⟩
   ·obtain⟨v,hv⟩:=iV b hb;obtain⟨a1,a2,_⟩:=h.hold.fresh i b v hv;exact⟨a1,a2,λj=>Su j b hb⟩
   ·obtain⟨a1,a2,ck⟩:=h.hold.kr r o b fh hb;exact⟨a1,a2,λj=>Lj j b (ck j)⟩
  ·rcases gZ r o ι with⟨rfl,rfl⟩|⟨e,oA⟩<;>rcases gZ r' o' fh with⟨rfl,rfl⟩|⟨aH,qN⟩
   ·rfl
   ·exact absurd hb (pw r' o' b qN dF)
   ·exact absurd dF (pw r o b oA hb)
   ·exact h.hold.kE r r' o o' b oA qN hb dF
  ·rcases gZ r o ι with⟨rfl,rfl⟩|⟨e,fh⟩
   ·exact(fr m hm).1
   ·exact h.hold.po r o m fh hm
 have Lk:O' s=some (aN.new sp):=upd_same ..
 have wN:c.H (.inr s)=π.empty:=h.hold.eA s λr o ι hi=>pw r o s ι hi (.inl rfl)
 have oy:∀r q,O' r=some q->At r q w:=λr q Χ=>by
  rcases gZ r q Χ with⟨rfl,rfl⟩|⟨_,b'⟩
  ·refine⟨⟨ty,?_⟩,λm hm=>let ⟨_,jv,hv⟩:=fr m hm;⟨jv,?_⟩⟩
   ·rw[Sn];exact h.mem.l4 i r _ _ μ
   ·rw[So];exact h.mem.l4 i m _ _ hv
  ·exact h.mem.fH _ _ b'
 obtain⟨bH,jC,iU,FH,kJ,FI,FJ,FK⟩:∃bH:cy->π,bH (.inl i)=G'/\(∀j,j≠i->bH (.inl j)=c.H (.inl j))/\(∀b,¬ep s sp b->bH (.inr b)=c.H (.inr b))/\(bH (.inr s)=π.empty/\∀m,sp.aU=some m->bH (.inr m)=E)/\
   h8 bH (upd c.aG i V') O' bl.heap.size/\gX bH (upd c.aG i V') O' bl w/\∀a,dm t (jx (b0 c.tok i s (.par 0 0 .add)) O' t a) (bH a):=by
  have wK:=h.bS.perms (.inl i)
  have Ll:∀a,(∀b,a=.inr b->¬ep s sp b)->dm t (jx (b0 c.tok i s (.par 0 0 .add)) O' t a) (c.H a):=λa κ=>by
   refine(h.bS.perms a).mono λk ψ=>?_;cases a with
   | inl j=>exact ψ
   | inr b=>
    refine ψ.imp id λψ r o ι hb j δ=>?_;rcases gZ r o ι with⟨rfl,rfl⟩|⟨e,fh⟩
    ·exact absurd hb (κ b rfl)
    ·rw[e0 _ (λx=>e x.2)] at δ;exact ψ r o fh hb j δ
  have Lm:gX c.H (upd c.aG i V') c.O bl w:=h.mem.wI λj b v hv=>(fI j b v hv).1
  have iR:(Sum.inl i:cy)≠.inr s:=η;cases hm:sp.aU with
  | none=>
   refine⟨bL (bL c.H (.inl i) G') (.inr s) π.empty,?_,λj δ=>?_,λb hb=>?_,⟨dC ..,λm e=>(by cases e)⟩,?_,Lm.two (b2.l.fits (h.mem.fit (.inl i))) (uJ w) oy,λa=>?_⟩
   ·rw[bM _ _ iR,dC]
   ·rw[bM _ _ η,bM _ _ (λe=>δ (by cases e;rfl))]
   ·have:(Sum.inr b:cy)≠.inr s:=λe=>hb (by cases e;exact .inl rfl);rw[bM _ _ this,iv]
   ·exact holdA.two iR b2.l.qE (Sub.empty _) (Apart.s8 _) ⟨λs o μ=>⟨o,μ,rfl⟩,λs o μ=>⟨o,μ,rfl⟩⟩ λx U=>by
     rcases U with e|e
     ·cases e;exact⟨s,_,Lk,.inl rfl⟩
     ·cases e
   ·by_cases Θ:a=.inr s
    ·subst Θ;rw[dC];exact dm.empty
    ·rw[bM _ _ Θ];by_cases Γ:a=.inl i
     ·subst Γ;rw[dC];exact wK.sub b2.l
     ·rw[bM _ _ Γ];refine Ll a λb e hb=>?_;subst e;rcases hb with rfl|hb
      ·exact Θ rfl
      ·rw[hm] at hb;cases hb
  | some m=>
   have uV:=(fr m hm).1
   have fT:(Sum.inl i:cy)≠.inr m:=η;refine⟨bL (bL c.H (.inl i) G') (.inr m) E,?_,λj δ=>?_,λb hb=>?_,⟨?_,λb1 e=>?_⟩,?_,Lm.two (b2.l.fits (h.mem.fit (.inl i))) (b2.r.fits (h.mem.fit (.inl i))) oy,λa=>?_⟩
   ·rw[bM _ _ fT,dC]
   ·rw[bM _ _ η,bM _ _ (λe=>δ (by cases e;rfl))]
   ·have:(Sum.inr b:cy)≠.inr m:=λe=>hb (by cases e;exact .inr hm);rw[bM _ _ this,iv]
   ·have:(Sum.inr s:cy)≠.inr m:=λe=>uV (by cases e;rfl);rw[bM _ _ this,iv];exact wN
   ·cases e;rw[dC]
   ·exact holdA.two fT b2.l.qE b2.r.qE b2.apart ⟨λs o μ=>⟨o,μ,rfl⟩,λs o μ=>⟨o,μ,rfl⟩⟩ λx U=>by
     rcases U with e|e
     ·cases e;exact⟨s,_,Lk,.inr hm⟩
     ·cases e
   ·by_cases Θ:a=.inr m
    ·subst Θ;rw[dC];refine(wK.sub b2.r).mono λk ψ=>.inr λr o ι hb j δ=>?_;rcases gZ r o ι with⟨rfl,rfl⟩|⟨e,fh⟩
     ·by_cases e:j=i
      ·subst e;exact ψ
      ·rw[rM _ e,h.bh.bare r qM j] at δ;exact absurd rfl δ
     ·exact absurd (.inr hm) (pw r o m fh hb)
    ·rw[bM _ _ Θ];by_cases Γ:a=.inl i
     ·subst Γ;rw[dC];exact wK.sub b2.l
     ·rw[bM _ _ Γ];by_cases bO:a=.inr s
      ·subst bO;rw[wN];exact dm.empty
      ·refine Ll a λb e hb=>?_;subst e;rcases hb with rfl|hb
       ·exact bO rfl
       ·rw[hm] at hb;cases hb;exact Θ rfl
 let c':c0:={c with H:=bH,aG:=upd c.aG i V',tok:=b0 c.tok i s (.par 0 0 .add),spec:=upd c.spec i (upd (c.spec i) s (some sp)),view:=upd c.view i (upd (c.view i) s none),O:=O',bx:=upd c.bx s i,T:=upd c.T i (f (i==0,g,de))}
 have nv:c'.x i=de:=by rw[hy];simp[c',V',c0.x,upd_same,uR,jC]
 have pt:∀j r,r≠s->b0 c.tok i s (.par 0 0 .add) j r=c.tok j r:=λj r ι=>e0 _ λx=>ι x.2
 have rK:∀j,j≠0->c.rel j=true->c.home j≠s:=λj ao δ e=>by
  obtain⟨op,a1,a2,_⟩:=h.ea.c1 j ao δ;have fg:=h.ea.dQ (c.dw j) j (by simp[Trace.g?,a1,a2]);obtain⟨k,m,g,ψ⟩:=h.bh.rH j ao fg;rw[e,h.bh.bare s qM j] at ψ;cases ψ
 refine⟨c',h.seen (c':=c') Ο FJ FI ⟨h.bS.race,h.bS.low,h.bS.norel,FK,λj b v hv=>h.bS.oo j b v (fI j b v hv).1,λr o b ι hb k a κ fe=>?_,h.bS.hears⟩ (h.bh.Sc qM a4 ee sp) ⟨λr q m Χ hm bA ia=>?_,λr q Χ bA=>?_⟩
  ⟨h.ea.dQ,h.ea.c1,λj ao δ bA=>?_,λj ao δ a b=>?_⟩ ⟨λr q m Χ hm p op ς κ=>?_,λj b v hv=>h.gd.uN j b v (fI j b v hv).1⟩ ⟨g,?_,.inl rfl⟩ (λj δ=>⟨?_,upd_ne _ _ δ⟩) (λr o ι=>?_),_,rfl⟩
 ·rcases gZ r o ι with⟨rfl,rfl⟩|⟨e,fh⟩
  ·obtain⟨v,hv⟩:=iV b hb;exact absurd fe (h.bS.oo i b v hv k a κ)
  ·have:=h.bS.cont r o b fh hb k a κ fe
   show _\/(_/\_=some (upd c.bx s i r));rw[upd_ne _ _ e];exact this
 ·rcases gZ r q Χ with⟨rfl,rfl⟩|⟨e,b'⟩
  ·show sp.bb [] (bH (.inr m));rw[kJ.2 m hm];exact dy (by have:sp.aU=some m:=hm;rw[this];simp)
  ·show q.bb q.L (bH (.inr m));rw[FH m (pw r q m b' (.inr hm))];exact h.eA.l7 r q m b' hm (λj iT p x=>bA j iT p (by show b0 c.tok i s _ j r=_;rw[pt j r e];exact x)) λj k L g x=>ia j k L g (by show b0 c.tok i s _ j r=_;rw[pt j r e];exact x)
 ·rcases gZ r q Χ with⟨rfl,rfl⟩|⟨e,b'⟩
  ·show lu sp.D [] (bH (.inr r));rw[kJ.1];rfl
  ·show lu q.D q.aj (bH (.inr r));rw[FH r (pw r q r b' (.inl rfl))];exact h.eA.l8 r q b' λj iT p x=>bA j iT p (by show b0 c.tok i s _ j r=_;rw[pt j r e];exact x)
 ·obtain⟨q,p,Χ⟩:=bA;have e:=rK j ao δ;have BX:c'.bx (c.home j)=c.bx (c.home j):=upd_ne _ _ e;show Knows t (c'.bx (c.home j)) (c.dw j);rw[BX];refine h.ea.c2 j ao δ ⟨q,p,?_⟩;have:b0 c.tok i s (.par 0 0 .add) (c'.bx (c.home j)) (c.home j)=.par q p .cq:=Χ
  rwa [pt _ _ e,BX] at this
 ·have e:=rK j ao δ
  have BX:c'.bx (c.home j)=c.bx (c.home j):=upd_ne _ _ e
  show Before t (c.dw j) (c.dw (c'.bx (c.home j)))
  have bP:c'.bx (c.home j)≠0:=a
  have Ψ:c.rel (c'.bx (c.home j))=true:=b;rw[BX] at bP Ψ ⊢;exact h.ea.c3 j ao δ bP Ψ
 ·rcases gZ r q Χ with⟨rfl,rfl⟩|⟨e,b'⟩
  ·obtain⟨v,hv⟩:=iV m (.inr hm);exact absurd κ (h.gd.uN i m v hv op (mem_of_getElem? ς))
  ·obtain⟨⟨k,mu,g,ν⟩,Ι⟩:=h.gd.iO r q m b' hm p op ς κ;exact⟨⟨k,mu,g,by show b0 c.tok i s _ _ r=_;rw[pt _ r e];exact ν⟩,Ι⟩
 ·rw[nv];show jw P Q (upd c.T i (f (i==0,g,de)) i) _ _ _;rw[upd_same];exact bm
 ·simp[c',c0.x,upd_ne _ _ δ,rM _ δ,iU j δ]
 ·show O' r=some o;rw[show O' r=c.O r from upd_ne _ _ (kG r o ι)];exact ι
theorem Inv.ghost (h:Inv P Q bl c gs w t) (Ο:gs[i]?=some g) (ψ:Fc (i==0) (lz P Q f) g (c.x i)):BL P Q bl c gs w t i f:=by
 rcases ψ with⟨G',I,R⟩|⟨b,cs,ty,I,R⟩|⟨s,sp,ty,G',E,I,ν,Ι,aB,bn,gO⟩
 ·exact h.less Ο I R
 ·exact h.Sp Ο I rfl R
 ·exact h.group Ο I ν Ι aB bn rfl gO
end
section
variable {P:Program} {Q:Value->Prop} {bl:World} {c c':c0} {gs:Array Goroutine} {w w':World} {t:Trace} {i:Nat} {g g':Goroutine} {es:Array Event}
theorem Inv.step (h:Inv P Q bl c gs w t) (Ο:gs[i]?=some g) (dR:g.status=.running):(∃v es,i=0/\stepG P true g w=.ended (.done v) w es/\∀sl w1,Good P (λv w'=>Q v/\fv (λ_ _=>False) (λ_=>False) bl w') (crowd gs w1 sl) (.done v) w (t++MemOp.ofEvents 0 g.frame.fn g.frame.place es))\/
  ∃f,c.T i=.node f/\(hP P Q bl c gs w t i f\/Fc (i==0) (lz P Q f) g (c.x i)):=by
 obtain⟨cP,ι,ε⟩:=h.uO i g Ο;rcases ε with rfl|⟨_,rfl,_⟩
 ·have main:Bs P (i==0) g (c.x i) Q->(∃v es,i=0/\stepG P true g w=.ended (.done v) w es/\∀sl w1,Good P (λv w'=>Q v/\fv (λ_ _=>False) (λ_=>False) bl w') (crowd gs w1 sl) (.done v) w (t++MemOp.ofEvents 0 g.frame.fn g.frame.place es)):=λμ=>by
   rcases μ with⟨ao,μ⟩|⟨_,μ⟩
   ·have e:i=0:=by simpa using ao
    subst e;obtain⟨v,es,I,R⟩:=h.KN Ο μ none w;refine⟨v,es,rfl,I,λsl w1=>?_⟩;obtain⟨fc,es',wO,hg⟩:=h.KN Ο μ sl w1;rw[I] at wO;cases wO;exact hg
   ·rw[μ.2.2.1] at dR;cases dR
  cases Η:c.T i with
  | leaf=>rw[Η] at ι;exact .inl (main ι.2)
  | node f=>
   have fh:=ι;rw[Η] at ι;rcases ι.2 with μ|ψ
   ·exact .inl (main μ)
   ·refine .inr ⟨f,rfl,?_⟩;rcases ψ with ψ|⟨FP,ψ⟩
    ·exact .inl (h.quits Ο ψ)
    ·rcases ψ with ψ|ψ|ψ|ψ|ψ|ψ|ψ|ψ|ψ|ψ
     ·exact .inl (h.Fi Ο ψ)
     ·exact .inl (h.RF Ο ψ)
     ·exact .inl (h.RG Ο ψ)
     ·exact .inl (h.atom Ο FP fh ψ)
     ·exact .inl (h.BN Ο ψ)
     ·exact .inl (h.FD Ο ψ)
     ·exact .inl (h.FE Ο ψ)
     ·exact .inl (h.BO Ο ψ)
     ·exact .inl (h.FO Ο ψ)
     ·exact .inr ψ
 ·cases dR
theorem Inv.Sv (h:Inv P Q bl c gs w t):∀g∈gs,Go.Conc.awake g:=λg Ο=>by
 obtain⟨j,δ⟩:=Array.mem_iff_getElem?.1 Ο;intro t' Ν;rcases h.stat δ with e|⟨_,e,_⟩|⟨e,_⟩<;>rw[e] at Ν<;>cases Ν
theorem Inv.comes:∀(L:List (ga (Bool×Goroutine×aW))) (k:Nat) (c:c0) (jA:List Nat) (gs:Array Goroutine) (w:World) (t:Trace) (sl:Option (Nat×Nat)),jA.map c.T=L->Ord jA gs.size->wD gs=k->Inv P Q bl c gs w t->Comes P Q bl (crowd gs w sl) t:=by
 intro L
 induction L using (mT.wf (B:=Bool×Goroutine×aW)).induction with
 | _ L FQ=>
  intro k
  induction k using Nat.strongRecOn with
  | _ k BY=>
   intro c jA gs w t sl av cK ψ h;subst av ψ;obtain⟨i,g,d,yZ,Ο,dR,cT⟩:=crowd_pick (P:=P) (w:=w) (sl:=sl) h.Sv h.awake;have c9:=h.at d;have a4:i<gs.size:=mb Ο;rcases c9.step Ο dR with⟨v,es,rfl,I,R⟩|⟨f,Η,FR⟩
   ·have ι:=runT_many_ended (sl:=yZ) Ο (by simpa using I);rw[ι] at cT;exact Comes.last cT (R sl w)
   ·rcases FR with FR|Sw
    ·obtain⟨c',qI,w',u,ι,fs,hQ⟩:=FR yZ;rw[ι] at cT;refine Comes.next cT ?_;rcases hQ with⟨cC,kk,qG⟩|⟨cC,kk,FT,qG⟩|⟨cC,qG,aI⟩
     ·exact FQ _ (by rw[qG];exact cK.one a4 Η kk) _ c' jA qI w' _ yZ rfl (by rw[cC];exact cK) rfl fs
     ·obtain⟨BH,Sx,Sy⟩:=cK.two a4 Η kk FT;exact FQ _ (by rw[qG];exact Sy) _ c' BH qI w' _ yZ rfl (by rw[cC];exact Sx) rfl fs
     ·exact BY _ aI c' jA qI w' _ yZ (by rw[qG]) (by rw[cC];exact cK) rfl fs
    ·
     obtain⟨c',fs,kk,qG⟩:=h.ghost (f:=f) Ο Sw;exact FQ _ (by rw[qG];exact cK.one a4 Η kk) _ c' jA gs w t sl rfl cK rfl fs
end
def π.md (w:World):π:=
 ⟨λb o=>match w.heap[b]? with|some (.cells c _ _)=>(c[o]?).map (·,false)|_=>none,
  λb=>match w.heap[b]? with|some (.cells c t dV)=>if dV=(0,0) then some (t,c.size) else none|_=>none,λ_=>none⟩
theorem π.Sz (w:World):Fits (π.md w) w:=by
 refine⟨λb o v p h=>?_,λb t n h=>?_,λb x h=>(by cases h)⟩
 ·simp only[π.md] at h;cases hb:w.heap[b]? with
  | none=>rw[hb] at h;cases h
  | some x=>
   rw[hb] at h;cases x with
   | cells c t dV=>
    simp only at h;cases ε:c[o]? with
    | none=>rw[ε] at h;cases h
    | some fc=>rw[ε] at h;cases h;exact nj hb ε
   | _=>cases h
 ·simp only[π.md] at h;cases hb:w.heap[b]? with
  | none=>rw[hb] at h;cases h
  | some x=>
   rw[hb] at h;cases x with
   | cells c t' dV=>
    simp only at h;split at h
    ·rename_i e;cases h;exact⟨c,by rw[e],rfl⟩
    ·cases h
   | _=>cases h
theorem π.SA (w:World) (b o:Nat):¬(π.md w).owns b o:=λ⟨v,h⟩=>by
 simp only[π.md] at h;cases hb:w.heap[b]? with
 | none=>rw[hb] at h;cases h
 | some x=>
  rw[hb] at h;cases x with
  | cells c t dV=>
   simp only at h;cases ε:c[o]? with
   | none=>rw[ε] at h;cases h
   | some fc=>rw[ε] at h;cases h
  | _=>cases h
def aW.start (w:World):aW:=⟨π.md w,λ_=>none,λ_=>.nil,λ_=>none,λ_=>none,0,false⟩
theorem Goes.comes {P:Program} {Q:Value->Prop} {g:Goroutine} {w:World} (h:Goes P Q true g (aW.start w)):Comes P Q w (solo g w) #[]:=by
 obtain⟨T,Η⟩:=h;let c:c0:={H:=bL (λ_=>π.empty) (.inl 0) (π.md w),aG:=λ_ _=>none,tok:=λ_ _=>.nil,spec:=λ_ _=>none,view:=λ_ _=>none,deaf:=λ_=>0,rel:=λ_=>false,T:=λ_=>T,O:=λ_=>none,bx:=λ_=>0,home:=λ_=>0,dw:=λ_=>0};have U:c.x 0=aW.start w:=by simp[c,c0.x,aW.start]
 have χ:∀k,k≠.inl 0->c.H k=π.empty:=λk ψ=>bM (λ_=>π.empty) (π.md w) ψ
 have oB:c.H (.inl 0)=π.md w:=dC (λ_=>π.empty) (.inl 0) (π.md w)
 have FU:∀k b o,¬(c.H k).owns b o:=λk b o Α=>by
  by_cases e:k=.inl 0
  ·subst e;rw[oB] at Α;exact π.SA w b o Α
  ·rw[χ k e] at Α;obtain⟨v,hv⟩:=Α;cases hv
 have Ln:∀k b,¬(c.H k).e7 b:=λk b Α=>by
  by_cases e:k=.inl 0
  ·subst e;rw[oB] at Α;obtain⟨v,hv⟩:=Α;cases hv
  ·rw[χ k e] at Α;obtain⟨v,hv⟩:=Α;cases hv
 have eΩ:∀i:Nat,(#[]:Trace)[i]?=none:=λi=>η
 have cC:(#[g]:Array Goroutine).size=1:=rfl
 have inv:Inv P Q w c #[g] w #[]:=by
  refine⟨η,⟨λk=>?_,λj b c t hb=>(by cases hb),λs o μ=>(by cases μ),fv.refl _ _ _⟩,
   ⟨λk l _=>⟨λb o Α=>absurd Α (FU k b o),λb o Α=>absurd Α (FU l b o),λb Α=>absurd Α (Ln k b)⟩,λk b o Α=>absurd Α (FU k b o),λk b Α=>absurd Α (Ln k b),λj b v hv=>(by cases hv),λs o b μ=>(by cases μ),λs bq o o' b μ=>(by cases μ),λs o m μ=>(by cases μ),λb _=>χ _ η⟩,
   ⟨λsaid ⟨i,j,_,⟨a,b,κ,_⟩,_⟩=>(by simp[Trace.act?] at κ),λop Κ=>(by simp at Κ),λop Κ=>(by simp at Κ),λk=>⟨λb o v p _ i a κ=>(by simp[touchAt,Trace.act?] at κ),λb _ i a κ=>(by simp[touchAt,Trace.act?] at κ)⟩,λj b v hv=>(by cases hv),λs o b μ=>(by cases μ),λj=>rfl⟩,
   ?_,⟨λs o m μ=>(by cases μ),λs o μ=>(by cases μ)⟩,⟨λk a ψ=>(by simp[Trace.g?] at ψ),λj _ δ=>(by cases δ),λj _ δ=>(by cases δ),λj _ δ=>(by cases δ)⟩,⟨λs o m μ=>(by cases μ),λj b v hv=>(by cases hv)⟩,λj b hb=>?_⟩
  ·by_cases e:k=.inl 0
   ·subst e;rw[oB];exact π.Sz w
   ·rw[χ k e];exact uJ w
  ·exact⟨λs o μ=>(by cases μ),λs _ j=>rfl,λj s _=>rfl,λj s sp μ=>(by cases μ),λj s φ o μ=>(by cases μ),λj s k L g o μ=>(by cases μ),λj s m p aF μ=>(by cases μ),λj s k m g μ=>(by cases μ),λj ao δ=>(by rw[cC] at δ;omega),λj k m g _ μ=>(by cases μ),rfl,λj s μ=>(by cases μ),λj s k m g o μ=>(by cases μ),λs j bI k m g b1 g' μ=>(by cases μ),λs j k m g q p aF μ=>(by cases μ),λs o μ=>(by cases μ),λs o μ=>(by cases μ)⟩
  ·have δ:j=0:=by have:=mb hb;rw[cC] at this;omega
   subst δ;simp at hb;subst hb;exact⟨g,by rw[U];exact Η,.inl rfl⟩
 rw[solo_eq_crowd];exact Inv.comes _ _ c [0] #[g] w #[] none rfl ⟨η,λi=>η⟩ rfl inv
def π.fresh (G:π) (r:Nat):Prop:=(∀o,G.aJ r o=none)/\G.row r=none/\G.obj r=none/\∀b,r<b->(∀o,G.aJ b o=none)/\G.row b=none/\G.obj b=none
def π.uX (G:π) (a:Addr) (v:Value):π:={G with aJ:=λb o=>if b=a.block/\o=a.off then some (v,true) else G.aJ b o}
def π.dz (G:π) (r:Nat) (c:Array Value) (t:TypeId):π:=⟨λb o=>if b=r then(c[o]?).map (·,true) else G.aJ b o,λb=>if b=r then some (t,c.size) else G.row b,G.obj⟩
def π.aZ (G:π) (r:Nat) (x:Obj):π:={G with obj:=λb=>if b=r then some x else G.obj b}
def One:Value->Prop
 | .agg _|.tuple _=>False
 | _=>True
def ξ {α:Type} (P:Program):Sem α->π->(α->π->Prop)->(Value->π->Prop)->Prop
 | .pure a,G,K,_=>K a G
 | .load m a k,G,K,E=>m=.plain/\a.spot=none/\∃v p,G.aJ a.block a.off=some (v,p)/\ξ P (k v) G K E
 | .store m a v k,G,K,E=>m=.plain/\a.spot=none/\G.owns a.block a.off/\(∃t n,G.row a.block=some (t,n))/\One v/\ξ P k (G.uX a v) K E
 | .new (.cells c t dV) k,G,K,E=>dV=(0,0)/\∀r,G.fresh r->ξ P (k r) (G.dz r c t) K E
 | .new o k,G,K,E=>∀r,G.fresh r->ξ P (k r) (G.aZ r o) K E
 | .shape r k,G,K,E=>∃t n,G.row r=some (t,n)/\ξ P (k (some (t,n))) G K E
 | .freeze _ _ _,_,_,_=>False
 | .frozen a k,G,K,E=>(∃t n,G.row a.block=some (t,n))/\ξ P (k false) G K E
 | .getObj r k,G,K,E=>∃o,G.obj r=some o/\o.isChan=false/\ξ P (k o) G K E
 | .setObj r o k,G,K,E=>G.e7 r/\Obj.rE o=false/\o.isChan=false/\ξ P k (G.aZ r o) K E
 | .choose q k,G,K,E=>if q.forced then ξ P (k 0) G K E else ∀n,ξ P (k (q.cut n)) G K E
 | .sys _ _,_,_,_=>False
 | .program k,G,K,E=>ξ P (k P) G K E
 | .mark m k,G,K,E=>m=.noRoom/\ξ P k G K E
 | .halt (.panic v),G,_,E=>E v G
 | .halt _,_,_,_=>False
structure dL (G0:π) (w0:World) (G:π) (w:World) (es:Array Event):Prop where
 fit:Fits G w
 keeps:fv G0.owns G0.e7 w0 w
 kv:Bq G0 G w0.heap.size
 gg:∀e∈es,hc G0 w0.heap.size w.heap.size e
theorem dL.start {G:π} {w:World} (h:Fits G w):dL G w G w #[]:=
 ⟨h,fv.refl _ _ _,⟨λb o v p h=>.inr ⟨v,p,h,id⟩,λb h=>.inr h⟩,λe he=>by simp at he⟩
section
variable {G0 G:π} {w0 w:World} {es:Array Event}
theorem Fits.bare (h:Fits G w) {b:Nat} (hb:w.heap.size<=b):(∀o,G.aJ b o=none)/\G.row b=none/\G.obj b=none:=by
 refine⟨λo=>?_,?_,?_⟩
 ·cases ε:G.aJ b o with
  | none=>rfl
  | some x=>obtain⟨c,t,dV,hb,_⟩:=qw (h.aJ _ _ x.1 x.2 ε);have:=fw hb;omega
 ·cases ε:G.row b with
  | none=>rfl
  | some x=>obtain⟨c,hb,_⟩:=h.row _ x.1 x.2 ε;have:=fw hb;omega
 ·cases ε:G.obj b with
  | none=>rfl
  | some x=>have:=fw (h.obj _ x ε).1;omega
theorem Fits.fresh (h:Fits G w):G.fresh w.heap.size:=
 ⟨(h.bare (Nat.le_refl _)).1,(h.bare (Nat.le_refl _)).2.1,(h.bare (Nat.le_refl _)).2.2,λ_ hb=>h.bare (Nat.le_of_lt hb)⟩
theorem π.FV {H H':π} (I:∀b o,H'.aJ b o=none->H.aJ b o=none) (R:∀b,H'.row b=none->H.row b=none) (ν:∀b,H'.obj b=none->H.obj b=none) (r:Nat) (h:H'.fresh r):H.fresh r:=
 ⟨λo=>I _ _ (h.1 o),R _ h.2.1,ν _ h.2.2.1,λb hb=>⟨λo=>I _ _ ((h.2.2.2 b hb).1 o),R _ (h.2.2.2 b hb).2.1,ν _ (h.2.2.2 b hb).2.2⟩⟩
theorem π.Lo {H:π} {r:Nat} (ι:H.fresh r) (c:Array Value) (t:TypeId):∀b,(H.dz r c t).fresh b->H.fresh b:=
 π.FV (λb o h=>by
  by_cases e:b=r
  ·subst e;exact ι.1 o
  ·simpa[π.dz,e] using h) (λb h=>by
  by_cases e:b=r
  ·subst e;exact ι.2.1
  ·simpa[π.dz,e] using h) (λb h=>h)
theorem π.FW {H:π} {r:Nat} {x:Obj}:∀b,(H.aZ r x).fresh b->H.fresh b:=
 π.FV (λb o h=>h) (λb h=>h) (λb h=>by
  by_cases e:b=r
  ·subst e;simp[π.aZ] at h
  ·simpa[π.aZ,e] using h)
theorem hc.mono {n iL Lp:Nat} {e:Event} (h:hc G n iL e) (Ε:iL<=Lp):hc G n Lp e:=by
 obtain⟨loc,wr,oq⟩:=e;cases loc with
 | cell a=>exact h.imp (λx=>⟨x.1,γ⟩) id
 | obj r=>exact⟨h.1,h.2.imp (λx=>⟨x.1,γ⟩) id⟩
 | _=>exact h
theorem dL.read (h:dL G0 w0 G w es) {a:Addr} {v:Value} {p:Bool} (κ:a.spot=none) (ε:G.aJ a.block a.off=some (v,p)):w.cell? a=some v/\dL G0 w0 G w (es.push ⟨.cell a,false,false⟩):=by
 obtain⟨b,o,sp⟩:=a;simp only at κ ε;subst κ;have hv:=h.fit.aJ b o v p ε;refine⟨hv,h.fit,h.keeps,h.kv,λe he=>?_⟩;rcases Array.mem_push.1 he with he|rfl
 ·exact h.gg e he
 ·rcases h.kv.aJ b o v p ε with Ε|⟨v0,eQ,ao,_⟩
  ·obtain⟨c,t,dV,hb,_⟩:=qw hv;exact .inl ⟨Ε,fw hb⟩
  ·exact .inr ⟨rfl,_,ao⟩
theorem heap_setCell {a:Addr} {v:Value} {c:Array Value} {t:TypeId} {dV:Nat×Nat} (κ:a.spot=none) (hb:w.heap[a.block]?=some (.cells c t dV)):(w.setCell a v).heap=w.heap.setIfInBounds a.block (.cells (c.setIfInBounds a.off v) t dV):=by
 obtain⟨b,o,sp⟩:=a;simp only at κ hb;subst κ;have aI:=fw hb;simp only[World.setCell];apply Array.ext_getElem?;intro j;rw[Array.getElem?_modify];by_cases e:b=j
 ·subst e;rw[Array.getElem?_setIfInBounds_self_of_lt aI,if_pos rfl,hb];simp
 ·rw[Array.getElem?_setIfInBounds_ne e,if_neg e]
theorem dL.write (h:dL G0 w0 G w es) {a:Addr} {v:Value} (κ:a.spot=none) (ε:G.owns a.block a.off):(∃u,w.cell? a=some u)/\dL G0 w0 (G.uX a v) (w.setCell a v) (es.push ⟨.cell a,true,false⟩):=by
 obtain⟨b,o,sp⟩:=a;simp only at κ ε;subst κ;obtain⟨u,hu⟩:=ε;have hv:=h.fit.aJ b o u true hu;obtain⟨c,t,dV,hb,SB⟩:=qw hv;have aI:=fw hb;have aX:=heap_setCell (w:=w) (a:=⟨b,o,none⟩) (v:=v) rfl hb;have cC:(w.setCell ⟨b,o,none⟩ v).heap.size=w.heap.size:=by rw[aX];simp
 have px:(w.setCell ⟨b,o,none⟩ v).heap[b]?=some (.cells (c.setIfInBounds o v) t dV):=by rw[aX,Array.getElem?_setIfInBounds_self_of_lt aI]
 have py:∀j,b≠j->(w.setCell ⟨b,o,none⟩ v).heap[j]?=w.heap[j]?:=λj δ=>by rw[aX,Array.getElem?_setIfInBounds_ne δ]
 have Α:o<c.size:=(Array.getElem?_eq_some_iff.1 SB).1
 have Lq:b<w0.heap.size->G0.owns b o:=λjF=>by
  rcases h.kv.aJ b o u true hu with Ε|⟨v0,eQ,ao,ς⟩
  ·omega
  ·exact⟨v0,by rw[ao,ς rfl]⟩
 refine⟨⟨u,hv⟩,⟨λΨ o' fc e9 bg=>?_,λΨ t' iL ι=>?_,λΨ x U=>?_⟩,⟨by rw[cC];exact h.keeps.size,λΨ c' t' Lr dF=>?_,λΨ x dF U Ε=>?_,h.keeps.os,h.keeps.output,h.keeps.tape⟩,⟨λΨ o' fc e9 bg=>?_,h.kv.obj⟩,λe he=>?_⟩
 ·simp only[π.uX] at bg;by_cases e:Ψ=b/\o'=o
  ·obtain⟨rfl,rfl⟩:=e;rw[if_pos ⟨rfl,rfl⟩] at bg;cases bg;exact nj px (by rw[Array.getElem?_setIfInBounds_self_of_lt Α])
  ·rw[if_neg e] at bg;have:=h.fit.aJ Ψ o' fc e9 bg;by_cases Γ:Ψ=b
   ·subst Γ;have Θ:o≠o':=λx=>e ⟨rfl,x.symm⟩;obtain⟨c2,t2,Ls,gv,qO⟩:=qw this;rw[hb] at gv;cases gv;exact nj px (by rw[Array.getElem?_setIfInBounds_ne Θ];exact qO)
   ·obtain⟨c2,t2,Ls,gv,qO⟩:=qw this;exact nj (by rw[py Ψ (Ne.symm Γ)];exact gv) qO
 ·obtain⟨c2,gv,dk⟩:=h.fit.row Ψ t' iL ι;by_cases Γ:Ψ=b
  ·subst Γ;rw[hb] at gv;cases gv;exact⟨_,px,by simpa using dk⟩
  ·exact⟨c2,by rw[py Ψ (Ne.symm Γ)];exact gv,dk⟩
 ·obtain⟨gv,qP⟩:=h.fit.obj Ψ x U;have Γ:b≠Ψ:=λe=>by subst e;rw[hb] at gv;cases gv;cases qP
  exact⟨by rw[py Ψ Γ];exact gv,qP⟩
 ·obtain⟨c2,I,R,ν⟩:=h.keeps.cells Ψ c' t' Lr dF;by_cases Γ:Ψ=b
  ·subst Γ;rw[hb] at I;cases I;refine⟨_,px,by simpa using R,λo' jy=>?_⟩;have Θ:o≠o':=λe=>by subst e;exact jy (Lq (fw dF))
   rw[Array.getElem?_setIfInBounds_ne Θ];exact ν o' jy
  ·exact⟨c2,by rw[py Ψ (Ne.symm Γ)];exact I,R,ν⟩
 ·have I:=h.keeps.mQ Ψ x dF U Ε
  have Γ:b≠Ψ:=λe=>by subst e;rw[hb] at I;cases I;cases U
  rw[py Ψ Γ];exact I
 ·simp only[π.uX] at bg;by_cases e:Ψ=b/\o'=o
  ·obtain⟨rfl,rfl⟩:=e;rw[if_pos ⟨rfl,rfl⟩] at bg;cases bg;rcases h.kv.aJ _ _ _ _ hu with Ε|⟨v0,eQ,ao,ς⟩
   ·exact .inl Ε
   ·exact .inr ⟨v0,eQ,ao,ς⟩
  ·rw[if_neg e] at bg;exact h.kv.aJ Ψ o' fc e9 bg
 ·rw[cC];rcases Array.mem_push.1 he with he|rfl
  ·exact h.gg e he
  ·rcases Nat.lt_or_ge b w0.heap.size with jF|jF
   ·refine .inr ⟨rfl,?_⟩;exact Lq jF
   ·exact .inl ⟨jF,aI⟩
theorem y0 {x:Obj} {j:Nat} (δ:j<w.heap.size):(w.heap.push x)[j]?=w.heap[j]?:=by
 rw[Array.getElem?_push,if_neg γ]
theorem BZ {x:Obj}:(w.heap.push x)[w.heap.size]?=some x:=η
theorem dL.new (h:dL G0 w0 G w es) {x:Obj} {G':π} (ε:∀b o,b≠w.heap.size->G'.aJ b o=G.aJ b o) (ι:∀b,b≠w.heap.size->G'.row b=G.row b) (Α:∀b,b≠w.heap.size->G'.obj b=G.obj b)
  (Υ:Fits {aJ:=λb o=>if b=w.heap.size then G'.aJ b o else none,row:=λb=>if b=w.heap.size then G'.row b else none,obj:=λb=>if b=w.heap.size then G'.obj b else none} {w with heap:=w.heap.push x}) :
  dL G0 w0 G' {w with heap:=w.heap.push x} es:=by
 have hle:=h.keeps.size;refine⟨⟨λb o v p hb=>?_,λb t n hb=>?_,λb y hb=>?_⟩,⟨by simp;omega,λb c t dV hb=>?_,λb y hb Φ Ε=>?_,h.keeps.os,h.keeps.output,h.keeps.tape⟩,⟨λb o v p hb=>?_,λb ⟨y,hb⟩=>?_⟩,λe he=>(h.gg e he).mono η⟩
 ·by_cases e:b=w.heap.size
  ·exact Υ.aJ b o v p (by simp only[e,if_true];rw[<-e];exact hb)
  ·rw[ε b o e] at hb;obtain⟨c2,t2,Ls,gv,qO⟩:=qw (h.fit.aJ b o v p hb);exact nj (w:={w with heap:=w.heap.push x}) (by show(w.heap.push x)[b]?=_;rw[y0 (fw gv)];exact gv) qO
 ·by_cases e:b=w.heap.size
  ·exact Υ.row b t n (by simp only[e,if_true];rw[<-e];exact hb)
  ·rw[ι b e] at hb;obtain⟨c2,gv,dk⟩:=h.fit.row b t n hb;exact⟨c2,by show(w.heap.push x)[b]?=_;rw[y0 (fw gv)];exact gv,dk⟩
 ·by_cases e:b=w.heap.size
  ·exact Υ.obj b y (by simp only[e,if_true];rw[<-e];exact hb)
  ·rw[Α b e] at hb;obtain⟨gv,Φ⟩:=h.fit.obj b y hb;exact⟨by show(w.heap.push x)[b]?=_;rw[y0 (fw gv)];exact gv,Φ⟩
 ·obtain⟨c2,I,R,ν⟩:=h.keeps.cells b c t dV hb;exact⟨c2,by show(w.heap.push x)[b]?=_;rw[y0 (fw I)];exact I,R,ν⟩
 ·have I:=h.keeps.mQ b y hb Φ Ε
  show(w.heap.push x)[b]?=_;rw[y0 (fw I)];exact I
 ·by_cases e:b=w.heap.size
  ·exact .inl γ
  ·rw[ε b o e] at hb;exact h.kv.aJ b o v p hb
 ·by_cases e:b=w.heap.size
  ·exact .inl γ
  ·rw[Α b e] at hb;exact h.kv.obj b ⟨y,hb⟩
end
section
variable {G0 G:π} {w0 w:World} {es:Array Event} {P:Program}
theorem dL.push (h:dL G0 w0 G w es) {e:Event} (he:hc G0 w0.heap.size w.heap.size e):dL G0 w0 G w (es.push e):=
 ⟨h.fit,h.keeps,h.kv,λx U=>(Array.mem_push.1 U).elim (h.gg x) λy=>y▸he⟩
theorem dL.draw (h:dL G0 w0 G w es) (n:Nat):dL G0 w0 G {w with drawn:=n} es:=
 ⟨⟨h.fit.aJ,h.fit.row,h.fit.obj⟩,⟨h.keeps.size,h.keeps.cells,h.keeps.mQ,h.keeps.os,h.keeps.output,h.keeps.tape⟩,h.kv,h.gg⟩
theorem dL.row (h:dL G0 w0 G w es) (c:Array Value) (t:TypeId):dL G0 w0 (G.dz w.heap.size c t) {w with heap:=w.heap.push (.cells c t (0,0))} es:=by
 refine h.new (λb o hb=>by simp[π.dz,hb]) (λb hb=>by simp[π.dz,hb]) (λb hb=>rfl) ⟨λb o v p hb=>?_,λb t' n hb=>?_,λb y hb=>?_⟩
 ·by_cases e:b=w.heap.size
  ·simp[π.dz,e] at hb;obtain⟨kN,gv,rfl,rfl⟩:=hb;rw[e];exact nj (w:={w with heap:=w.heap.push (.cells c t (0,0))}) BZ gv
  ·simp[e] at hb
 ·by_cases e:b=w.heap.size
  ·simp[π.dz,e] at hb;obtain⟨rfl,rfl⟩:=hb;rw[e];exact⟨c,BZ,rfl⟩
  ·simp[e] at hb
 ·by_cases e:b=w.heap.size
  ·simp only[e,if_true,π.dz] at hb;rw[h.fit.fresh.2.2.1] at hb;cases hb
  ·simp[e] at hb
theorem dL.obj (h:dL G0 w0 G w es) {x:Obj} (U:Obj.rE x=false):dL G0 w0 (G.aZ w.heap.size x) {w with heap:=w.heap.push x} es:=by
 refine h.new (λb o hb=>rfl) (λb hb=>rfl) (λb hb=>by simp[π.aZ,hb]) ⟨λb o v p hb=>?_,λb t' n hb=>?_,λb y hb=>?_⟩
 ·by_cases e:b=w.heap.size
  ·simp only[e,if_true,π.aZ] at hb;rw[h.fit.fresh.1] at hb;cases hb
  ·simp[e] at hb
 ·by_cases e:b=w.heap.size
  ·simp only[e,if_true,π.aZ] at hb;rw[h.fit.fresh.2.1] at hb;cases hb
  ·simp[e] at hb
 ·by_cases e:b=w.heap.size
  ·simp[π.aZ,e] at hb;subst hb;rw[e];exact⟨BZ,U⟩
  ·simp[e] at hb
theorem dL.setObj (h:dL G0 w0 G w es) {r:Nat} {x:Obj} (ι:G.e7 r) (U:Obj.rE x=false):(∃y,w.heap[r]?=some y/\Obj.rE y=false)/\dL G0 w0 (G.aZ r x) {w with heap:=w.heap.setIfInBounds r x} (es.push ⟨.obj r,true,false⟩):=by
 obtain⟨y,Φ⟩:=ι;obtain⟨hb,B0⟩:=h.fit.obj r y Φ;have aI:=fw hb;have px:(w.heap.setIfInBounds r x)[r]?=some x:=Array.getElem?_setIfInBounds_self_of_lt aI;have py:∀j,r≠j->(w.heap.setIfInBounds r x)[j]?=w.heap[j]?:=λj δ=>Array.getElem?_setIfInBounds_ne δ;have FX:∀b c t dV,w.heap[b]?=some (.cells c t dV)->r≠b:=λb c t dV ε e=>by subst e;rw[hb] at ε;cases ε;cases B0
 refine⟨⟨y,hb,B0⟩,⟨λb o v p ε=>?_,λb t n ε=>?_,λb z Μ=>?_⟩,⟨by simp;exact h.keeps.size,λb c t dV ε=>?_,λb z ε Μ Ε=>?_,h.keeps.os,h.keeps.output,h.keeps.tape⟩,⟨h.kv.aJ,λb Μ=>?_⟩,λe he=>?_⟩
 ·obtain⟨c,t,dV,I,R⟩:=qw (h.fit.aJ b o v p ε);exact nj (w:={w with heap:=w.heap.setIfInBounds r x}) (by show(w.heap.setIfInBounds r x)[b]?=_;rw[py b (FX b c t dV I)];exact I) R
 ·obtain⟨c,I,R⟩:=h.fit.row b t n ε;exact⟨c,by show(w.heap.setIfInBounds r x)[b]?=_;rw[py b (FX b c t _ I)];exact I,R⟩
 ·by_cases e:b=r
  ·subst e;simp[π.aZ] at Μ;subst Μ;exact⟨px,U⟩
  ·simp[π.aZ,e] at Μ;obtain⟨I,R⟩:=h.fit.obj b z Μ;exact⟨by show(w.heap.setIfInBounds r x)[b]?=_;rw[py b (Ne.symm e)];exact I,R⟩
 ·obtain⟨c2,I,R,ν⟩:=h.keeps.cells b c t dV ε;exact⟨c2,by show(w.heap.setIfInBounds r x)[b]?=_;rw[py b (FX b c2 t dV I)];exact I,R,ν⟩
 ·have I:=h.keeps.mQ b z ε Μ Ε
  have e:r≠b:=λe=>by
   subst e;rcases h.kv.obj r ⟨y,Φ⟩ with U|U
   ·have:=fw ε;omega
   ·exact Ε U
  show(w.heap.setIfInBounds r x)[b]?=_;rw[py b e];exact I
 ·by_cases e:b=r
  ·subst e;exact h.kv.obj b ⟨y,Φ⟩
  ·obtain⟨z,Μ⟩:=Μ;simp[π.aZ,e] at Μ;exact h.kv.obj b ⟨z,Μ⟩
 ·simp only[Array.size_setIfInBounds];rcases Array.mem_push.1 he with he|rfl
  ·exact h.gg e he
  ·exact⟨rfl,(h.kv.obj r ⟨y,Φ⟩).imp (λU=>⟨U,aI⟩) id⟩
theorem ξ.sound {α:Type} {K:α->π->Prop} {E:Value->π->Prop} (s:Sem α):∀{G:π} {w:World} {es:Array Event},ξ P s G K E->dL G0 w0 G w es->
  ∃G' w' es',dL G0 w0 G' w' es'/\((∃a,s.runT P w es=(.ok a w',es')/\K a G')\/(∃v,s.runT P w es=(.halt (.panic v) w',es')/\E v G')):=by
 induction s with
 | pure a=>intro G w es h hu;exact⟨G,w,es,hu,.inl ⟨a,rfl,h⟩⟩
 | load m a k ω=>
  intro G w es h hu;obtain⟨rfl,κ,v,p,ε,ψ⟩:=h;obtain⟨hv,uY⟩:=hu.read κ ε;obtain⟨G',w',es',I,R⟩:=ω v ψ uY;refine⟨G',w',es',I,?_⟩;simp only[Sem.runT,hv];exact R
 | store m a v k ω=>
  intro G w es h hu;obtain⟨rfl,κ,ε,⟨t,n,bN⟩,B1,ψ⟩:=h;obtain⟨⟨u,hv⟩,uY⟩:=hu.write (v:=v) κ ε;obtain⟨G',w',es',I,R⟩:=ω ψ uY;have SC:w.frozen? a=false:=by
   obtain⟨c,hb,_⟩:=hu.fit.row a.block t n bN;simp[World.frozen?,hb]
  refine⟨G',w',es',I,?_⟩;have e:(Sem.store .plain a v k).runT P w es=k.runT P (w.setCell a v) (es.push ⟨.cell a,true,false⟩):=by
   cases v<;>first|exact B1.elim|(simp only[Sem.runT,hv,SC];rfl)
  rw[e];exact R
 | new o k ω=>
  intro G w es h hu;cases o with
  | cells c t dV=>
   obtain⟨rfl,ψ⟩:=h;obtain⟨G',w',es',I,R⟩:=ω w.heap.size (ψ _ hu.fit.fresh) (hu.row c t);exact⟨G',w',es',I,R⟩
  | _=>
   obtain⟨G',w',es',I,R⟩:=ω w.heap.size (h _ hu.fit.fresh) (hu.obj rfl);exact⟨G',w',es',I,R⟩
 | shape r k ω=>
  intro G w es h hu;obtain⟨t,n,ι,ψ⟩:=h;have e:w.shape? r=some (t,n):=by
   obtain⟨c,hb,μ⟩:=hu.fit.row r t n ι;simp[World.shape?,hb,μ]
  obtain⟨G',w',es',I,R⟩:=ω _ ψ hu;refine⟨G',w',es',I,?_⟩;simp only[Sem.runT,e];exact R
 | freeze a n k ω=>intro G w es h hu;exact h.elim
 | frozen a k ω=>
  intro G w es h hu;obtain⟨⟨t,n,ι⟩,ψ⟩:=h;have e:w.frozen? a=false:=by
   obtain⟨c,hb,_⟩:=hu.fit.row a.block t n ι;simp[World.frozen?,hb]
  obtain⟨G',w',es',I,R⟩:=ω _ ψ hu;refine⟨G',w',es',I,?_⟩;simp only[Sem.runT,e];exact R
 | getObj r k ω=>
  intro G w es h hu;obtain⟨o,Α,oz,ψ⟩:=h;obtain⟨hb,bA⟩:=hu.fit.obj r o Α;have aI:=fw hb;have uY:=hu.push (e:=⟨.obj r,false,false⟩) ⟨rfl,(hu.kv.obj r ⟨o,Α⟩).imp (λU=>⟨U,aI⟩) id⟩;obtain⟨G',w',es',I,R⟩:=ω _ ψ uY;refine⟨G',w',es',I,?_⟩;have e:(Sem.getObj r k).runT P w es=(k o).runT P w (es.push ⟨.obj r,false,false⟩):=by
   cases o<;>first|(simp only[Sem.runT,hb];first|done|rfl|(rw[oz];done))|(cases bA;done)
  rw[e];exact R
 | setObj r o k ω=>
  intro G w es h hu;obtain⟨ι,bA,oz,ψ⟩:=h;obtain⟨⟨y,hb,B0⟩,uY⟩:=hu.setObj ι bA;obtain⟨G',w',es',I,R⟩:=ω ψ uY;refine⟨G',w',es',I,?_⟩;have e:(Sem.setObj r o k).runT P w es=k.runT P {w with heap:=w.heap.setIfInBounds r o} (es.push ⟨.obj r,true,false⟩):=by
   cases y<;>first|(simp only[Sem.runT,hb,oz];done)|(cases B0;done)
  rw[e];exact R
 | choose q k ω=>
  intro G w es h hu;simp only[ξ] at h;by_cases Χ:q.forced=true
  ·rw[if_pos Χ] at h;obtain⟨G',w',es',I,R⟩:=ω _ h hu;refine⟨G',w',es',I,?_⟩;simp only[Sem.runT,Χ,if_true];exact R
  ·rw[if_neg Χ] at h;obtain⟨G',w',es',I,R⟩:=ω _ (h (w.tape w.drawn q)) (hu.draw (w.drawn+1));refine⟨G',w',es',I,?_⟩;simp only[Sem.runT,Χ];exact R
 | sys c k ω=>intro G w es h hu;exact h.elim
 | program k ω=>
  intro G w es h hu;obtain⟨G',w',es',I,R⟩:=ω P h hu;exact⟨G',w',es',I,R⟩
 | mark m k ω=>
  intro G w es h hu;obtain⟨rfl,ψ⟩:=h;obtain⟨G',w',es',I,R⟩:=ω ψ (hu.push (e:=⟨.mark .noRoom,false,true⟩) rfl);exact⟨G',w',es',I,R⟩
 | halt x=>
  intro G w es h hu;cases x<;>first|exact h.elim|skip
  exact⟨G,w,es,hu,.inr ⟨_,rfl,h⟩⟩
theorem mem_seen {fn:FuncId} {e:Event} (h:e∈seen P fn es):e∈es:=by
 unfold seen at h;obtain⟨l⟩:=es;have key:∀(l:List Event) (q:Bool) (kept:Array Event) (x:Event),x∈(l.foldl (λ(s:Bool×Array Event) e=>match e.loc with
   | .mark (Mark.extern f)=>((P.funcs[f]?).any (·.norace),s.2)
   | _=>(s.1,if s.1&&!e.sync then s.2 else s.2.push e)) (q,kept)).2->x∈kept\/x∈l:=by
  intro l
  induction l with
  | nil=>intro q kept x U;exact .inl U
  | cons y l ω=>
   intro q kept x U;rw[List.foldl_cons] at U;rcases ω _ _ x U with hy|hy
   ·split at hy
    ·exact .inl hy
    ·simp only at hy;split at hy
     ·exact .inl hy
     ·rcases Array.mem_push.1 hy with BD|rfl
      ·exact .inl BD
      ·exact .inr η
   ·exact .inr (by simp[hy])
 simp only[List.foldl_toArray'] at h;rcases key l _ #[] e h with U|U
 ·simp at U
 ·simpa using U
end
def cm (P:Program) (Q:Value->Prop) (mn:Bool) (y:aW) (ax:Frame) (cs:List Frame) (H:π):Prop:=Goes P Q mn (Go.Conc.G ax cs) {y with G:=H}
def gJ:Type:=aW->Prop
class bj where
 q:gJ->Prop
structure Seq [bj] (x:gJ):Prop where
 cls:bj.q x
 rel:∀y,x y->y.rel=false
 aG:∀y,x y->y.aG=λ_=>none
def aE (P:Program) (Q:Value->Prop) (mn:Bool) (x:gJ) (ax:Frame) (cs:List Frame) (H:π):Prop:=∀y,x y->cm P Q mn y ax cs H
def ax (b:Frame) (t:Array Value) (k:List Item):Frame:={b with tmps:=t,todo:=k}
section
variable {P:Program} {Q:Value->Prop} {mn:Bool} {x:gJ} {cs:List Frame} {H:π} {b f:Frame} {t:Array Value} {k:List Item}
theorem cm.own {y:aW} (ee:y.rel=false) (fI:y.aG=λ_=>none) (h:∀w,Fits H w->∃f' cs' w' es H',stepG P mn (Go.Conc.G f cs) w=.go (Go.Conc.G f' cs') w' es/\dL H w H' w' es/\cm P Q mn y f' cs' H'):cm P Q mn y f cs H:=by
 refine Goes.step (λι=>by rw[show({y with G:=H}:aW).rel=y.rel from rfl,ee] at ι;cases ι) (.inr ⟨⟨rfl,rfl⟩,.inl λw Υ hv=>?_⟩);obtain⟨f',cs',w',es,H',I,R,ν⟩:=h w Υ;rw[I];refine⟨H',y.aG,⟨rfl,rfl⟩,R.keeps,R.fit,λb c t hb=>?_,R.kv,λb c hb=>.inl hb,λe he=>?_,λb c hb=>?_,ν⟩
 ·rw[fI] at hb;cases hb
 ·rw[if_neg (by rw[show({y with G:=H}:aW).rel=y.rel from rfl,ee];simp)];exact R.gg e he
 ·rw[fI] at hb;cases hb
variable [bj]
theorem aE.own (U:Seq x) (h:∀w,Fits H w->∃f' cs' w' es H',stepG P mn (Go.Conc.G f cs) w=.go (Go.Conc.G f' cs') w' es/\dL H w H' w' es/\aE P Q mn x f' cs' H'):aE P Q mn x f cs H:=
 λy Φ=>.own (U.rel y Φ) (U.aG y Φ) λw Υ=>let ⟨f',cs',w',es,H',a,b,c⟩:=h w Υ;⟨f',cs',w',es,H',a,b,c y Φ⟩
theorem aE.still (U:Seq x) {f':Frame} {cs':List Frame} (μ:∀w,stepG P mn (Go.Conc.G f cs) w=.go (Go.Conc.G f' cs') w #[]) (h:aE P Q mn x f' cs' H):aE P Q mn x f cs H:=
 .own U λw Υ=>⟨f',cs',w,#[],H,μ w,.start Υ,h⟩
theorem iW (hb:b.mode=.run) (w:World):stepG P mn (Go.Conc.G (ax b t k) cs) w=stepG.exec P mn true (ax b t k) cs none w:=by
 obtain⟨fn,wP,iX,SD,tf,kd,ro⟩:=b;simp only at hb;subst hb;rfl
section SE
variable (U:Seq x) (hb:b.mode=.run)
include U hb
theorem aE.to {af:List Item} (μ:∀w,stepG.exec P mn true (ax b t k) cs none w=.go (Go.Conc.G (ax b t af) cs) w #[]) (h:aE P Q mn x (ax b t af) cs H):aE P Q mn x (ax b t k) cs H:=
 .still U (λw=>(iW hb w).trans (μ w)) h
theorem aE.skip (h:aE P Q mn x (ax b t k) cs H):aE P Q mn x (ax b t (.code .skip::k)) cs H:=.to U hb (λ_=>rfl) h
theorem aE.label {l:Nat} (h:aE P Q mn x (ax b t k) cs H):aE P Q mn x (ax b t (.code (.label l)::k)) cs H:=.to U hb (λ_=>rfl) h
theorem aE.inBlock {l:Nat} (h:aE P Q mn x (ax b t k) cs H):aE P Q mn x (ax b t (.inBlock l::k)) cs H:=.to U hb (λ_=>rfl) h
theorem aE.seq {a c:Code} (h:aE P Q mn x (ax b t (.code a::.code c::k)) cs H):aE P Q mn x (ax b t (.code (.seq a c)::k)) cs H:=.to U hb (λ_=>rfl) h
theorem aE.block {l:Nat} {c:Code} (h:aE P Q mn x (ax b t (.code c::.inBlock l::k)) cs H):aE P Q mn x (ax b t (.code (.block l c)::k)) cs H:=.to U hb (λ_=>rfl) h
theorem aE.loop {c:Code} (h:aE P Q mn x (ax b t (.code c::.inLoop c::k)) cs H):aE P Q mn x (ax b t (.code (.loop c)::k)) cs H:=.to U hb (λ_=>rfl) h
theorem aE.inLoop {c:Code} (h:aE P Q mn x (ax b t (.code c::.inLoop c::k)) cs H):aE P Q mn x (ax b t (.inLoop c::k)) cs H:=.to U hb (λ_=>rfl) h
theorem aE.scope {c:Code} (h:aE P Q mn x (ax b t (.code c::.inScope c::k)) cs H):aE P Q mn x (ax b t (.code (.scope c)::k)) cs H:=.to U hb (λ_=>rfl) h
theorem aE.region {id:Nat} {ops:Array Oper} (h:aE P Q mn x (ax b t (.inRegion ops (List.range ops.size)::k)) cs H):aE P Q mn x (ax b t (.code (.region id ops false)::k)) cs H:=.to U hb (λ_=>rfl) h
theorem aE.bJ {ops:Array Oper} (h:aE P Q mn x (ax b t k) cs H):aE P Q mn x (ax b t (.inRegion ops []::k)) cs H:=.to U hb (λ_=>rfl) h
theorem aE.cond {c:Operand} {a e:Code} {v:Bool} (ε:(ax b t k).eval c=.bool v) (h:aE P Q mn x (ax b t (.code (if v then a else e)::k)) cs H):aE P Q mn x (ax b t (.code (.cond c a e)::k)) cs H:=by
 refine .to U hb (λw=>?_) h;have bg:(ax b t (.code (.cond c a e)::k)).eval c=.bool v:=ε;unfold stepG.exec;simp only[ax] at bg ⊢;rw[bg];rfl
theorem aE.exit {l:Nat} {af:List Item} (he:exitTo l k=some af) (h:aE P Q mn x (ax b t af) cs H):aE P Q mn x (ax b t (.code (.exit l)::k)) cs H:=by
 refine .to U hb (λw=>?_) h;unfold stepG.exec;simp only[ax,he,Option.elim];rfl
theorem aE.draw {id:Nat} {ops:Array Oper} (h:∀n,aE P Q mn x (ax b t (.inRegion ops (Region.schedule (P.follows .mixedOrders) ops n)::k)) cs H):aE P Q mn x (ax b t (.code (.region id ops true)::k)) cs H:=by
 refine .own U λw Υ=>⟨ax b t (.inRegion ops (Region.schedule (P.follows .mixedOrders) ops (w.tape w.drawn (.order b.fn id)))::k),cs,{w with drawn:=w.drawn+1},#[],H,?_,(dL.start Υ).draw _,h _⟩;rw[iW hb];rfl
theorem aE.ret (ι:b.roundOf=none) (h:aE P Q mn x {ax b t (.code .ret::k) with mode:=.returning} cs H):aE P Q mn x (ax b t (.code .ret::k)) cs H:=by
 refine .still U (λw=>?_) h;rw[iW hb];unfold stepG.exec;simp only[ax,ι];rfl
theorem aE.rO (ι:b.roundOf=none) (h:aE P Q mn x {ax b t [] with mode:=.returning} cs H):aE P Q mn x (ax b t []) cs H:=by
 refine .still U (λw=>?_) h;rw[iW hb];unfold stepG.exec;simp only[ax,ι];rfl
end SE
end
end Go.TL
namespace Go.TL
open Go.Conc
open Go.ConcM (OsLater)
open Go.ConcN (sumTo upd sumTo_upd upd_ne upd_same sumTo_congr le_sumTo)
variable [bj]
def br (t:Array Value):Operand->Value
 | .tmp n=>t.getD n undef
 | .const v=>v
 | .global g=>.pointer (some ⟨g,0,none⟩)
 | .func f=>.func (.func f) #[] #[]
theorem y1 (b:Frame) (t:Array Value) (k:List Item):(ax b t k).eval=br t:=by funext o;cases o<;>rfl
def put (o:Oper) (t:Array Value) (v:Value):Array Value:=match o.dst with|some d=>t.setIfInBounds d v|none=>t
def Lt (P:Program) (Q:Value->Prop) (mn:Bool) (x:gJ) (b:Frame) (t:Array Value) (ops:Array Oper) (i:Nat) (o:Oper) (rest:List Nat) (k:List Item) (cs:List Frame):Next->π->Prop
 | .value v,H=>aE P Q mn x (ax b (put o t v) (.inRegion ops rest::k)) cs H
 | .skip,H=>aE P Q mn x (ax b (put o t undef) (.inRegion ops rest::k)) cs H
 | .enter f args,H=>aE P Q mn x (Frame.enter P f args .normal) (ax b t (.inRegion ops (i::rest)::k)::cs) H
 | .round l f wP B2 rP,H=>aE P Q mn x (Frame.round l f wP B2 rP .normal) (ax b t (.inRegion ops (i::rest)::k)::cs) H
 | .defer d,H=>aE P Q mn x (ax {b with defers:=d::b.defers} (put o t undef) (.inRegion ops rest::k)) cs H
 | .recover,H=>b.roundOf=none/\match tryRecover (ax b t (.inRegion ops (i::rest)::k)) cs with
  | some (v,cs')=>aE P Q mn x (ax b (put o t v) (.inRegion ops rest::k)) cs' H
  | none=>aE P Q mn x (ax b (put o t .nilIface) (.inRegion ops rest::k)) cs H
 | _,_=>False
section
variable {P:Program} {Q:Value->Prop} {mn:Bool} {x:gJ} {cs:List Frame} {H:π} {b f:Frame} {t:Array Value} {k:List Item}
theorem dL.sub {G0 G:π} {w0 w:World} {es es':Array Event} (h:dL G0 w0 G w es) (μ:∀e∈es',e∈es):dL G0 w0 G w es':=⟨h.fit,h.keeps,h.kv,λe he=>h.gg e (μ e he)⟩
theorem ie {b:Frame} {ops:Array Oper} {i:Nat} {o:Oper} {rest:List Nat} {v:Value} (Α:ops[i]?=some o):(ax b t (.inRegion ops (i::rest)::k)).finish v=ax b (put o t v) (.inRegion ops rest::k):=by
 simp only[Frame.finish,ax,Α,Option.bind,put];cases o.dst<;>rfl
theorem aE.unwanted (U:Seq x) (hb:b.mode=.run) {ops:Array Oper} {i:Nat} {o:Oper} {rest:List Nat} (Α:ops[i]?=some o) (hw:Region.wanted o (yielded ops t)=false)
  (h:aE P Q mn x (ax b (put o t undef) (.inRegion ops rest::k)) cs H):aE P Q mn x (ax b t (.inRegion ops (i::rest)::k)) cs H:=by
 refine .still U (f':=ax b (put o t undef) (.inRegion ops rest::k)) (cs':=cs) (λw=>?_) h;rw[iW hb,<-ie Α];have uH:((ops[i]?).map (Region.wanted · (yielded ops t))).getD false=false:=by simp[Α,hw]
 unfold stepG.exec;simp only[ax,uH];rfl
theorem aE.op (U:Seq x) (hb:b.mode=.run) {ops:Array Oper} {i:Nat} {o:Oper} {rest:List Nat} (Α:ops[i]?=some o) (hw:Region.wanted o (yielded ops t)=true) (hd:b.roundOf=none\/∀c,o.op≠.defer c)
  (h:ξ P (execOp (br t) o) H (Lt P Q mn x b t ops i o rest k cs) (λv H'=>aE P Q mn x {ax b t (.inRegion ops (i::rest)::k) with mode:=.panicking [{v,recovered:=false}]} cs H')) :
  aE P Q mn x (ax b t (.inRegion ops (i::rest)::k)) cs H:=by
 refine .own U λw Υ=>?_;obtain⟨H',w',es',hu,hQ⟩:=ξ.sound (P:=P) (G0:=H) (w0:=w) (execOp (br t) o) h (dL.start Υ);have y2:stepG P mn (Go.Conc.G (ax b t (.inRegion ops (i::rest)::k)) cs) w=stepG.apply P true (ax b t (.inRegion ops (i::rest)::k)) cs none (execOp (br t) o) w:=by
  rw[iW hb];have uH:((ops[i]?).map (Region.wanted · (yielded ops t))).getD false=true:=by simp[Α,hw]
  have he:(ax b t (.inRegion ops (i::rest)::k)).oper?=some o:=by simp[Frame.oper?,ax,Α]
  unfold stepG.exec;simp only[ax,uH,if_true];simp only[ax] at he;unfold stepG.oper;simp only[he];rcases hd with hd|hd
  ·simp only[hd];rw[<-y1 b t (.inRegion ops (i::rest)::k)];rfl
  ·cases ι:b.roundOf with
   | none=>rw[<-y1 b t (.inRegion ops (i::rest)::k)];rfl
   | some l=>
    cases Κ:o.op<;>first|exact absurd Κ (hd _)|(simp only;rw[<-y1 b t (.inRegion ops (i::rest)::k)];rfl)
 rw[y2];generalize fR:(if(ax b t (.inRegion ops (i::rest)::k)).kind==.early then #[] else es')=nx;have j1:∀e∈seen P b.fn nx,e∈es':=λe he=>by
  have:=mem_seen he;rw[<-fR] at this;split at this
  ·simp at this
  ·exact this
 have oC:∀v,(ax b t (.inRegion ops (i::rest)::k)).finish v=ax b (put o t v) (.inRegion ops rest::k):=λv=>ie Α;rcases hQ with⟨dS,dR,ζ⟩|⟨v,dR,df⟩
 ·cases dS<;>first|exact ζ.elim|skip
  case value v=>exact⟨_,_,w',seen P b.fn nx,H',by unfold stepG.apply;simp only[dR,if_true];rw[fR,oC];simp[GStep.after,Go.Conc.G,ax],hu.sub j1,ζ⟩
  case skip=>exact⟨_,_,w',seen P b.fn nx,H',by unfold stepG.apply;simp only[dR,if_true];rw[fR,oC];simp[GStep.after,Go.Conc.G,ax],hu.sub j1,ζ⟩
  case enter f args=>exact⟨_,_,w',seen P b.fn nx,H',by unfold stepG.apply;simp only[dR,if_true];rw[fR];simp[GStep.after,Go.Conc.G,ax],hu.sub j1,ζ⟩
  case round l f wP B2 rP=>exact⟨_,_,w',seen P b.fn nx,H',by unfold stepG.apply;simp only[dR,if_true];rw[fR];simp[GStep.after,Go.Conc.G,ax],hu.sub j1,ζ⟩
  case defer d=>exact⟨_,_,w',seen P b.fn nx,H',by unfold stepG.apply;simp only[dR,if_true];rw[fR];simp[GStep.after,Go.Conc.G,Frame.finish,ax,put,Α];cases o.dst<;>rfl,hu.sub j1,ζ⟩
  case recover=>
   obtain⟨cr,ζ⟩:=ζ;cases tg:tryRecover (ax b t (.inRegion ops (i::rest)::k)) cs with
   | none=>
    rw[tg] at ζ;exact⟨_,_,w',seen P b.fn nx,H',by unfold stepG.apply;simp only[dR,if_true];rw[fR,oC];simp only[ax] at tg ⊢;simp only[cr];rw[cr] at tg;rw[tg];simp[GStep.after,Go.Conc.G],hu.sub j1,ζ⟩
   | some r=>
    obtain⟨v,cs'⟩:=r;rw[tg] at ζ;exact⟨_,_,w',seen P b.fn nx,H',by unfold stepG.apply;simp only[dR,if_true];rw[fR];simp only[ax] at tg ⊢;simp only[cr];rw[cr] at tg;rw[tg];simp[GStep.after,Go.Conc.G];(have e:=oC v;simp only[ax,cr] at e;exact e),hu.sub j1,ζ⟩
 ·exact⟨_,_,w',seen P b.fn nx,H',by unfold stepG.apply;simp only[dR,if_true];rw[fR];simp[GStep.after,Go.Conc.G,Frame.raise,ax,hb],hu.sub j1,df⟩
end
section
variable {P:Program} {Q:Value->Prop} {mn:Bool} {x:gJ} {cs rest:List Frame} {H:π} {b f c:Frame} {t:Array Value} {k:List Item} {fn:Func}
theorem wQ (hm:f.mode≠.run) (w:World):stepG P mn (Go.Conc.G f cs) w=unwind P mn f cs none w:=by
 obtain⟨a1,a2,ck,fY,tf,l3,uA⟩:=f;cases tf with
 | run=>exact absurd rfl hm
 | returning=>rfl
 | panicking ch=>rfl
theorem aE.back (U:Seq x) (hm:f.mode=.returning) (hd:f.defers=[]) (ψ:f.kind=.normal\/f.kind=.wrapped) (cf:P.funcs[f.fn]?=some fn)
  (h:ξ P (results fn f.tmps) H (λv H'=>aE P Q mn x (c.finish v) rest H') (λ_ _=>False)):aE P Q mn x f (c::rest) H:=by
 refine .own U λw Υ=>?_;obtain⟨H',w',es',hu,hQ⟩:=ξ.sound (P:=P) (G0:=H) (w0:=w) (results fn f.tmps) h (dL.start Υ);rcases hQ with⟨v,dR,ζ⟩|⟨v,dR,df⟩
 ·refine⟨_,_,w',seen P f.fn es',H',?_,hu.sub λe he=>mem_seen he,ζ⟩;rw[wQ (by rw[hm];simp)];unfold unwind;simp only[hd,hm,cf,dR];unfold doReturn;rcases ψ with ψ|ψ<;>simp[ψ,GStep.after,Go.Conc.G]
 ·exact df.elim
theorem aE.FY (U:Seq x) (hm:f.mode=.returning) (hd:f.defers=[]) (ψ:f.kind=.deferred) (cf:P.funcs[f.fn]?=some fn)
  (h:ξ P (results fn f.tmps) H (λ_ H'=>aE P Q mn x (match c.mode with
   | .panicking ({recovered:=true,..}::SF)=>(match SF.dropWhile (!·.goexit) with|[]=>{c with mode:=.returning}|r=>{c with mode:=.panicking r})
   | _=>c) rest H') (λ_ _=>False)):aE P Q mn x f (c::rest) H:=by
 refine .own U λw Υ=>?_;obtain⟨H',w',es',hu,hQ⟩:=ξ.sound (P:=P) (G0:=H) (w0:=w) (results fn f.tmps) h (dL.start Υ);rcases hQ with⟨v,dR,ζ⟩|⟨v,dR,df⟩
 ·refine⟨_,_,w',seen P f.fn es',H',?_,hu.sub λe he=>mem_seen he,ζ⟩;rw[wQ (by rw[hm];simp)];unfold unwind;simp only[hd,hm,cf,dR];unfold doReturn;simp only[ψ,GStep.after];rw[Array.append_empty];rfl
 ·exact df.elim
theorem aE.deferred (U:Seq x) (hm:f.mode≠.run) {d:Deferred} {ds:List Deferred} (hd:f.defers=d::ds) (ε:∀r,d.target≠.collected r) (Ε:d.target≠.nil) {g:FuncId} {args:Array Value}
  (ι:∀w,(invoke d.target d.args).runT P w #[]=(.ok (.enter g args) w,#[])) (h:aE P Q mn x (Frame.enter P g args .deferred) ({f with defers:=ds}::cs) H):aE P Q mn x f cs H:=by
 refine .still U (λw=>?_) h;rw[wQ hm];unfold unwind;obtain⟨FZ,as9⟩:=d;simp only at ε Ε ι;have key:callDeferred P {f with defers:=ds} cs none ⟨FZ,as9⟩ w=.go (Go.Conc.G (Frame.enter P g args .deferred) ({f with defers:=ds}::cs)) w #[]:=by
  unfold callDeferred;simp only[ι w];cases FZ<;>first|exact absurd rfl Ε|(simp[GStep.after,seen,Go.Conc.G])
 cases FZ with
 | collected r=>exact absurd rfl (ε r)
 | fn a b=>simp only[hd];exact key
 | nil=>exact absurd rfl Ε
 | builtin a b c d=>simp only[hd];exact key
 | coroexit c=>simp only[hd];exact key
theorem aE.raised (U:Seq x) {ch:List PanicEntry} (hm:f.mode=.panicking ch) (hd:f.defers=[]) (SG:f.catches P=false) (h:aE P Q mn x (c.raise ch) rest H):aE P Q mn x f (c::rest) H:=by
 refine .still U (λw=>?_) h;rw[wQ (by rw[hm];simp)];unfold unwind;simp only[hd,hm,SG];rfl
theorem aE.done (U:Seq x) (Ν:∀y,x y->∀s,fQ (y.tok s)) (th:∀y,x y->y.deaf=0) (hm:f.mode=.returning) (hd:f.defers=[]) (ψ:f.kind=.normal) (cf:P.funcs[f.fn]?=some fn) (a4:P.inits.idxOf? f.fn=none) {v:Value}
  (ι:results fn f.tmps=pure v) (SH:Q v):aE P Q true x f [] H:=by
 intro y Φ;refine Goes.stop (λι=>by rw[show({y with G:=H}:aW).rel=y.rel from rfl,U.rel y Φ] at ι;cases ι) (.inl ⟨rfl,⟨rfl,rfl⟩,Ν y Φ,th y Φ,λw Υ=>⟨v,#[],?_,λe he=>by simp at he,SH⟩⟩);rw[wQ (by rw[hm];simp)];unfold unwind;simp only[hd,hm,cf,ι];have:(pure v:Sem Value).runT P w #[]=(.ok v w,#[]):=rfl;simp only[this];unfold doReturn;simp[ψ,GStep.after,seen,a4]
end
end Go.TL
namespace Go.TL
open Go.Conc
inductive θ where
 | z (v:Value)
 | aa (cells:List θ)
 | sl (ex:Bool) (k:Nat) (l:List θ)
 | a6 (l:List θ)
 | a3 (l:List θ)
 | an (id n i j:Nat)
 | ms (id n i len:Nat)
 | fn (f:Fn) (first captured:List θ)
 | fJ (t:TypeId) (a:θ)
 | mp (id:Nat)
 | it (id:Nat)
 | cg
 deriving Inhabited
def θ.cells:θ->List θ
 | .a6 l=>l
 | a=>[a]
inductive Row where
 | cells (t:TypeId) (k:Nat) (l:List θ)
 | map (es:List (θ×θ))
 | iter (m:Nat) (left:List (θ×θ)) (cur:Option (θ×θ))
 | dead
 deriving Inhabited
def Row.g1 (r:Row) (n:Nat):Prop:=match r with|.cells _ _ l=>n<l.length|_=>True
abbrev aP:=List (Option (Nat×Nat))
abbrev aD:=Nat->Nat->Option Value
inductive au (S:aD) (B:aP) (σ:List Row):θ->Value->Prop where
 | z (v:Value):au S B σ (.z v) v
 | aa {cells:List θ} (b o:Nat) (w:Nat->Value):(∀(j:Nat) (a:θ),cells[j]?=some a->S b (o+j)=some (w j))->(∀(j:Nat) (a:θ),cells[j]?=some a->au S B σ a (w j))->au S B σ (.aa cells) (.pointer (some ⟨b,o,none⟩))
 | ix {ex:Bool} {k:Nat} (base:Option Addr) (cap:Nat):(ex=true->cap=0)->au S B σ (.sl ex k []) (.slice base 0 cap)
 | sl {ex:Bool} {k:Nat} {l:List θ} (b o cap:Nat) (w:Nat->Nat->Value):(ex=true->cap=l.length)->l.length<=cap->(∀(i:Nat) (e:θ),l[i]?=some e->e.cells.length=k)->
   (∀(i:Nat) (e:θ),l[i]?=some e->∀(j:Nat) (c:θ),e.cells[j]?=some c->S b (o+i*k+j)=some (w i j))->(∀(i:Nat) (e:θ),l[i]?=some e->∀(j:Nat) (c:θ),e.cells[j]?=some c->au S B σ c (w i j))->au S B σ (.sl ex k l) (.slice (some ⟨b,o,none⟩) l.length cap)
 | a6 {l:List θ} (vs:Array Value):l.length=vs.size->(∀(i:Nat) (a:θ) (v:Value),l[i]?=some a->vs[i]?=some v->au S B σ a v)->au S B σ (.a6 l) (.agg vs)
 | a3 {l:List θ} (vs:Array Value):l.length=vs.size->(∀(i:Nat) (a:θ) (v:Value),l[i]?=some a->vs[i]?=some v->au S B σ a v)->au S B σ (.a3 l) (.tuple vs)
 | an {id n i j k:Nat} {t:TypeId} {l:List θ} {b N:Nat}:σ[id]?=some (.cells t k l)->l.length=n->B[id]?=some (some (b,N))->au S B σ (.an id n i j) (.pointer (some ⟨b,i*k+j,none⟩))
 | jG {id n i j:Nat} {r:Row} (v:Value):σ[id]?=some r->r.g1 n->au S B σ (.an id n i j) v
 | ms {id n i len:Nat} {t:TypeId} {k:Nat} {l:List θ} {bo:Option (Nat×Nat)} {base:Option Addr} (cap:Nat):σ[id]?=some (.cells t k l)->l.length=n->B[id]?=some bo->i+len<=n->len<=cap->
   (cap=0\/∃b N,bo=some (b,N)/\base=some ⟨b,i*k,none⟩/\(i+cap)*k<=N)->au S B σ (.ms id n i len) (.slice base len cap)
 | iY {id n i len:Nat} {r:Row} (v:Value):σ[id]?=some r->r.g1 n->au S B σ (.ms id n i len) v
 | fn {f:Fn} {db cs:List θ} (vs ws:Array Value):db.length=vs.size->cs.length=ws.size->(∀(i:Nat) (a:θ) (v:Value),db[i]?=some a->vs[i]?=some v->au S B σ a v)->(∀(i:Nat) (a:θ) (v:Value),cs[i]?=some a->ws[i]?=some v->au S B σ a v)->au S B σ (.fn f db cs) (.func f vs ws)
 | fJ {t:TypeId} {a:θ} (v:Value):au S B σ a v->au S B σ (.fJ t a) (.iface t v)
 | mp {id:Nat} {es:List (θ×θ)} {b N:Nat}:σ[id]?=some (.map es)->B[id]?=some (some (b,N))->au S B σ (.mp id) (.map (some b))
 | lA {id:Nat} (v:Value):σ[id]?=some .dead->au S B σ (.mp id) v
 | it {id m:Nat} {left:List (θ×θ)} {cur:Option (θ×θ)} {b N:Nat}:σ[id]?=some (.iter m left cur)->B[id]?=some (some (b,N))->au S B σ (.it id) (.pointer (some ⟨b,0,none⟩))
 | m0 {id:Nat} (v:Value):σ[id]?=some .dead->au S B σ (.it id) v
 | cg (v:Value):au S B σ .cg v
def Row.to (r r':Row) (b Ψ:Option (Option (Nat×Nat))):Prop:=
 match r with
 | .cells t k l=>(∃dX,r'=.cells t k dX/\dX.length=l.length/\Ψ=b)\/∀n,n<=l.length->r'.g1 n
 | .map _=>(∃es',r'=.map es'/\Ψ=b)\/r'=.dead
 | .iter m _ _=>(∃F0 F1,r'=.iter m F0 F1/\Ψ=b)\/r'=.dead
 | .dead=>r'=.dead
structure bQ (S az:aD) (B B':aP) (σ σ':List Row):Prop where
 dc:∀b o v,S b o=some v->az b o=some v
 rows:∀(id:Nat) (r:Row),σ[id]?=some r->∃r':Row,σ'[id]?=some r'/\r.to r' B[id]? B'[id]?
theorem Row.rQ (r:Row) (b:Option (Option (Nat×Nat))):r.to r b b:=by
 cases r with
 | cells t k l=>exact .inl ⟨l,rfl,rfl,rfl⟩
 | map es=>exact .inl ⟨es,rfl,rfl⟩
 | iter m l c=>exact .inl ⟨l,c,rfl,rfl⟩
 | dead=>rfl
theorem bQ.refl (S:aD) (B:aP) (σ:List Row):bQ S S B B σ σ:=⟨λ_ _ _ h=>h,λ_ r h=>⟨r,h,r.rQ _⟩⟩
theorem Row.F2 {r r':Row} {b Ψ:Option (Option (Nat×Nat))} {n:Nat} (h:r.to r' b Ψ) (Ε:r.g1 n):r'.g1 n:=by
 cases r with
 | cells t k l=>
  rcases h with⟨dX,rfl,I,_⟩|h
  ·simp only[Row.g1] at Ε ⊢;omega
  ·exact h n (Nat.le_of_lt Ε)
 | map es=>rcases h with⟨es',rfl,_⟩|rfl<;>trivial
 | iter m l c=>rcases h with⟨dX,c',rfl,_⟩|rfl<;>trivial
 | dead=>cases h;trivial
theorem Row.SI {r r' B3:Row} {b Ψ Lu:Option (Option (Nat×Nat))} (h:r.to r' b Ψ) (k:r'.to B3 Ψ Lu):r.to B3 b Lu:=by
 cases r with
 | cells t e l=>
  rcases h with⟨dX,rfl,I,rfl⟩|h
  ·rcases k with⟨SJ,rfl,R,rfl⟩|k
   ·exact .inl ⟨SJ,rfl,R.trans I,rfl⟩
   ·exact .inr λn Ε=>k n γ
  ·exact .inr λn Ε=>Row.F2 k (h n Ε)
 | map es=>
  rcases h with⟨es',rfl,rfl⟩|rfl
  ·exact k
  ·cases k;exact .inr rfl
 | iter m l c=>
  rcases h with⟨dX,c',rfl,rfl⟩|rfl
  ·exact k
  ·cases k;exact .inr rfl
 | dead=>cases h;exact k
theorem bQ.trans {S az y3:aD} {B B' y4:aP} {σ σ' y5:List Row} (h:bQ S az B B' σ σ') (k:bQ az y3 B' y4 σ' y5):bQ S y3 B y4 σ y5:=
 ⟨λb o v x=>k.dc b o v (h.dc b o v x),λid r ι=>by
  obtain⟨r',I,R⟩:=h.rows id r ι;obtain⟨B3,ν,Ι⟩:=k.rows id r' I;exact⟨B3,ν,Row.SI R Ι⟩⟩
theorem au.later {S az:aD} {B B':aP} {σ σ':List Row} (υ:bQ S az B B' σ σ') {a:θ} {v:Value} (h:au S B σ a v):au az B' σ' a v:=by
 induction h with
 | z v=>exact .z v
 | aa b o w I _ ω=>exact .aa b o w (λj a δ=>υ.dc _ _ _ (I j a δ)) ω
 | ix base cap h=>exact .ix base cap h
 | sl b o cap w I R ν Ι _ ω=>exact .sl b o cap w I R ν (λi e hi j c δ=>υ.dc _ _ _ (Ι i e hi j c δ)) ω
 | a6 vs I _ ω=>exact .a6 vs I ω
 | a3 vs I _ ω=>exact .a3 vs I ω
 | an I R ν=>
  obtain⟨r',Γ,Θ⟩:=υ.rows _ _ I;rcases Θ with⟨dX,rfl,bO,cF⟩|Θ
  ·exact .an Γ (bO.trans R) (by rw[cF];exact ν)
  ·exact .jG _ Γ (Θ _ γ)
 | jG v I R=>
  obtain⟨r',Γ,Θ⟩:=υ.rows _ _ I;exact .jG _ Γ (Row.F2 Θ R)
 | ms cap I R ν Ι aB bn=>
  obtain⟨r',Γ,Θ⟩:=υ.rows _ _ I;rcases Θ with⟨dX,rfl,bO,cF⟩|Θ
  ·exact .ms cap Γ (bO.trans R) (by rw[cF];exact ν) Ι aB bn
  ·exact .iY _ Γ (Θ _ γ)
 | iY v I R=>
  obtain⟨r',Γ,Θ⟩:=υ.rows _ _ I;exact .iY _ Γ (Row.F2 Θ R)
 | fn vs ws I R _ _ rR me=>exact .fn vs ws I R rR me
 | fJ v _ ω=>exact .fJ v ω
 | mp I R=>
  obtain⟨r',Γ,Θ⟩:=υ.rows _ _ I;rcases Θ with⟨es',rfl,cF⟩|rfl
  ·exact .mp Γ (by rw[cF];exact R)
  ·exact .lA _ Γ
 | lA v I=>
  obtain⟨r',Γ,Θ⟩:=υ.rows _ _ I;cases Θ;exact .lA _ Γ
 | it I R=>
  obtain⟨r',Γ,Θ⟩:=υ.rows _ _ I;rcases Θ with⟨dX,c',rfl,cF⟩|rfl
  ·exact .it Γ (by rw[cF];exact R)
  ·exact .m0 _ Γ
 | m0 v I=>
  obtain⟨r',Γ,Θ⟩:=υ.rows _ _ I;cases Θ;exact .m0 _ Γ
 | cg v=>exact .cg v
end Go.TL
