import Derived.Test.YtlabjopijpkiaaaGreatQAG
set_option maxHeartbeats 16000000
set_option maxRecDepth 20000
set_option linter.unusedSectionVars false
set_option linter.unusedSimpArgs false
set_option linter.unusedVariables false
namespace Go.TL
open Go.Conc
open Go.ConcM (OsLater)
open Go.ConcN (sumTo upd sumTo_upd upd_ne upd_same sumTo_congr le_sumTo)
theorem Rv (t:Trace) (u:Trace) {k:Nat} (hu:∀op∈u,op.g≠k):Deaf (t++u) k=Deaf t k:=by
 obtain⟨l⟩:=u;rw[Deaf_append]
 induction l generalizing t with
 | nil=>rfl
 | cons y l Γ=>
  have Ο:y.g≠k:=hu y (by simp)
  have Ε:deafStep k (Deaf t k) y=Deaf t k:=by
   unfold deafStep;split<;>simp[Ο]
  rw[List.foldl_cons,Ε];exact Γ t (fun op Κ=>hu op (by simp at Κ ⊢;exact .inr Κ))
theorem Rw {said:Bool} {t:Trace} {y z:MemOp} (h:¬Race said t) (nt:∀op∈(#[y,z]:Trace),op.act.touch?=none):¬Race said (t++#[y,z]):=by
 have e:t++#[y,z]=(t++#[y])++#[z]:=by rw[Array.append_assoc];rfl
 rw[e];refine noRace_append (g:=z.g) (noRace_append (g:=y.g) h (fun op Κ=>by simp at Κ;rw[Κ]) fun k a _ op Κ b hb _=>?_) (fun op Κ=>by simp at Κ;rw[Κ]) fun k a _ op Κ b hb _=>?_
 ·simp at Κ;subst Κ;rw[nt op (by simp)] at hb;cases hb
 ·simp at Κ;subst Κ;rw[nt op (by simp)] at hb;cases hb
section
variable {P:Program} {Q:Value→Prop} {bl:World} {c c':cS} {gs:Array Goroutine} {w w':World} {t:Trace} {i:Nat} {g g':Goroutine} {es:Array Event}
variable {f:Bool×Goroutine×aR→fL (Bool×Goroutine×aR)}
theorem Inv.Ff (h:Inv P Q bl c gs w t) (Τ:gs[i]?=some g) (υ:JA P (i==0) (kQ P Q f) g (c.x i)):ht P Q bl c gs w t i f:=by
 obtain⟨s,sp,n,p,g',ch,mi,mj,R,ο,Ι,ay,sj,a6,cg,lG,a8,Rx⟩:=υ;have bb:i<gs.size:=lF Τ;obtain⟨o,Β,bQ⟩:=h.ba.pX i s sp R;subst bQ;have dy:c.tok i s=.par n (p+1) .add:=ο;have hd:c.deaf i=0:=Ι;have dQ:c.rel i=false:=a6;have ξ:=cg w (h.mem.fit (.inl i));have j6:gs.size≠i:=by omega
 let N:=gs.size
 let y:MemOp:={g:=i,fn:=g.frame.fn,pos:=g.frame.place,act:=.go gs.size}
 let z:MemOp:={g:=gs.size,fn:=ch.frame.fn,pos:=g.frame.place,act:=.start}
 have uf:Deaf t i=0:=by rw[h.bM.hears];exact hd
 have j8:Deaf t gs.size=0:=by
  have:=Rv #[] t (k:=gs.size) (fun op Κ e=>by
   obtain⟨k,υ⟩:=Array.mem_iff_getElem?.1 Κ;have:=h.dN.dr k op.g (by simp[Trace.g?,υ]);omega)
  rw[Array.empty_append] at this;exact this
 let A':aR:={c.x i with G:=mi,tok:=upd (c.tok i) s (.par n p .add),view:=upd (c.view i) s none}
 let Ba:aR:=⟨mj,fun _=>none,upd (fun _=>.nil) s (.ch (n-(p+1)) .idle .work),upd (fun _=>none) s (some o.toSpec),fun _=>none,0,false⟩
 let ee:=upd (bT c.tok i s (.par n p .add)) gs.size (upd (fun _=>.nil) s (.ch (n-(p+1)) .idle .work))
 let c':cS:={c with H:=bF (bF c.H (.inl i) mi) (.inl gs.size) mj,aC:=upd c.aC gs.size (fun _=>none),tok:=ee,spec:=upd c.spec gs.size (upd (fun _=>none) s (some o.toSpec)),view:=upd (upd c.view i (upd (c.view i) s none)) gs.size fun _=>none,deaf:=upd c.deaf gs.size 0,rel:=upd c.rel gs.size false,home:=upd c.home gs.size s,T:=upd (upd c.T i (f (i==0,g',A'))) gs.size (f (false,ch,Ba))}
 have Ry:=h.ba.fork Β dy
 have dD:=runT_crowd_spawn (sl:=none) Τ ξ
 have Rz:((MemOp.ofEvents i g.frame.fn g.frame.place #[]).push {g:=i,fn:=g.frame.fn,pos:=g.frame.place,act:=.go gs.size} |>.push {g:=gs.size,fn:=ch.frame.fn,pos:=g.frame.place,act:=.start})=#[y,z]:=by rw[J0];rfl
 have Kl:(Sum.inl i:cw)≠.inl gs.size:=fun e=>j6 (by cases e;rfl)
 have RA:∀r,ee gs.size r≠.nil→r=s:=fun r κ=>by
  apply Classical.byContradiction;intro e;apply κ;show upd (bT c.tok i s (.par n p .add)) gs.size (upd (fun _=>.nil) s (.ch (n-(p+1)) .idle .work)) gs.size r=.nil;rw[upd_same,upd_ne _ _ e]
 have Bb:∀j,j≠gs.size→ee j=bT c.tok i s (.par n p .add) j:=fun j ε=>upd_ne _ _ ε
 have RB:∀j r,j≠gs.size→ee j r≠.nil→c.tok j r≠.nil:=fun j r ε κ=>by
  rw[Bb j ε] at κ;exact yh dy (by simp) j r κ
 have sC:∀j r q eT,ee j r=.par q eT .bw↔c.tok j r=.par q eT .bw:=fun j r q eT=>by
  by_cases e:j=gs.size
  ·subst e;rw[h.ba.out gs.size r (Nat.le_refl _)];show upd (bT c.tok i s (.par n p .add)) gs.size (upd (fun _=>.nil) s (.ch (n-(p+1)) .idle .work)) gs.size r=_↔_;rw[upd_same];by_cases aH:r=s
   ·subst aH;rw[upd_same];simp
   ·rw[upd_ne _ _ aH]
  ·rw[Bb j e];exact A4 dy (by simp) (by simp) j r q eT
 have EZ:∀j r k L g,c.tok j r=.ch k (.c5 L) g→ee j r=.ch k (.c5 L) g:=fun j r k L g ε=>by
  have e:j≠gs.size:=fun e=>by rw[e,h.ba.out _ r (Nat.le_refl _)] at ε;cases ε
  rw[Bb j e,eG _ fun x=>?_]
  ·exact ε
  ·obtain⟨rfl,rfl⟩:=x;rw[dy] at ε;cases ε
 have eK:∀j,j≠gs.size→c'.rel j=c.rel j:=fun j ε=>upd_ne _ _ ε
 have Bc:∀j,c'.rel j=true→j≠gs.size:=fun j ε e=>by
  subst e;have:upd c.rel gs.size false gs.size=true:=ε;rw[upd_same] at this;cases this
 have fu:∀j b v,upd c.aC gs.size (fun _=>none) j b=some v→c.aC j b=some v:=fun j b v hv=>by
  by_cases e:j=gs.size
  ·subst e;rw[upd_same] at hv;cases hv
  ·rw[upd_ne _ _ e] at hv;exact hv
 have nt:∀op∈(#[y,z]:Trace),op.act.touch?=none:=fun op Κ=>by simp at Κ;rcases Κ with rfl|rfl<;>rfl
 have mo:∀op∈(#[y,z]:Trace),∀m,op.act≠.mark m:=fun op Κ m=>by simp at Κ;rcases Κ with rfl|rfl<;>simp[y,z]
 have Km:∀k,Knows t i k→Knows (t++#[y,z]) gs.size k:=fun k υ=>Knows.spawn υ rfl rfl rfl rfl uf j8
 have RD:∀a k,iU c.tok c.O t a k→iU ee c.O (t++#[y,z]) a k:=fun a k υ=>by
  cases a with
  | inl j=>exact Knows.app _ υ
  | inr b=>
   rcases υ with⟨p,op,R,γ,ο,Ι⟩|υ
   ·have χ:=lt_size_of_getElem? R;exact .inl ⟨p,op,by rw[getElem?_append_old χ];exact R,γ,(heard_old χ).2 ο,Ι.app _⟩
   ·refine .inr fun bj o' im hb j ε=>?_;by_cases e:j=gs.size
    ·subst e;have:=RA bj ε;subst this;exact Km k (υ _ o' im hb i (by rw[dy];simp))
    ·exact(υ bj o' im hb j (RB j bj e ε)).app _
 have Kn:∀a,c8 (t++#[y,z]) (iU ee c.O (t++#[y,z]) a) (c.H a):=fun a=>
  (h.bM.perms a).others (RD a) fun op Κ x δ=>by rw[nt op Κ] at δ;cases δ
 have hinv:Inv P Q bl c' ((gs.setIfInBounds i g').push ch) w (t++#[y,z]):=by
  have cd:((gs.setIfInBounds i g').push ch).size=gs.size+1:=by simp
  refine⟨by rw[cd];omega,(h.mem.two (lG.l.fits (h.mem.fit (.inl i))) (lG.r.fits (h.mem.fit (.inl i))) h.mem.ft).vO fu,(h.hold.two Kl lG.l.pY lG.r.pY lG.apart ⟨fun s o ξ=>⟨o,ξ,rfl⟩,fun s o ξ=>⟨o,ξ,rfl⟩⟩ fun x δ=>by rcases δ with e|e<;>cases e).vO fu,?_,by rw[cd];exact Ry,?_,?_,?_,?_⟩
  ·refine⟨fun said=>Rw (h.bM.race said) nt,fun op Κ=>?_,fun op Κ a=>?_,fun a=>?_,fun j b v hv k a υ=>?_,fun bj o' b im hb k a υ e0=>?_,fun j=>?_⟩
   ·rcases Array.mem_append.1 Κ with Κ|Κ
    ·exact h.bM.low op Κ
    ·simp at Κ;rcases Κ with rfl|rfl<;>trivial
   ·rcases Array.mem_append.1 Κ with Κ|Κ
    ·exact h.bM.norel op Κ a
    ·exact mo op Κ _
   ·show c8 _ _ (bF (bF c.H (.inl i) mi) (.inl gs.size) mj a);by_cases Δ:a=.inl gs.size
    ·subst Δ;rw[dt];exact(((h.bM.perms (.inl i)).others Km fun op Κ x δ=>by rw[nt op Κ] at δ;cases δ):c8 _ (Knows _ gs.size) _).sub lG.r
    ·rw[bG _ _ Δ];by_cases Ε:a=.inl i
     ·subst Ε;rw[dt];exact(Kn (.inl i)).sub lG.l
     ·rw[bG _ _ Ε];exact Kn a
   ·have:=fu j b v hv;rcases mf υ with gY|⟨_,op,Κ,_,δ⟩
    ·exact h.bM.nS j b v this k a gY
    ·rw[nt op Κ] at δ;cases δ
   ·rcases mf υ with gY|⟨_,op,Κ,_,δ⟩
    ·rcases h.bM.cont bj o' b im hb k a gY e0 with x|⟨x,cZ⟩
     ·exact .inl x
     ·obtain⟨op,iX,_⟩:=touch_of gY;exact .inr ⟨x,by rw[g?_old (lt_size_of_getElem? iX)];exact cZ⟩
    ·rw[nt op Κ] at δ;cases δ
   ·have Ε:Deaf (t++#[y,z]) j=Deaf t j:=by
     have e:t++#[y,z]=(t++#[y])++#[z]:=by rw[Array.append_assoc];rfl
     rw[e,Deaf_push,Deaf_push];simp[deafStep,y,z]
    rw[Ε];by_cases e:j=gs.size
    ·subst e;rw[j8];exact(upd_same ..).symm
    ·rw[h.bM.hears];exact(upd_ne _ _ e).symm
  ·have h6:∀b,bF (bF c.H (.inl i) mi) (.inl gs.size) mj (.inr b)=c.H (.inr b):=fun b=>by rw[h4,h4]
   refine⟨fun r q m Υ hm bY hN=>?_,fun r q Υ bY=>?_⟩
   ·show q.aG q.L (bF (bF c.H (.inl i) mi) (.inl gs.size) mj (.inr m));rw[h6];exact h.ed.oU r q m Υ hm (fun j q p x=>bY j q p ((sC j r q p).2 x)) fun j k L g x=>hN j k L g (EZ _ _ _ _ _ x)
   ·show kM q.D q.ab (bF (bF c.H (.inl i) mi) (.inl gs.size) mj (.inr r));rw[h6];exact h.ed.lB r q Υ (fun j q p x=>bY j q p ((sC j r q p).2 x))
  ·rw[cd];refine⟨fun k a υ=>?_,fun j fi ε=>?_,fun j fi ε bY=>?_,fun j fi ε a b=>?_⟩
   ·obtain⟨op,Κ,gX⟩:=Option.map_eq_some_iff.1 υ;rcases getElem?_append_cases Κ with⟨_,j4⟩|⟨_,fO⟩
    ·have:=h.dN.dr k a (by simp[Trace.g?,j4,gX]);omega
    ·simp at fO;rcases fO with rfl|rfl
     ·rw[←gX];show i<gs.size+1;omega
     ·rw[←gX];show gs.size<gs.size+1;omega
   ·have eI:=Bc j ε;rw[eK j eI] at ε;obtain⟨op,a1,bg,cv,fK,ha⟩:=h.dN.c1 j fi ε;have χ:=lt_size_of_getElem? a1;refine⟨op,?_,bg,?_,(heard_old χ).2 fK,fun Ω gY η=>?_⟩
    ·show(t++#[y,z])[c.dk j]?=some op;rw[getElem?_append_old χ];exact a1
    ·show op.act=.mark (.releaseMerge ⟨upd c.home gs.size s j,0,none⟩);rw[upd_ne _ _ eI];exact cv
    ·obtain⟨q3,Κ,gX⟩:=Option.map_eq_some_iff.1 gY;rcases getElem?_append_cases Κ with⟨p9,j4⟩|⟨hle,fO⟩
     ·exact(ha Ω (by simp[Trace.g?,j4,gX]) ((yb p9).1 η)).app _
     ·exact absurd η (vL nt Ω hle)
   ·have eI:=Bc j ε;rw[eK j eI] at ε;obtain⟨q,eT,Υ⟩:=bY;have ym:c'.home j=c.home j:=upd_ne _ _ eI;rw[ym] at Υ ⊢;exact(h.dN.c2 j fi ε ⟨q,eT,(sC _ _ _ _).1 Υ⟩).app _
   ·have eI:=Bc j ε;rw[eK j eI] at ε;have ym:c'.home j=c.home j:=upd_ne _ _ eI;rw[ym] at a b ⊢;have RE:=Bc _ b;rw[eK _ RE] at b;exact(h.dN.c3 j fi ε a b).app _
  ·refine⟨fun r q bW Υ c0 p op χ μ=>?_,fun j b v hv op Κ μ=>?_⟩
   ·rcases getElem?_append_cases χ with⟨p9,fP⟩|⟨_,fO⟩
    ·obtain⟨⟨Ω,E6,g,ο⟩,Ι⟩:=h.fN.iv r q bW Υ c0 p op fP μ;have eI:op.g≠gs.size:=fun e=>by rw[e,h.ba.out _ r (Nat.le_refl _)] at ο;cases ο
     refine⟨?_,fun κ=>?_⟩
     ·rw[show c'.tok op.g=bT c.tok i s (.par n _ .add) op.g from Bb _ eI];exact yi dy (fun _ _ _ e=>by cases e) _ _ _ _ _ ο
     ·rw[eK _ eI] at κ;exact(Ι κ).app _
    ·exact absurd μ (mo op fO _)
   ·rcases Array.mem_append.1 Κ with Κ|Κ
    ·exact h.fN.tX j b v (fu j b v hv) op Κ μ
    ·exact mo op Κ _ μ
  ·intro j b hb;by_cases e:j=gs.size
   ·subst e;rw[Array.getElem?_push] at hb;simp at hb;subst hb;refine⟨ch,?_,.inl rfl⟩;have δ:c'.x gs.size=Ba:=by simp[c',Ba,ee,cS.x,upd_same]
    have Ζ:c'.T gs.size=f (false,ch,Ba):=upd_same ..
    have hm:(gs.size==0)=false:=by rw[beq_eq_false_iff_ne];exact Nat.ne_of_gt h.pos
    rw[δ,Ζ,hm];exact Rx
   ·have dv:(gs.setIfInBounds i g')[j]?=some b:=by
     rw[Array.getElem?_push] at hb;simpa[e] using hb
    by_cases Ε:j=i
    ·subst Ε;rw[Array.getElem?_setIfInBounds_self_of_lt bb] at dv;cases dv;refine⟨g',?_,.inl rfl⟩;have δ:c'.x j=A':=by simp[c',A',ee,cS.x,upd_same,upd_ne _ _ e,ua,bG _ _ Kl]
     have Ζ:c'.T j=f (j==0,g',A'):=by show upd (upd c.T j _) gs.size _ j=_;rw[upd_ne _ _ e,upd_same]
     rw[δ,Ζ];exact a8
    ·rw[Array.getElem?_setIfInBounds_ne (Ne.symm Ε)] at dv;obtain⟨cH,EP,jP⟩:=h.tY j b dv;have hc:(Sum.inl j:cw)≠.inl gs.size:=fun x=>e (by cases x;rfl);have fE:(Sum.inl j:cw)≠.inl i:=fun x=>Ε (by cases x;rfl);have δ:c'.x j=c.x j:=by simp[c',ee,cS.x,upd_ne _ _ e,upd_ne _ _ Ε,q6 _ Ε,bG _ _ hc,bG _ _ fE]
     have Ζ:c'.T j=c.T j:=by show upd (upd c.T i _) gs.size _ j=_;rw[upd_ne _ _ e,upd_ne _ _ Ε]
     have Μ:c'.tok j=c.tok j:=congrArg aR.tok δ;refine⟨cH,by rw[δ,Ζ];exact EP,?_⟩;rw[Μ];exact jP
 refine fun sl=>⟨c',_,w,_,runT_crowd_spawn Τ ξ,?_,.inr (.inl ⟨by simp,_,_,rfl⟩)⟩;rw[Rz];exact hinv
end
theorem RF (sp:Spec):cF (aK.new sp)=0:=by simp[cF,aK.new]
theorem RG (sp:Spec):mwd (aK.new sp)=0:=by simp[mwd,aK.new]
section
variable {P:Program} {Q:Value→Prop} {bl:World} {c c':cS} {gs:Array Goroutine} {w w':World} {t:Trace} {i:Nat} {g g':Goroutine} {es:Array Event}
variable {f:Bool×Goroutine×aR→fL (Bool×Goroutine×aR)}
theorem Inv.seen (h:Inv P Q bl c gs w t) (Τ:gs[i]?=some g)
  (mem:gI c'.H c'.aC c'.O bl w) (hold:hL c'.H c'.aC c'.O bl.heap.size) (bM:h2 c'.H c'.aC c'.tok c'.O c'.bs c'.deaf w.heap.size t)
  (ba:ev gs.size c'.tok c'.spec c'.view c'.rel c'.O c'.bs c'.home) (ed:vH c'.H c'.tok c'.O) (dN:tW gs.size c'.tok c'.rel c'.bs c'.home c'.dk t) (fN:vI c'.aC c'.tok c'.O c'.rel c'.dk t)
  (EY:Rec P Q c' i g) (δ:∀j,j≠i→c'.x j=c.x j∧c'.T j=c.T j) (cN:∀s o,c.O s=some o→c'.O s=some o):Inv P Q bl c' gs w t:=by
 refine⟨h.pos,mem,hold,bM,ba,ed,dN,fN,fun j b hb=>?_⟩;by_cases e:j=i
 ·subst e;rw[Τ] at hb;cases hb;exact EY
 ·obtain⟨cH,R,γ⟩:=h.tY j b hb;obtain⟨Ε,Δ⟩:=δ j e;have Μ:c'.tok j=c.tok j:=congrArg aR.tok Ε;refine⟨cH,by rw[Ε,Δ];exact R,γ.imp id fun⟨a1,bg,s,o,cv,fK,ha⟩=>⟨a1,bg,s,o,cN s o cv,by rw[Μ];exact fK,by rw[Μ];exact ha⟩⟩
theorem Inv.RH (h:Inv P Q bl c gs w t) (Τ:gs[i]?=some g) {b:Nat} {cs:Array Value} {ty:TypeId} (hb:c.aC i b=some (cs,ty)) {cZ:aR}
  (g8:cZ={c.x i with aC:=upd (c.aC i) b none,G:=⟨fun Φ o=>if Φ=b then(cs[o]?).map (·,true) else(c.H (.inl i)).aF Φ o,fun Φ=>if Φ=b then some (ty,cs.size) else(c.H (.inl i)).row Φ,(c.H (.inl i)).obj⟩}) (a8:kQ P Q f (i==0) g cZ):A3 P Q bl c gs w t i f:=by
 let G':ψ:=⟨fun Φ o=>if Φ=b then(cs[o]?).map (·,true) else(c.H (.inl i)).aF Φ o,fun Φ=>if Φ=b then some (ty,cs.size) else(c.H (.inl i)).row Φ,(c.H (.inl i)).obj⟩;obtain⟨f1,f2,f3⟩:=h.hold.fresh i b _ hb;have Ko:=h.mem.ly i b cs ty hb;have Bd:∀Φ o,Φ≠b→G'.aF Φ o=(c.H (.inl i)).aF Φ o:=fun Φ o e=>by simp[G',e]
 have RI:∀o,G'.aF b o=(cs[o]?).map (·,true):=fun o=>by simp[G']
 have Kp:∀Φ o,Φ≠b→(G'.has Φ o↔(c.H (.inl i)).has Φ o):=fun Φ o e=>by unfold ψ.has;rw[Bd Φ o e]
 have Kq:∀Φ o,Φ≠b→(G'.owns Φ o↔(c.H (.inl i)).owns Φ o):=fun Φ o e=>by unfold ψ.owns;rw[Bd Φ o e]
 have RJ:∀Φ,G'.eQ Φ↔(c.H (.inl i)).eQ Φ:=fun Φ=>Iff.rfl
 have Kr:∀Φ,Φ≠b→(c.H (.inl i)).off Φ→G'.off Φ:=fun Φ e Β=>⟨fun o aS=>Β.1 o ((Kp Φ o e).1 aS),Β.2⟩
 let c':cS:={c with H:=bF c.H (.inl i) G',aC:=upd c.aC i (upd (c.aC i) b none),T:=upd c.T i (f (i==0,g,cZ))}
 have fu:∀j Φ v,upd c.aC i (upd (c.aC i) b none) j Φ=some v→c.aC j Φ=some v∧Φ≠b:=fun j Φ v hv=>by
  by_cases e:j=i
  ·subst e;rw[upd_same] at hv;by_cases aH:Φ=b
   ·subst aH;rw[upd_same] at hv;cases hv
   ·rw[upd_ne _ _ aH] at hv;exact⟨hv,aH⟩
  ·rw[upd_ne _ _ e] at hv;exact⟨hv,fun aH=>by rw[aH,f3 j e] at hv;cases hv⟩
 have RK:∀s o Φ,c.O s=some o→dW s o.toSpec Φ→Φ≠b:=fun s o Φ ξ dv e=>by
  have:=(h.hold.jK s o Φ ξ dv).2.2 i;rw[e,hb] at this;cases this
 have ap:∀k,k≠.inl i→Apart G' (c.H k):=fun k υ=>by
  have a:=h.hold.apart _ _ (Ne.symm υ);refine⟨fun Φ o x y=>?_,fun Φ o x y=>?_,fun Φ x y=>a.obj Φ x y⟩
  ·by_cases e:Φ=b
   ·subst e;exact(f2 k).1 o y
   ·exact a.aF Φ o ((Kq Φ o e).1 x) y
  ·by_cases e:Φ=b
   ·subst e;exact(f2 k).1 o ⟨_,x.choose_spec⟩
   ·exact a.pP Φ o x ((Kp Φ o e).1 y)
 have m5:c'.x i=cZ:=by rw[g8];simp[c',G',cS.x,upd_same]
 refine⟨c',h.seen (c':=c') Τ ⟨fun k=>?_,fun j Φ cs' iS hv=>h.mem.ly j Φ cs' iS (fu j Φ _ hv).1,h.mem.ft,h.mem.keep⟩
  ⟨fun k l iz=>?_,fun k Φ o Β=>?_,fun k Φ Β=>?_,fun j Φ v hv=>?_,fun s o Φ ξ dv=>?_,h.hold.j2,h.hold.oT,fun Φ dv=>?_⟩ ⟨h.bM.race,h.bM.low,h.bM.norel,fun k=>?_,fun j Φ v hv=>h.bM.nS j Φ v (fu j Φ v hv).1,h.bM.cont,h.bM.hears⟩ h.ba (h.ed.ye fun Φ=>h4 c.H i G' Φ) h.dN
  ⟨h.fN.iv,fun j Φ v hv=>h.fN.tX j Φ v (fu j Φ v hv).1⟩ ⟨g,?_,.inl rfl⟩ (fun j ε=>⟨?_,upd_ne _ _ ε⟩) fun _ _ a=>a,_,rfl⟩
 ·show Fits (bF c.H (.inl i) G' k) w;by_cases e:k=.inl i
  ·subst e;rw[dt];have gx:=h.mem.fit (.inl i);refine⟨fun Φ o v p η=>?_,fun Φ t' iq κ=>?_,gx.obj⟩
   ·by_cases aH:Φ=b
    ·subst aH;rw[RI] at η;cases δ:cs[o]? with
     | none=>rw[δ] at η;cases η
     | some eZ=>rw[δ] at η;cases η;exact mX Ko δ
    ·rw[Bd Φ o aH] at η;exact gx.aF Φ o v p η
   ·by_cases aH:Φ=b
    ·subst aH;simp[G'] at κ;obtain⟨rfl,rfl⟩:=κ;exact⟨cs,Ko,rfl⟩
    ·simp[G',aH] at κ;exact gx.row Φ t' iq κ
  ·rw[bG _ _ e];exact h.mem.fit k
 ·show Apart (bF c.H (.inl i) G' k) (bF c.H (.inl i) G' l);by_cases e:k=.inl i
  ·subst e;rw[dt,bG _ _ (Ne.symm iz)];exact ap l (Ne.symm iz)
  ·rw[bG _ _ e];by_cases aH:l=.inl i
   ·subst aH;rw[dt];exact(ap k e).symm
   ·rw[bG _ _ aH];exact h.hold.apart k l iz
 ·replace Β:(bF c.H (.inl i) G' k).owns Φ o:=Β
  by_cases e:k=.inl i
  ·subst e;rw[dt] at Β;by_cases aH:Φ=b
   ·subst aH;exact f1
   ·exact h.hold.high _ _ _ ((Kq Φ o aH).1 Β)
  ·rw[bG _ _ e] at Β;exact h.hold.high _ _ _ Β
 ·replace Β:(bF c.H (.inl i) G' k).eQ Φ:=Β
  by_cases e:k=.inl i
  ·subst e;rw[dt] at Β;exact h.hold.m3 _ _ ((RJ Φ).1 Β)
  ·rw[bG _ _ e] at Β;exact h.hold.m3 _ _ Β
 ·obtain⟨kP,bu⟩:=fu j Φ v hv;obtain⟨a1,bg,cv⟩:=h.hold.fresh j Φ v kP;refine⟨a1,fun k=>?_,fun bC bh=>?_⟩
  ·show(bF c.H (.inl i) G' k).off Φ;by_cases e:k=.inl i
   ·subst e;rw[dt];exact Kr Φ bu (bg _)
   ·rw[bG _ _ e];exact bg k
  ·cases δ:c'.aC bC Φ with
   | none=>rfl
   | some eZ=>have:=(fu bC Φ eZ δ).1;rw[cv bC bh] at this;cases this
 ·obtain⟨a1,bg,cv⟩:=h.hold.jK s o Φ ξ dv;have bu:=RK s o Φ ξ dv;refine⟨a1,fun k=>?_,fun bC=>?_⟩
  ·show(bF c.H (.inl i) G' k).off Φ;by_cases e:k=.inl i
   ·subst e;rw[dt];exact Kr Φ bu (bg _)
   ·rw[bG _ _ e];exact bg k
  ·cases δ:c'.aC bC Φ with
   | none=>rfl
   | some eZ=>have:=(fu bC Φ eZ δ).1;rw[cv bC] at this;cases this
 ·show bF c.H (.inl i) G' (.inr Φ)=ψ.empty;rw[h4];exact h.hold.ed Φ dv
 ·show c8 t (iU c.tok c.O t k) (bF c.H (.inl i) G' k);by_cases e:k=.inl i
  ·subst e;rw[dt];have χ:=h.bM.perms (.inl i);refine⟨fun Φ o v p η k a μ ω hw=>?_,χ.obj⟩;by_cases aH:Φ=b
   ·exfalso;refine h.bM.nS i b _ hb k a μ ?_;rw[ω];exact aH
   ·rw[Bd Φ o aH] at η;exact χ.aF Φ o v p η k a μ ω hw
  ·rw[bG _ _ e];exact h.bM.perms k
 ·rw[m5];show iT P Q (upd c.T i (f (i==0,g,cZ)) i) _ _ _;rw[upd_same];exact a8
 ·have fE:(Sum.inl j:cw)≠.inl i:=fun x=>ε (by cases x;rfl);simp[c',cS.x,upd_ne _ _ ε,bG _ _ fE]
theorem Inv.less (h:Inv P Q bl c gs w t) (Τ:gs[i]?=some g) {G':ψ} (ξ:Sub G' (c.H (.inl i))) (a8:kQ P Q f (i==0) g {c.x i with G:=G'}):A3 P Q bl c gs w t i f:=by
 let cZ:aR:={c.x i with G:=G'}
 let c':cS:={c with H:=bF c.H (.inl i) G',T:=upd c.T i (f (i==0,g,cZ))}
 have m5:c'.x i=cZ:=by simp[c',cZ,cS.x]
 have RL:upd c.aC i (c.aC i)=c.aC:=A1 rfl
 have hm:=h.mem.own h.hold i (fe.refl _ _ w) (ξ.fits (h.mem.fit (.inl i))) (h.mem.ly i) rfl
 have aS:=h.hold.own h.mem h.mem.keep.size i (G':=G') (V':=c.aC i) ⟨fun b o v p η=>.inr (let ⟨fg,ae,χ⟩:=ξ.aF b o v p η;⟨v,fg,ae,χ⟩),fun b hb=>.inr (ξ.eQ hb)⟩ (fun b x δ=>.inl δ);rw[RL] at hm aS;refine⟨c',h.seen (c':=c') Τ hm aS ⟨h.bM.race,h.bM.low,h.bM.norel,fun k=>?_,h.bM.nS,h.bM.cont,h.bM.hears⟩ h.ba (h.ed.ye fun Φ=>h4 c.H i G' Φ) h.dN h.fN ⟨g,?_,.inl rfl⟩ (fun j ε=>⟨?_,upd_ne _ _ ε⟩) fun _ _ a=>a,_,rfl⟩
 ·show c8 t (iU c.tok c.O t k) (bF c.H (.inl i) G' k);by_cases e:k=.inl i
  ·subst e;rw[dt];exact(h.bM.perms (.inl i)).sub ξ
  ·rw[bG _ _ e];exact h.bM.perms k
 ·rw[m5];show iT P Q (upd c.T i (f (i==0,g,cZ)) i) _ _ _;rw[upd_same];exact a8
 ·have fE:(Sum.inl j:cw)≠.inl i:=fun x=>ε (by cases x;rfl);simp[c',cS.x,bG _ _ fE]
theorem Inv.group (h:Inv P Q bl c gs w t) (Τ:gs[i]?=some g) {s:Nat} {sp:Spec} {ty:TypeId} {G' E:ψ} (ξ:c.aC i s=some (#[.int .u64 0,.int .u32 0],ty)) (e':∀m,sp.aQ=some m→m≠s∧∃iS,c.aC i m=some (#[.int .i32 0,.int .u32 0],iS))
  (dQ:c.rel i=false) (bQ:Split (c.H (.inl i)) G' E) (da:sp.aQ≠none→sp.aG [] E) {cZ:aR}
  (g8:cZ={c.x i with G:=G',aC:=fun b=>if b=s∨sp.aQ=some b then none else c.aC i b,tok:=upd (c.tok i) s (.par 0 0 .add),spec:=upd (c.spec i) s (some sp),view:=upd (c.view i) s none}) (a8:kQ P Q f (i==0) g cZ):A3 P Q bl c gs w t i f:=by
 have bb:i<gs.size:=lF Τ
 have q9:c.O s=none:=by
  cases δ:c.O s with
  | none=>rfl
  | some o=>have:=(h.hold.jK s o s δ (.inl rfl)).2.2 i;rw[ξ] at this;cases this
 have mq:∀b,dW s sp b→∃v,c.aC i b=some v:=fun b hb=>by
  rcases hb with rfl|hb
  ·exact⟨_,ξ⟩
  ·obtain⟨_,iS,R⟩:=e' b hb;exact⟨_,R⟩
 have mr:∀r o b,c.O r=some o→dW r o.toSpec b→¬dW s sp b:=fun r o b κ hb dv=>by
  obtain⟨v,hv⟩:=mq b dv;have:=(h.hold.jK r o b κ hb).2.2 i;rw[hv] at this;cases this
 have js:∀r o,c.O r=some o→r≠s:=fun r o κ e=>by rw[e,q9] at κ;cases κ
 let V':Nat→Option (Array Value×TypeId):=fun b=>if b=s∨sp.aQ=some b then none else c.aC i b
 let O':=upd c.O s (some (aK.new sp))
 have fu:∀j b v,upd c.aC i V' j b=some v→c.aC j b=some v∧¬dW s sp b:=fun j b v hv=>by
  by_cases e:j=i
  ·subst e;rw[upd_same] at hv;by_cases aH:b=s∨sp.aQ=some b
   ·simp[V',aH] at hv
   ·simp[V',aH] at hv;exact⟨hv,aH⟩
  ·rw[upd_ne _ _ e] at hv;refine⟨hv,fun hb=>?_⟩;obtain⟨eZ,kP⟩:=mq b hb;have:=(h.hold.fresh i b eZ kP).2.2 j e;rw[this] at hv;cases hv
 have Ks:∀j b,c.aC j b=none→upd c.aC i V' j b=none:=fun j b e=>by
  cases δ:upd c.aC i V' j b with
  | none=>rfl
  | some v=>have:=(fu j b v δ).1;rw[e] at this;cases this
 have RN:∀j b,dW s sp b→upd c.aC i V' j b=none:=fun j b hb=>by
  cases δ:upd c.aC i V' j b with
  | none=>rfl
  | some v=>exact absurd hb (fu j b v δ).2
 have gK:∀r q,O' r=some q→(r=s∧q=aK.new sp)∨(r≠s∧c.O r=some q):=fun r q Υ=>by
  by_cases e:r=s
  ·subst e;rw[show O' r=some (aK.new sp) from upd_same ..] at Υ;cases Υ;exact .inl ⟨rfl,rfl⟩
  ·rw[show O' r=c.O r from upd_ne _ _ e] at Υ;exact .inr ⟨e,Υ⟩
 have holdA:hL c.H (upd c.aC i V') O' bl.heap.size:=by
  refine⟨h.hold.apart,h.hold.high,h.hold.m3,fun j b v hv=>?_,fun r o b κ hb=>?_,fun r r' o o' b κ e2 hb dv=>?_,fun r o m κ hm=>?_,fun b hb=>h.hold.ed b fun r o κ hi=>hb r o (by rw[show O' r=c.O r from upd_ne _ _ (js r o κ)];exact κ) hi⟩
  ·obtain⟨a1,bg,cv⟩:=h.hold.fresh j b v (fu j b v hv).1;exact⟨a1,bg,fun bC bh=>Ks bC b (cv bC bh)⟩
  ·rcases gK r o κ with⟨rfl,rfl⟩|⟨e,e2⟩
   ·obtain⟨v,hv⟩:=mq b hb;obtain⟨a1,bg,_⟩:=h.hold.fresh i b v hv;exact⟨a1,bg,fun j=>RN j b hb⟩
   ·obtain⟨a1,bg,cv⟩:=h.hold.jK r o b e2 hb;exact⟨a1,bg,fun j=>Ks j b (cv j)⟩
  ·rcases gK r o κ with⟨rfl,rfl⟩|⟨e,q'⟩<;>rcases gK r' o' e2 with⟨rfl,rfl⟩|⟨aH,vS⟩
   ·rfl
   ·exact absurd hb (mr r' o' b vS dv)
   ·exact absurd dv (mr r o b q' hb)
   ·exact h.hold.j2 r r' o o' b q' vS hb dv
  ·rcases gK r o κ with⟨rfl,rfl⟩|⟨e,e2⟩
   ·exact(e' m hm).1
   ·exact h.hold.oT r o m e2 hm
 have Kt:O' s=some (aK.new sp):=upd_same ..
 have Ku:c.H (.inr s)=ψ.empty:=h.hold.ed s fun r o κ hi=>mr r o s κ hi (.inl rfl)
 have lC:∀r q,O' r=some q→At r q w:=fun r q Υ=>by
  rcases gK r q Υ with⟨rfl,rfl⟩|⟨_,bX⟩
  ·refine⟨⟨ty,?_⟩,fun m hm=>let ⟨_,iS,hv⟩:=e' m hm;⟨iS,?_⟩⟩
   ·rw[RF];exact h.mem.ly i r _ _ ξ
   ·rw[RG];exact h.mem.ly i m _ _ hv
  ·exact h.mem.ft _ _ bX
 obtain⟨bJ,iZ,iA,E7,j5,E8,E9,Fa⟩:∃bJ:cw→ψ,bJ (.inl i)=G'∧(∀j,j≠i→bJ (.inl j)=c.H (.inl j))∧(∀b,¬dW s sp b→bJ (.inr b)=c.H (.inr b))∧(bJ (.inr s)=ψ.empty∧∀m,sp.aQ=some m→bJ (.inr m)=E)∧
   hL bJ (upd c.aC i V') O' bl.heap.size∧gI bJ (upd c.aC i V') O' bl w∧∀a,c8 t (iU (bT c.tok i s (.par 0 0 .add)) O' t a) (bJ a):=by
  have vQ:=h.bM.perms (.inl i)
  have Kv:∀a,(∀b,a=.inr b→¬dW s sp b)→c8 t (iU (bT c.tok i s (.par 0 0 .add)) O' t a) (c.H a):=fun a μ=>by
   refine(h.bM.perms a).mono fun k υ=>?_;cases a with
   | inl j=>exact υ
   | inr b=>
    refine υ.imp id fun υ r o κ hb j ε=>?_;rcases gK r o κ with⟨rfl,rfl⟩|⟨e,e2⟩
    ·exact absurd hb (μ b rfl)
    ·rw[eG _ (fun x=>e x.2)] at ε;exact υ r o e2 hb j ε
  have Kw:gI c.H (upd c.aC i V') c.O bl w:=h.mem.vO fun j b v hv=>(fu j b v hv).1
  have hc:(Sum.inl i:cw)≠.inr s:=by simp
  cases hm:sp.aQ with
  | none=>
   refine⟨bF (bF c.H (.inl i) G') (.inr s) ψ.empty,?_,fun j ε=>?_,fun b hb=>?_,⟨dt ..,fun m e=>(by cases e)⟩,?_,Kw.two (bQ.l.fits (h.mem.fit (.inl i))) (tT w) lC,fun a=>?_⟩
   ·rw[bG _ _ hc,dt]
   ·rw[bG _ _ (by simp),bG _ _ (fun e=>ε (by cases e;rfl))]
   ·have:(Sum.inr b:cw)≠.inr s:=fun e=>hb (by cases e;exact .inl rfl);rw[bG _ _ this,h4]
   ·exact holdA.two hc bQ.l.pY (Sub.empty _) (Apart.ss _) ⟨fun s o ξ=>⟨o,ξ,rfl⟩,fun s o ξ=>⟨o,ξ,rfl⟩⟩ fun x δ=>by
     rcases δ with e|e
     ·cases e;exact⟨s,_,Kt,.inl rfl⟩
     ·cases e
   ·by_cases Δ:a=.inr s
    ·subst Δ;rw[dt];exact c8.empty
    ·rw[bG _ _ Δ];by_cases Ε:a=.inl i
     ·subst Ε;rw[dt];exact vQ.sub bQ.l
     ·rw[bG _ _ Ε];refine Kv a fun b e hb=>?_;subst e;rcases hb with rfl|hb
      ·exact Δ rfl
      ·rw[hm] at hb;cases hb
  | some m=>
   have q8:=(e' m hm).1
   have fE:(Sum.inl i:cw)≠.inr m:=by simp
   refine⟨bF (bF c.H (.inl i) G') (.inr m) E,?_,fun j ε=>?_,fun b hb=>?_,⟨?_,fun bW e=>?_⟩,?_,Kw.two (bQ.l.fits (h.mem.fit (.inl i))) (bQ.r.fits (h.mem.fit (.inl i))) lC,fun a=>?_⟩
   ·rw[bG _ _ fE,dt]
   ·rw[bG _ _ (by simp),bG _ _ (fun e=>ε (by cases e;rfl))]
   ·have:(Sum.inr b:cw)≠.inr m:=fun e=>hb (by cases e;exact .inr hm);rw[bG _ _ this,h4]
   ·have:(Sum.inr s:cw)≠.inr m:=fun e=>q8 (by cases e;rfl);rw[bG _ _ this,h4];exact Ku
   ·cases e;rw[dt]
   ·exact holdA.two fE bQ.l.pY bQ.r.pY bQ.apart ⟨fun s o ξ=>⟨o,ξ,rfl⟩,fun s o ξ=>⟨o,ξ,rfl⟩⟩ fun x δ=>by
     rcases δ with e|e
     ·cases e;exact⟨s,_,Kt,.inr hm⟩
     ·cases e
   ·by_cases Δ:a=.inr m
    ·subst Δ;rw[dt];refine(vQ.sub bQ.r).mono fun k υ=>.inr fun r o κ hb j ε=>?_;rcases gK r o κ with⟨rfl,rfl⟩|⟨e,e2⟩
     ·by_cases e:j=i
      ·subst e;exact υ
      ·rw[q6 _ e,h.ba.bare r q9 j] at ε;exact absurd rfl ε
     ·exact absurd (.inr hm) (mr r o m e2 hb)
    ·rw[bG _ _ Δ];by_cases Ε:a=.inl i
     ·subst Ε;rw[dt];exact vQ.sub bQ.l
     ·rw[bG _ _ Ε];by_cases a4:a=.inr s
      ·subst a4;rw[Ku];exact c8.empty
      ·refine Kv a fun b e hb=>?_;subst e;rcases hb with rfl|hb
       ·exact a4 rfl
       ·rw[hm] at hb;cases hb;exact Δ rfl
 let c':cS:={c with H:=bJ,aC:=upd c.aC i V',tok:=bT c.tok i s (.par 0 0 .add),spec:=upd c.spec i (upd (c.spec i) s (some sp)),view:=upd c.view i (upd (c.view i) s none),O:=O',bs:=upd c.bs s i,T:=upd c.T i (f (i==0,g,cZ))}
 have m5:c'.x i=cZ:=by rw[g8];simp[c',V',cS.x,upd_same,ua,iZ]
 have oX:∀j r,r≠s→bT c.tok i s (.par 0 0 .add) j r=c.tok j r:=fun j r κ=>eG _ fun x=>κ x.2
 have q4:∀j,j≠0→c.rel j=true→c.home j≠s:=fun j ae ε e=>by
  obtain⟨op,a1,bg,_⟩:=h.dN.c1 j ae ε;have eI:=h.dN.dr (c.dk j) j (by simp[Trace.g?,a1,bg]);obtain⟨k,m,g,υ⟩:=h.ba.q1 j ae eI;rw[e,h.ba.bare s q9 j] at υ;cases υ
 refine⟨c',h.seen (c':=c') Τ E9 E8 ⟨h.bM.race,h.bM.low,h.bM.norel,Fa,fun j b v hv=>h.bM.nS j b v (fu j b v hv).1,fun r o b κ hb k a μ e0=>?_,h.bM.hears⟩ (h.ba.Ru q9 bb dQ sp) ⟨fun r q m Υ hm bY hN=>?_,fun r q Υ bY=>?_⟩
  ⟨h.dN.dr,h.dN.c1,fun j ae ε bY=>?_,fun j ae ε a b=>?_⟩ ⟨fun r q m Υ hm p op χ μ=>?_,fun j b v hv=>h.fN.tX j b v (fu j b v hv).1⟩ ⟨g,?_,.inl rfl⟩ (fun j ε=>⟨?_,upd_ne _ _ ε⟩) (fun r o κ=>?_),_,rfl⟩
 ·rcases gK r o κ with⟨rfl,rfl⟩|⟨e,e2⟩
  ·obtain⟨v,hv⟩:=mq b hb;exact absurd e0 (h.bM.nS i b v hv k a μ)
  ·have:=h.bM.cont r o b e2 hb k a μ e0
   show _∨(_∧_=some (upd c.bs s i r));rw[upd_ne _ _ e];exact this
 ·rcases gK r q Υ with⟨rfl,rfl⟩|⟨e,bX⟩
  ·show sp.aG [] (bJ (.inr m));rw[j5.2 m hm];exact da (by have:sp.aQ=some m:=hm;rw[this];simp)
  ·show q.aG q.L (bJ (.inr m));rw[E7 m (mr r q m bX (.inr hm))];exact h.ed.oU r q m bX hm (fun j iy p x=>bY j iy p (by show bT c.tok i s _ j r=_;rw[oX j r e];exact x)) fun j k L g x=>hN j k L g (by show bT c.tok i s _ j r=_;rw[oX j r e];exact x)
 ·rcases gK r q Υ with⟨rfl,rfl⟩|⟨e,bX⟩
  ·show kM sp.D [] (bJ (.inr r));rw[j5.1];rfl
  ·show kM q.D q.ab (bJ (.inr r));rw[E7 r (mr r q r bX (.inl rfl))];exact h.ed.lB r q bX fun j iy p x=>bY j iy p (by show bT c.tok i s _ j r=_;rw[oX j r e];exact x)
 ·obtain⟨q,p,Υ⟩:=bY;have e:=q4 j ae ε;have Be:c'.bs (c.home j)=c.bs (c.home j):=upd_ne _ _ e;show Knows t (c'.bs (c.home j)) (c.dk j);rw[Be];refine h.dN.c2 j ae ε ⟨q,p,?_⟩;have:bT c.tok i s (.par 0 0 .add) (c'.bs (c.home j)) (c.home j)=.par q p .bw:=Υ
  rwa [oX _ _ e,Be] at this
 ·have e:=q4 j ae ε
  have Be:c'.bs (c.home j)=c.bs (c.home j):=upd_ne _ _ e
  show Before t (c.dk j) (c.dk (c'.bs (c.home j)))
  have b9:c'.bs (c.home j)≠0:=a
  have Φ:c.rel (c'.bs (c.home j))=true:=b;rw[Be] at b9 Φ ⊢;exact h.dN.c3 j ae ε b9 Φ
 ·rcases gK r q Υ with⟨rfl,rfl⟩|⟨e,bX⟩
  ·obtain⟨v,hv⟩:=mq m (.inr hm);exact absurd μ (h.fN.tX i m v hv op (mem_of_getElem? χ))
  ·obtain⟨⟨k,mu,g,ο⟩,Ι⟩:=h.fN.iv r q m bX hm p op χ μ;exact⟨⟨k,mu,g,by show bT c.tok i s _ _ r=_;rw[oX _ r e];exact ο⟩,Ι⟩
 ·rw[m5];show iT P Q (upd c.T i (f (i==0,g,cZ)) i) _ _ _;rw[upd_same];exact a8
 ·simp[c',cS.x,upd_ne _ _ ε,q6 _ ε,iA j ε]
 ·show O' r=some o;rw[show O' r=c.O r from upd_ne _ _ (js r o κ)];exact κ
theorem Inv.ghost (h:Inv P Q bl c gs w t) (Τ:gs[i]?=some g) (υ:EE (i==0) (kQ P Q f) g (c.x i)):A3 P Q bl c gs w t i f:=by
 rcases υ with⟨G',R,γ⟩|⟨b,cs,ty,R,γ⟩|⟨s,sp,ty,G',E,R,ο,Ι,ay,a6,gv⟩
 ·exact h.less Τ R γ
 ·exact h.RH Τ R rfl γ
 ·exact h.group Τ R ο Ι ay a6 rfl gv
end
section
variable {P:Program} {Q:Value→Prop} {bl:World} {c c':cS} {gs:Array Goroutine} {w w':World} {t:Trace} {i:Nat} {g g':Goroutine} {es:Array Event}
theorem Inv.step (h:Inv P Q bl c gs w t) (Τ:gs[i]?=some g) (dD:g.status=.running):(∃v es,i=0∧stepG P true g w=.ended (.done v) w es∧∀sl w1,Good P (fun v w'=>Q v∧fe (fun _ _=>False) (fun _=>False) bl w') (crowd gs w1 sl) (.done v) w (t++MemOp.ofEvents 0 g.frame.fn g.frame.place es))∨
  ∃f,c.T i=.node f∧(ht P Q bl c gs w t i f∨EE (i==0) (kQ P Q f) g (c.x i)):=by
 obtain⟨cH,κ,η⟩:=h.tY i g Τ;rcases η with rfl|⟨_,rfl,_⟩
 ·have main:AL P (i==0) g (c.x i) Q→(∃v es,i=0∧stepG P true g w=.ended (.done v) w es∧∀sl w1,Good P (fun v w'=>Q v∧fe (fun _ _=>False) (fun _=>False) bl w') (crowd gs w1 sl) (.done v) w (t++MemOp.ofEvents 0 g.frame.fn g.frame.place es)):=fun ξ=>by
   rcases ξ with⟨ae,ξ⟩|⟨_,ξ⟩
   ·have e:i=0:=by simpa using ae
    subst e;obtain⟨v,es,R,γ⟩:=h.JX Τ ξ none w;refine⟨v,es,rfl,R,fun sl w1=>?_⟩;obtain⟨eZ,es',vT,gV⟩:=h.JX Τ ξ sl w1;rw[R] at vT;cases vT;exact gV
   ·rw[ξ.2.2.1] at dD;cases dD
  cases Ζ:c.T i with
  | leaf=>rw[Ζ] at κ;exact .inl (main κ.2)
  | node f=>
   have e2:=κ;rw[Ζ] at κ;rcases κ.2 with ξ|υ
   ·exact .inl (main ξ)
   ·refine .inr ⟨f,rfl,?_⟩;rcases υ with υ|⟨Fg,υ⟩
    ·exact .inl (h.quits Τ υ)
    ·rcases υ with υ|υ|υ|υ|υ|υ|υ|υ|υ|υ
     ·exact .inl (h.EJ Τ υ)
     ·exact .inl (h.QY Τ υ)
     ·exact .inl (h.QZ Τ υ)
     ·exact .inl (h.atom Τ Fg e2 υ)
     ·exact .inl (h.A5 Τ υ)
     ·exact .inl (h.E3 Τ υ)
     ·exact .inl (h.E4 Τ υ)
     ·exact .inl (h.A6 Τ υ)
     ·exact .inl (h.Ff Τ υ)
     ·exact .inr υ
 ·cases dD
theorem Inv.RO (h:Inv P Q bl c gs w t):∀g∈gs,Go.Conc.awake g:=fun g Τ=>by
 obtain⟨j,ε⟩:=Array.mem_iff_getElem?.1 Τ;intro t' Μ;rcases h.stat ε with e|⟨_,e,_⟩|⟨e,_⟩<;>rw[e] at Μ<;>cases Μ
theorem Inv.comes:∀(L:List (fL (Bool×Goroutine×aR))) (k:Nat) (c:cS) (iY:List Nat) (gs:Array Goroutine) (w:World) (t:Trace) (sl:Option (Nat×Nat)),iY.map c.T=L→Ord iY gs.size→vJ gs=k→Inv P Q bl c gs w t→Comes P Q bl (crowd gs w sl) t:=by
 intro L
 induction L using (mh.wf (B:=Bool×Goroutine×aR)).induction with
 | _ L Fh=>
  intro k
  induction k using Nat.strongRecOn with
  | _ k vU=>
   intro c iY gs w t sl aD cN υ h;subst aD υ;obtain⟨i,g,d,yn,Τ,dD,cg⟩:=crowd_pick (P:=P) (w:=w) (sl:=sl) h.RO h.awake;have cP:=h.at d;have bb:i<gs.size:=lF Τ;rcases cP.step Τ dD with⟨v,es,rfl,R,γ⟩|⟨f,Ζ,Fi⟩
   ·have κ:=runT_many_ended (sl:=yn) Τ (by simpa using R);rw[κ] at cg;exact Comes.last cg (γ sl w)
   ·rcases Fi with Fi|RP
    ·obtain⟨c',p6,w',u,κ,fa,hx⟩:=Fi yn;rw[κ] at cg;refine Comes.next cg ?_;rcases hx with⟨cd,kk,p1⟩|⟨cd,kk,Fj,p1⟩|⟨cd,p1,aE⟩
     ·exact Fh _ (by rw[p1];exact cN.one bb Ζ kk) _ c' iY p6 w' _ yn rfl (by rw[cd];exact cN) rfl fa
     ·obtain⟨A0,RQ,RR⟩:=cN.two bb Ζ kk Fj;exact Fh _ (by rw[p1];exact RR) _ c' A0 p6 w' _ yn rfl (by rw[cd];exact RQ) rfl fa
     ·exact vU _ aE c' iY p6 w' _ yn (by rw[p1]) (by rw[cd];exact cN) rfl fa
    ·
     obtain⟨c',fa,kk,p1⟩:=h.ghost (f:=f) Τ RP;exact Fh _ (by rw[p1];exact cN.one bb Ζ kk) _ c' iY gs w t sl rfl cN rfl fa
end
def ψ.kS (w:World):ψ:=
 ⟨fun b o=>match w.heap[b]? with|some (.cells c _ _)=>(c[o]?).map (·,false)|_=>none,
  fun b=>match w.heap[b]? with|some (.cells c t dC)=>if dC=(0,0) then some (t,c.size) else none|_=>none,fun _=>none⟩
theorem ψ.RS (w:World):Fits (ψ.kS w) w:=by
 refine⟨fun b o v p h=>?_,fun b t n h=>?_,fun b x h=>(by cases h)⟩
 ·simp only[ψ.kS] at h;cases hb:w.heap[b]? with
  | none=>rw[hb] at h;cases h
  | some x=>
   rw[hb] at h;cases x with
   | cells c t dC=>
    simp only at h;cases η:c[o]? with
    | none=>rw[η] at h;cases h
    | some eZ=>rw[η] at h;cases h;exact mX hb η
   | _=>cases h
 ·simp only[ψ.kS] at h;cases hb:w.heap[b]? with
  | none=>rw[hb] at h;cases h
  | some x=>
   rw[hb] at h;cases x with
   | cells c t' dC=>
    simp only at h;split at h
    ·rename_i e;cases h;exact⟨c,by rw[e],rfl⟩
    ·cases h
   | _=>cases h
theorem ψ.RU (w:World) (b o:Nat):¬(ψ.kS w).owns b o:=fun⟨v,h⟩=>by
 simp only[ψ.kS] at h;cases hb:w.heap[b]? with
 | none=>rw[hb] at h;cases h
 | some x=>
  rw[hb] at h;cases x with
  | cells c t dC=>
   simp only at h;cases η:c[o]? with
   | none=>rw[η] at h;cases h
   | some eZ=>rw[η] at h;cases h
  | _=>cases h
def aR.start (w:World):aR:=⟨ψ.kS w,fun _=>none,fun _=>.nil,fun _=>none,fun _=>none,0,false⟩
theorem Goes.comes {P:Program} {Q:Value→Prop} {g:Goroutine} {w:World} (h:Goes P Q true g (aR.start w)):Comes P Q w (solo g w) #[]:=by
 obtain⟨T,Ζ⟩:=h;let c:cS:={H:=bF (fun _=>ψ.empty) (.inl 0) (ψ.kS w),aC:=fun _ _=>none,tok:=fun _ _=>.nil,spec:=fun _ _=>none,view:=fun _ _=>none,deaf:=fun _=>0,rel:=fun _=>false,T:=fun _=>T,O:=fun _=>none,bs:=fun _=>0,home:=fun _=>0,dk:=fun _=>0};have δ:c.x 0=aR.start w:=by simp[c,cS.x,aR.start]
 have Α:∀k,k≠.inl 0→c.H k=ψ.empty:=fun k υ=>bG (fun _=>ψ.empty) (ψ.kS w) υ
 have ra:c.H (.inl 0)=ψ.kS w:=dt (fun _=>ψ.empty) (.inl 0) (ψ.kS w)
 have Fl:∀k b o,¬(c.H k).owns b o:=fun k b o Β=>by
  by_cases e:k=.inl 0
  ·subst e;rw[ra] at Β;exact ψ.RU w b o Β
  ·rw[Α k e] at Β;obtain⟨v,hv⟩:=Β;cases hv
 have Kx:∀k b,¬(c.H k).eQ b:=fun k b Β=>by
  by_cases e:k=.inl 0
  ·subst e;rw[ra] at Β;obtain⟨v,hv⟩:=Β;cases hv
  ·rw[Α k e] at Β;obtain⟨v,hv⟩:=Β;cases hv
 have eπ:∀i:Nat,(#[]:Trace)[i]?=none:=fun i=>by simp
 have cd:(#[g]:Array Goroutine).size=1:=rfl
 have inv:Inv P Q w c #[g] w #[]:=by
  refine⟨by simp,⟨fun k=>?_,fun j b c t hb=>(by cases hb),fun s o ξ=>(by cases ξ),fe.refl _ _ _⟩,
   ⟨fun k l _=>⟨fun b o Β=>absurd Β (Fl k b o),fun b o Β=>absurd Β (Fl l b o),fun b Β=>absurd Β (Kx k b)⟩,fun k b o Β=>absurd Β (Fl k b o),fun k b Β=>absurd Β (Kx k b),fun j b v hv=>(by cases hv),fun s o b ξ=>(by cases ξ),fun s bj o o' b ξ=>(by cases ξ),fun s o m ξ=>(by cases ξ),fun b _=>Α _ (by simp)⟩,
   ⟨fun said ⟨i,j,_,⟨a,b,μ,_⟩,_⟩=>(by simp[Trace.act?] at μ),fun op Κ=>(by simp at Κ),fun op Κ=>(by simp at Κ),fun k=>⟨fun b o v p _ i a μ=>(by simp[touchAt,Trace.act?] at μ),fun b _ i a μ=>(by simp[touchAt,Trace.act?] at μ)⟩,fun j b v hv=>(by cases hv),fun s o b ξ=>(by cases ξ),fun j=>rfl⟩,
   ?_,⟨fun s o m ξ=>(by cases ξ),fun s o ξ=>(by cases ξ)⟩,⟨fun k a υ=>(by simp[Trace.g?] at υ),fun j _ ε=>(by cases ε),fun j _ ε=>(by cases ε),fun j _ ε=>(by cases ε)⟩,⟨fun s o m ξ=>(by cases ξ),fun j b v hv=>(by cases hv)⟩,fun j b hb=>?_⟩
  ·by_cases e:k=.inl 0
   ·subst e;rw[ra];exact ψ.RS w
   ·rw[Α k e];exact tT w
  ·exact⟨fun s o ξ=>(by cases ξ),fun s _ j=>rfl,fun j s _=>rfl,fun j s sp ξ=>(by cases ξ),fun j s φ o ξ=>(by cases ξ),fun j s k L g o ξ=>(by cases ξ),fun j s m p aB ξ=>(by cases ξ),fun j s k m g ξ=>(by cases ξ),fun j ae ε=>(by rw[cd] at ε;omega),fun j k m g _ ξ=>(by cases ξ),rfl,fun j s ξ=>(by cases ξ),fun j s k m g o ξ=>(by cases ξ),fun s j bC k m g bW g' ξ=>(by cases ξ),fun s j k m g q p aB ξ=>(by cases ξ),fun s o ξ=>(by cases ξ),fun s o ξ=>(by cases ξ)⟩
  ·have ε:j=0:=by have:=lF hb;rw[cd] at this;omega
   subst ε;simp at hb;subst hb;exact⟨g,by rw[δ];exact Ζ,.inl rfl⟩
 rw[solo_eq_crowd];exact Inv.comes _ _ c [0] #[g] w #[] none rfl ⟨by simp,fun i=>by simp⟩ rfl inv
end Go.TL
