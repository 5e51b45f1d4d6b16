import Derived.Test.YtlabjopijpkiaaaGreatQAF
set_option maxHeartbeats 16000000
set_option maxRecDepth 20000
set_option linter.unusedSectionVars false
set_option linter.unusedSimpArgs false
set_option linter.unusedVariables false
namespace Go.TL
open Go.Conc
open Go.ConcM (OsLater)
open Go.ConcN (sumTo upd sumTo_upd upd_ne upd_same sumTo_congr le_sumTo)
section
variable {P:Program} {Q:Value→Prop} {bl:World} {c c':cS} {gs:Array Goroutine} {w w':World} {t:Trace} {i:Nat} {g g':Goroutine} {es:Array Event}
variable {f:Bool×Goroutine×aR→fL (Bool×Goroutine×aR)}
theorem Inv.parent (h:Inv P Q bl c gs w t) {s:Nat} {o:aK} (Β:c.O s=some o):c.bs s<gs.size∧∃q p aB,c.tok (c.bs s) s=.par q p aB:=by
 obtain⟨i0,kO,χ⟩:=AH (φ:=eC) (N:=gs.size) (τ:=fun a=>c.tok a s) (by rw[(h.ba.bf s o Β).2.m1];exact Nat.one_pos);have yc:∃q p aB,c.tok i0 s=.par q p aB:=by
  cases δ:c.tok i0 s with
  | par q p aB=>exact⟨q,p,aB,rfl⟩
  | nil=>simp[δ,eC] at χ
  | ch=>simp[δ,eC] at χ
 obtain⟨q,p,aB,δ⟩:=yc;have cA:=h.ba.par i0 _ q p aB δ;subst cA;exact⟨kO,q,p,aB,δ⟩
theorem Inv.E4 (h:Inv P Q bl c gs w t) (Τ:gs[i]?=some g) (υ:Jy P (i==0) (kQ P Q f) g (c.x i)):ht P Q bl c gs w t i f:=by
 obtain⟨s,sp,k,mu,g',E,R,ο,sr,Rb,Ι,ay,a6,cg,ju,dJ,a8⟩:=υ;have bb:i<gs.size:=lF Τ;obtain⟨o,Β,bQ⟩:=h.ba.pX i s sp R;subst bQ;have dy:c.tok i s=.ch k mu .work:=ο;have hd:c.deaf i=0:=Ι;have dQ:c.rel i=false:=a6;have Ka:∀bj,bj≠s→fC (c.tok i bj):=Rb;have ξ:=cg w (h.mem.fit (.inl i));obtain⟨kO,q4,aE⟩:=h.ba.nW i s k mu .work dy;have ub:=h.ba.J7 Β dy (by simp);let y:MemOp:={g:=i,fn:=g.frame.fn,pos:=g.frame.place,act:=MemAct.ofEvent (Go.ConcR.mk (Mark.releaseMerge ⟨s,0,none⟩))};have E5:y.act=.mark (.releaseMerge ⟨s,0,none⟩):=rfl;have iW:(t++#[y])[t.size]?=some y:=by simp
 have Rc:(t++#[y]).heard t.size:=⟨i,by simp[Trace.g?,y],by rw[deaf_old (Nat.le_refl _)];exact(h.bM.hears i).trans hd⟩
 let o':aK:={o with ab:=k::o.ab}
 let cZ:aR:={c.x i with G:=ψ.empty,aC:=fun _=>none,tok:=upd (c.tok i) s (.ch k mu .rel),view:=upd (c.view i) s none,rel:=true}
 let c':cS:={c with H:=bF (bF c.H (.inl i) ψ.empty) (.inr s) (join E (c.H (.inr s))),aC:=upd c.aC i fun _=>none,tok:=bT c.tok i s (.ch k mu .rel),view:=upd c.view i (upd (c.view i) s none),O:=upd c.O s (some o'),rel:=upd c.rel i true,dk:=upd c.dk i t.size,T:=upd c.T i (f (i==0,g',cZ))}
 have cN:lz c.O (upd c.O s (some o')):=lz.upd Β rfl
 have bw:=A4 (b:=.ch k mu .rel) dy (by simp) (by simp)
 have nil:=yh (b:=.ch k mu .rel) dy (by simp)
 have jO:dW s o.toSpec s:=.inl rfl
 have fu:∀j b v,upd c.aC i (fun _=>none) j b=some v→c.aC j b=some v:=fun j b v hv=>by
  by_cases e:j=i
  ·subst e;rw[upd_same] at hv;cases hv
  ·rw[upd_ne _ _ e] at hv;exact hv
 have h5:=h.hold.apart (.inl i) (.inr s) (by simp)
 have hSub:Sub (join E (c.H (.inr s))) (join (c.H (.inl i)) (c.H (.inr s))):=Sub.both (Sub.pY ju) (Sub.Ra (h.mem.fit _) (h.mem.fit _) h5)
 have Kb:∀j r Ω L g,c.tok j r=.ch Ω (.c5 L) g→bT c.tok i s (.ch k mu .rel) j r=.ch Ω (.c5 L) g:=fun j r Ω L g ε=>by
  rw[eG _ (fun e=>?_)]
  ·exact ε
  ·obtain⟨rfl,rfl⟩:=e;rw[dy] at ε;rcases sr with rfl|⟨rfl,_⟩<;>cases ε
 have q2:∀j,j≠i→∀r,bT c.tok i s (.ch k mu .rel) j r=c.tok j r:=fun j ε r=>eG _ fun e=>ε e.1;refine ht.go (c':=c') Τ ξ ?_ _ rfl;rw[ofEvents_one];have m5:c'.x i=cZ:=by
  have:(Sum.inl i:cw)≠.inr s:=by simp
  simp[c',cZ,cS.x,upd_same,ua,bG _ _ this]
 have Re:tW gs.size c'.tok c'.rel c'.bs c'.home c'.dk (t++#[y]):=by
  refine⟨fun Ω g' gY=>?_,fun j fi ε=>?_,fun j fi ε bY=>?_,fun j fi ε p8 bH=>?_⟩
  ·obtain⟨op,Κ,gX⟩:=Option.map_eq_some_iff.1 gY;rcases getElem?_append_cases Κ with⟨_,j4⟩|⟨_,fO⟩
   ·exact h.dN.dr Ω g' (by simp[Trace.g?,j4,gX])
   ·simp at fO;subst fO;rw[←gX];exact bb
  ·by_cases e:j=i
   ·subst e;have Ε:c'.dk j=t.size:=upd_same ..;rw[Ε];refine⟨y,iW,rfl,by rw[E5];show _=MemAct.mark (.releaseMerge ⟨c.home j,0,none⟩);rw[q4],Rc,fun Ω gY η=>?_⟩;obtain⟨op,Κ,gX⟩:=Option.map_eq_some_iff.1 gY;rcases getElem?_append_cases Κ with⟨p9,j4⟩|⟨hle,fO⟩
    ·exact .inr (hb_po p9 Κ iW gX)
    ·exact absurd η (vL (u:=#[y]) (fun op Κ=>by simp at Κ;subst Κ;rfl) Ω hle)
   ·have bh:c.rel j=true:=by have:upd c.rel i true j=true:=ε;rwa [upd_ne _ _ e] at this
    have Ε:c'.dk j=c.dk j:=upd_ne _ _ e;rw[Ε];obtain⟨op,a1,bg,cv,fK,ha⟩:=h.dN.c1 j fi bh;have χ:=lt_size_of_getElem? a1;refine⟨op,by rw[getElem?_append_old χ];exact a1,bg,cv,(heard_old χ).2 fK,fun Ω gY η=>?_⟩;obtain⟨q3,Κ,gX⟩:=Option.map_eq_some_iff.1 gY;rcases getElem?_append_cases Κ with⟨p9,j4⟩|⟨hle,fO⟩
    ·exact(ha Ω (by simp[Trace.g?,j4,gX]) ((yb p9).1 η)).app _
    ·exact absurd η (vL (u:=#[y]) (fun op Κ=>by simp at Κ;subst Κ;rfl) Ω hle)
  ·obtain⟨q,p,Υ⟩:=bY;have bX:c.tok (c.bs (c.home j)) (c.home j)=.par q p .bw:=(bw _ _ q p).1 Υ;by_cases e:j=i
   ·subst e;rw[q4] at bX;exact absurd bX (ub _ q p)
   ·have bh:c.rel j=true:=by have:upd c.rel i true j=true:=ε;rwa [upd_ne _ _ e] at this
    have Ε:c'.dk j=c.dk j:=upd_ne _ _ e;rw[Ε];exact(h.dN.c2 j fi bh ⟨q,p,bX⟩).app _
  ·by_cases e:j=i
   ·subst e;exfalso;have Rf:c.bs s≠0:=by rw[←q4];exact p8
    have bu:c.bs s≠j:=by omega
    have yk:c.rel (c.bs s)=true:=by
     have:upd c.rel j true (c.bs (c.home j))=true:=bH;rw[q4,upd_ne _ _ bu] at this;exact this
    obtain⟨_,q,p,aB,q7⟩:=h.parent Β;have cM:fC (c.tok (c.bs s) s):=by
     by_cases Δ:s=c.home (c.bs s)
     ·obtain⟨cx,ef,ad,eU⟩:=h.ba.q1 (c.bs s) Rf (by omega);rw[←Δ,q7] at eU;cases eU
     ·exact h.ba.nX _ s yk Δ
    rw[q7] at cM;cases aB<;>first|exact cM.elim|exact ub _ _ _ q7
   ·have bh:c.rel j=true:=by have:upd c.rel i true j=true:=ε;rwa [upd_ne _ _ e] at this
    have Ε:c'.dk j=c.dk j:=upd_ne _ _ e;rw[Ε];by_cases Δ:c.bs (c.home j)=i
    ·have a4:c'.dk (c.bs (c.home j))=t.size:=by rw[Δ];exact upd_same ..
     show Before _ _ (c'.dk (c.bs (c.home j)));rw[a4];obtain⟨op,a1,_⟩:=h.dN.c1 j fi bh;have eI:j<gs.size:=by
      obtain⟨op,a1,bg,_⟩:=h.dN.c1 j fi bh;exact h.dN.dr (c.dk j) j (by simp[Trace.g?,a1,bg])
     obtain⟨cx,ef,ad,eU⟩:=h.ba.q1 j fi eI;obtain⟨ix,vP⟩:=h.obj (i:=j) (s:=c.home j) (by rw[eU];simp);obtain⟨_,q,p,aB,q7⟩:=h.parent vP;rw[Δ] at q7;have bu:c.home j≠s:=fun cu=>by rw[cu,dy] at q7;cases q7
     have cM:=Ka _ bu;rw[q7] at cM;have jL:aB=.bw:=by cases aB<;>first|exact cM.elim|rfl
     subst jL;have Kc:=h.dN.c2 j fi bh ⟨q,p,by rw[Δ];exact q7⟩;rw[Δ] at Kc;exact .inr (Kc.hb_new (u:=#[y]) (Nat.le_refl _) iW rfl)
    ·have a4:c'.dk (c.bs (c.home j))=c.dk (c.bs (c.home j)):=upd_ne _ _ Δ
     show Before _ _ (c'.dk (c.bs (c.home j)));rw[a4];refine(h.dN.c3 j fi bh p8 ?_).app _;have:upd c.rel i true (c.bs (c.home j))=true:=bH
     rwa [upd_ne _ _ Δ] at this
 refine h.laid (c':=c') Τ ((h.mem.two (tT w) (x' (ju.fits (h.mem.fit (.inl i))) (h.mem.fit _)) fun r q Υ=>?_).vO fu) ((h.hold.two (by simp) (Sub.empty _) hSub (Apart.ss _).symm cN fun x δ=>?_).vO fu) ?_ (h.ba.QI Β dy sr Ka) ⟨fun r q bW Υ c0 bY hN=>?_,fun r q Υ bY=>?_⟩
  Re ⟨fun r q bW Υ c0 p op χ μ=>?_,fun j b v hv op Κ μ=>?_⟩
  ⟨g',?_,.inl rfl⟩ (fun j ε=>⟨?_,upd_ne _ _ ε⟩) (.inr fun j r q _ a b=>?_)
 ·rcases jN Β Υ with⟨rfl,rfl⟩|⟨_,bX⟩
  ·exact(h.mem.ft r o Β:At r o w)
  ·exact h.mem.ft _ _ bX
 ·rcases δ with e|e
  ·cases e;exact⟨s,o,Β,jO⟩
  ·cases e
 ·refine h.bM.word (i:=i) rfl (.inr rfl) (h.low Β jO) cN fu fun a=>?_;by_cases Δ:a=.inr s
  ·subst Δ;show c8 _ _ (bF _ _ _ _);rw[dt];exact(((c8.release (h.bM.perms (.inl i)) rfl rfl (by rw[h.bM.hears];exact hd)).sub ju).mono fun _ x=>AT cN.1 nil x).join (h.bM.vN (.inr s) rfl cN nil)
  ·show c8 _ _ (bF _ _ _ _);rw[bG _ _ Δ];by_cases Ε:a=.inl i
   ·subst Ε;rw[dt];exact c8.empty
   ·rw[bG _ _ Ε];exact h.bM.vN a rfl cN nil
 ·rcases jN Β Υ with⟨rfl,rfl⟩|⟨e,bX⟩
  ·have bu:(.inr bW:cw)≠.inr r:=fun x=>by cases x;exact h.hold.oT _ o _ Β c0 rfl
   show o.aG o.L (bF (bF c.H _ _) (.inr r) _ (.inr bW));rw[bG _ _ bu,h4];exact h.ed.oU r o bW Β c0 (fun j q p x=>bY j q p ((bw j r q p).2 x)) fun j k L g x=>hN j k L g (Kb _ _ _ _ _ x)
  ·have bu:(.inr bW:cw)≠.inr s:=fun x=>e (h.hold.j2 r s q o bW bX Β (.inr c0) (by cases x;exact jO))
   show q.aG q.L (bF (bF c.H _ _) (.inr s) _ (.inr bW));rw[bG _ _ bu,h4];exact h.ed.oU r q bW bX c0 (fun j q p x=>bY j q p ((bw j r q p).2 x)) fun j k L g x=>hN j k L g (Kb _ _ _ _ _ x)
 ·rcases jN Β Υ with⟨rfl,rfl⟩|⟨e,bX⟩
  ·show kM o.D (k::o.ab) (bF (bF c.H _ _) (.inr r) _ (.inr r));rw[dt];exact⟨E,c.H (.inr r),dJ,h.ed.lB r o Β (fun j q p x=>bY j q p ((bw j r q p).2 x)),h5.sub ju (Sub.refl _),rfl⟩
  ·have bu:(.inr r:cw)≠.inr s:=fun x=>by cases x;exact e rfl
   show kM q.D q.ab (bF (bF c.H _ _) (.inr s) _ (.inr r));rw[bG _ _ bu,h4];exact h.ed.lB r q bX (fun j q p x=>bY j q p ((bw j r q p).2 x))
 ·rcases getElem?_append_cases χ with⟨p9,fP⟩|⟨_,fO⟩
  ·have yj:∀hf,c.O r=some hf→hf.aQ=some bW→(∃Ω E6 g,bT c.tok i s (.ch k mu .rel) op.g r=.ch Ω E6 g)∧(c'.rel op.g=true→Before (t++#[y]) p (c'.dk op.g)):=fun hf Ε Δ=>by
    obtain⟨⟨Ω,E6,g,ο⟩,Ι⟩:=h.fN.iv r hf bW Ε Δ p op fP μ;refine⟨yi dy (fun _ _ _ _=>⟨_,_,_,rfl⟩) _ _ _ _ _ ο,fun κ=>?_⟩;by_cases e:op.g=i
    ·have Ε:c'.dk op.g=t.size:=by rw[e];exact upd_same ..
     rw[Ε];exact .inr (hb_po p9 χ iW e)
    ·have Ε:c'.dk op.g=c.dk op.g:=upd_ne _ _ e
     have Δ:c.rel op.g=true:=by have:upd c.rel i true op.g=true:=κ;rwa [upd_ne _ _ e] at this
     rw[Ε];exact(Ι Δ).app _
   rcases jN Β Υ with⟨rfl,rfl⟩|⟨_,bX⟩
   ·exact yj o Β c0
   ·exact yj q bX c0
  ·simp at fO;subst fO;cases μ;exfalso;rcases jN Β Υ with⟨rfl,rfl⟩|⟨e,bX⟩
   ·exact h.hold.oT _ o _ Β c0 rfl
   ·exact e (h.hold.j2 r s q o s bX Β (.inr c0) jO)
 ·have kP:=fu j b v hv;rcases Array.mem_append.1 Κ with Κ|Κ
  ·exact h.fN.tX j b v kP op Κ μ
  ·simp at Κ;subst Κ;cases μ;have:=(h.hold.jK s o s Β jO).2.2 j;rw[this] at kP;cases kP
 ·rw[m5];show iT P Q (upd c.T i (f (i==0,g',cZ)) i) _ _ _;rw[upd_same];exact a8
 ·have hc:(Sum.inl j:cw)≠.inr s:=by simp
  have fE:(Sum.inl j:cw)≠.inl i:=fun e=>ε (by cases e;rfl);simp[c',cS.x,upd_ne _ _ ε,q6 _ ε,bG _ _ hc,bG _ _ fE]
 ·by_cases e:r=s
  ·subst e;rw[Β] at a;cases a;exact⟨o',upd_same ..,b⟩
  ·exact⟨q,by show upd c.O s (some o') r=some q;rw[upd_ne _ _ e];exact a,b⟩
theorem Inv.A6 (h:Inv P Q bl c gs w t) (Τ:gs[i]?=some g) (υ:Jz P (i==0) (kQ P Q f) g (c.x i)):ht P Q bl c gs w t i f:=by
 obtain⟨s,sp,n,aB,g',R,ο,jL,Ι,ay,a6,cg,E2⟩:=υ;have bb:i<gs.size:=lF Τ;obtain⟨o,Β,bQ⟩:=h.ba.pX i s sp R;subst bQ;have dy:c.tok i s=.par n 0 aB:=ο;have hd:c.deaf i=0:=Ι;have dQ:c.rel i=false:=a6;have ξ:=cg w (h.mem.fit (.inl i));have p8:=h.ba.par i s n 0 aB dy;obtain⟨Kd,kR,q5⟩:=h.ba.full Β dy jL;have jO:dW s o.toSpec s:=.inl rfl;have ub:∀j q p,c.tok j s≠.par q p .bw:=fun j q p ε=>by
  have e:=h.ba.par j s q p .bw ε;rw[←p8] at e;subst e;rw[dy] at ε;rcases jL with rfl|rfl<;>cases ε
 let y:MemOp:={g:=i,fn:=g.frame.fn,pos:=g.frame.place,act:=MemAct.ofEvent (Go.ConcR.mk (Mark.acquire ⟨s,0,none⟩))}
 have E5:y.act=.mark (.acquire ⟨s,0,none⟩):=rfl
 have uf:Deaf t i=0:=by rw[h.bM.hears];exact hd
 have cN:lz c.O (upd c.O s (some o)):=lz.upd Β rfl
 have nil:=yh (b:=.par n 0 .bw) dy (by simp)
 have Ke:∀j,(∃k m g,c.tok j s=.ch k m g)→j≠0∧c.home j=s∧c.rel j=true∧Knows (t++#[y]) i (c.dk j):=fun j ⟨k,m,g,ε⟩=>by
  obtain⟨a1,bg,_⟩:=h.ba.nW j s k m g ε;have cv:c.rel j=true:=(h.ba.gJ j k m g a1 (by rw[bg];exact ε)).2 (by rw[q5 j k m g ε];simp);obtain⟨op,bI,dc,fB,lD,_⟩:=h.dN.c1 j a1 cv;rw[bg] at fB;exact⟨a1,bg,cv,Knows.marked bI fB lD h.bM.norel rfl E5 uf⟩
 have Rg:=h.ed.lB s o Β ub;obtain⟨bJ,ej,Rh,Ri,Rj,Rk,Rl,iZ,iA,E7,j5,E8,E9,Fa⟩:∃(bJ:cw→ψ) (ej:ψ),Fits ej w∧(o.aQ≠none→o.aG o.L ej)∧(o.aQ=none→ej=ψ.empty)∧Apart (c.H (.inl i)) ej∧Apart (c.H (.inr s)) ej∧
   bJ (.inl i)=join (join (c.H (.inl i)) (c.H (.inr s))) ej∧(∀j,j≠i→bJ (.inl j)=c.H (.inl j))∧(∀m,o.aQ=some m→bJ (.inr m)=ψ.empty)∧(∀b,b≠s→o.aQ≠some b→bJ (.inr b)=c.H (.inr b))∧
   hL bJ c.aC (upd c.O s (some o)) bl.heap.size∧gI bJ c.aC (upd c.O s (some o)) bl w∧∀a,c8 (t++#[y]) (iU (bT c.tok i s (.par n 0 .bw)) (upd c.O s (some o)) (t++#[y]) a) (bJ a):=by
  have lC:∀r q,upd c.O s (some o) r=some q→At r q w:=fun r q Υ=>by
   rcases jN Β Υ with⟨rfl,rfl⟩|⟨_,bX⟩
   ·exact h.mem.ft _ _ Β
   ·exact h.mem.ft _ _ bX
  have vQ:c8 (t++#[y]) (Knows (t++#[y]) i) (join (c.H (.inl i)) (c.H (.inr s))):=
   ((h.bM.perms (.inl i)).own (fun op Κ=>by simp at Κ;subst Κ;rfl)).join ((h.bM.perms (.inr s)).acquire h.bM.norel Β jO (by rw[dy];simp) rfl rfl uf)
  have Kf:hL (bF (bF c.H (.inl i) (join (c.H (.inl i)) (c.H (.inr s)))) (.inr s) ψ.empty) c.aC (upd c.O s (some o)) bl.heap.size:=
   h.hold.two (by simp) (Sub.refl _) (Sub.empty _) (Apart.ss _) cN fun x δ=>by
    rcases δ with e|e
    ·cases e;exact⟨s,o,Β,jO⟩
    ·cases e
  have Kg:gI (bF (bF c.H (.inl i) (join (c.H (.inl i)) (c.H (.inr s)))) (.inr s) ψ.empty) c.aC (upd c.O s (some o)) bl w:=h.mem.two (x' (h.mem.fit _) (h.mem.fit _)) (tT w) lC
  have oW:(Sum.inl i:cw)≠.inr s:=by simp
  cases e':o.aQ with
  | none=>
   refine⟨bF (bF c.H (.inl i) (join (c.H (.inl i)) (c.H (.inr s)))) (.inr s) ψ.empty,ψ.empty,tT w,fun x=>absurd rfl x,fun _=>rfl,Apart.ss _,Apart.ss _,?_,fun j ε=>?_,fun m hm=>(by cases hm),fun b hb _=>?_,Kf,Kg,fun a=>?_⟩
   ·rw[bG _ _ oW,dt,E1]
   ·have fE:(Sum.inl j:cw)≠.inl i:=fun e=>ε (by cases e;rfl);rw[bG _ _ (by simp),bG _ _ fE]
   ·have fE:(Sum.inr b:cw)≠.inr s:=fun e=>hb (by cases e;rfl);rw[bG _ _ fE,h4]
   ·by_cases Δ:a=.inr s
    ·subst Δ;rw[dt];exact c8.empty
    ·rw[bG _ _ Δ];by_cases Ε:a=.inl i
     ·subst Ε;rw[dt];exact vQ
     ·rw[bG _ _ Ε];exact h.bM.vN a rfl cN nil
  | some m=>
   have hm:dW s o.toSpec m:=.inr e'
   have q8:m≠s:=h.hold.oT s o m Β e'
   have p':(Sum.inr m:cw)≠.inr s:=fun e=>q8 (by cases e;rfl)
   have Kh:(Sum.inl i:cw)≠.inr m:=by simp
   have Rm:∀j k L g,c.tok j s≠.ch k (.c5 L) g:=fun j k L g ε=>by
    rcases h.ba.nY j s k _ g o Β ε (by rw[q5 j k _ g ε];simp) with e|⟨e,_⟩<;>cases e
   have Rn:=h.ed.oU s o m Β e' ub Rm
   have Ro:Apart (c.H (.inr s)) (c.H (.inr m)):=h.hold.apart _ _ (Ne.symm p')
   have Rp:Apart (c.H (.inl i)) (c.H (.inr m)):=h.hold.apart _ _ Kh
   have ew:bF (bF c.H (.inl i) (join (c.H (.inl i)) (c.H (.inr s)))) (.inr s) ψ.empty (.inl i)=join (c.H (.inl i)) (c.H (.inr s)):=by rw[bG _ _ oW,dt]
   have en:bF (bF c.H (.inl i) (join (c.H (.inl i)) (c.H (.inr s)))) (.inr s) ψ.empty (.inr m)=c.H (.inr m):=by rw[bG _ _ p',h4]
   have Rq:=Kf.two (a:=.inl i) (b:=.inr m) (A:=join (join (c.H (.inl i)) (c.H (.inr s))) (c.H (.inr m))) (B:=ψ.empty) (O':=upd c.O s (some o)) (by simp) (by rw[ew,en];exact Sub.refl _) (Sub.empty _) (Apart.ss _) ⟨fun s o' ξ=>⟨o',ξ,rfl⟩,fun s o' ξ=>⟨o',ξ,rfl⟩⟩ fun x δ=>by
    rcases δ with e|e
    ·cases e;exact⟨s,o,upd_same ..,hm⟩
    ·cases e
   have Rr:=Kg.two (a:=.inl i) (b:=.inr m) (A:=join (join (c.H (.inl i)) (c.H (.inr s))) (c.H (.inr m))) (B:=ψ.empty) (O':=upd c.O s (some o)) (x' (x' (h.mem.fit _) (h.mem.fit _)) (h.mem.fit _)) (tT w) lC;refine⟨_,c.H (.inr m),h.mem.fit _,fun _=>Rn,fun x=>(by cases x),Rp,Ro,?_,fun j ε=>?_,fun bW c0=>?_,fun b hb dv=>?_,Rq,Rr,fun a=>?_⟩
   ·rw[bG _ _ Kh,dt]
   ·have fE:(Sum.inl j:cw)≠.inl i:=fun e=>ε (by cases e;rfl);rw[bG _ _ (by simp),bG _ _ fE,bG _ _ (by simp),bG _ _ fE]
   ·cases c0;rw[dt]
   ·have fE:(Sum.inr b:cw)≠.inr s:=fun e=>hb (by cases e;rfl)
    have A7:(Sum.inr b:cw)≠.inr m:=fun e=>dv (by cases e;rfl);rw[bG _ _ A7,h4,bG _ _ fE,h4]
   ·by_cases a4:a=.inr m
    ·subst a4;rw[dt];exact c8.empty
    ·rw[bG _ _ a4];by_cases Ε:a=.inl i
     ·subst Ε;rw[dt];refine vQ.join ((h.bM.perms (.inr m)).mm rfl fun k υ=>?_);rcases υ with⟨p,op,a1,bg,cv,fK⟩|υ
      ·obtain⟨n0,dc⟩:=h.fN.iv s o m Β e' p op a1 bg;obtain⟨_,_,c3,c4⟩:=Ke op.g n0;have hb:=(dc c3).app #[y];refine Knows.of_before ?_ c4;rcases hb with e|hb
       ·rw[←e];exact fK.app _
       ·exact .inr ((fK.app #[y]).hb hb)
      ·exact(υ s o Β hm i (by rw[dy];simp)).app _
     ·rw[bG _ _ Ε];by_cases Δ:a=.inr s
      ·subst Δ;rw[dt];exact c8.empty
      ·rw[bG _ _ Δ,bG _ _ Ε];exact h.bM.vN a rfl cN nil
 have Rs:Apart (c.H (.inl i)) (c.H (.inr s)):=h.hold.apart _ _ (by simp)
 have a8:=E2 o.ab o.L (c.H (.inr s)) ej Kd Rg (fun x=>⟨kR x,Ri x⟩) Rj Rs Rk Rl ⟨w,h.mem.fit _,h.mem.fit _,Rh⟩
 let cZ:aR:={c.x i with G:=join (join (c.H (.inl i)) (c.H (.inr s))) ej,tok:=upd (c.tok i) s (.par n 0 .bw),view:=upd (c.view i) s none}
 let c':cS:={c with H:=bJ,tok:=bT c.tok i s (.par n 0 .bw),view:=upd c.view i (upd (c.view i) s none),O:=upd c.O s (some o),T:=upd c.T i (f (i==0,g',cZ))}
 have m5:c'.x i=cZ:=by simp[c',cZ,cS.x,upd_same,ua,iZ]
 have q2:∀j r,¬(j=i∧r=s)→bT c.tok i s (.par n 0 .bw) j r=c.tok j r:=fun j r e=>eG _ e
 have Ki:∀r q b,c.O r=some q→r≠s→dW r q.toSpec b→b≠s∧o.aQ≠some b:=fun r q b Υ κ hb=>⟨fun e=>κ (h.hold.j2 r s q o b Υ Β hb (.inl e)),fun e=>κ (h.hold.j2 r s q o b Υ Β hb (.inr e))⟩;refine ht.go (c':=c') Τ ξ ?_ _ rfl;rw[ofEvents_one];refine h.laid (c':=c') Τ E9 E8 (h.bM.word (i:=i) rfl (.inl rfl) (h.low Β jO) cN (fun _ _ _ x=>x) Fa) (h.ba.gtake Β dy jL) ⟨fun r q bW Υ c0 bY hN=>?_,fun r q Υ bY=>?_⟩ ?_
  (h.fN.app h.bM.low (fun op Κ b hb=>by simp at Κ;subst Κ;cases hb) (fun j b v hv=>.inl ⟨v,hv⟩) (fun r q Υ=>?_) (fun j r Ω mu g e=>yi dy (fun k m g e=>?_) j r Ω mu g e))
  ⟨g',?_,.inl rfl⟩ (fun j ε=>⟨?_,upd_ne _ _ ε⟩) (.inr fun j r q _ a b=>?_)
 ·rcases jN Β Υ with⟨rfl,rfl⟩|⟨e,bX⟩
  ·exact absurd (eS ..) (bY i n 0)
  ·obtain⟨Ε,Δ⟩:=Ki r q bW bX e (.inr c0);show q.aG q.L (bJ (.inr bW));rw[j5 bW Ε Δ];exact h.ed.oU r q bW bX c0 (fun j q p x=>bY j q p (by show bT c.tok i s _ j r=_;rw[q2 j r (fun y=>e y.2)];exact x)) fun j k L g x=>hN j k L g (by show bT c.tok i s _ j r=_;rw[q2 j r (fun y=>e y.2)];exact x)
 ·rcases jN Β Υ with⟨rfl,rfl⟩|⟨e,bX⟩
  ·exact absurd (eS ..) (bY i n 0)
  ·obtain⟨Ε,Δ⟩:=Ki r q r bX e (.inl rfl);show kM q.D q.ab (bJ (.inr r));rw[j5 r Ε Δ];exact h.ed.lB r q bX (fun j q p x=>bY j q p (by show bT c.tok i s _ j r=_;rw[q2 j r (fun y=>e y.2)];exact x))
 ·refine⟨fun Ω g' gY=>?_,fun j fi ε=>?_,fun j fi ε bY=>?_,fun j fi ε a b=>(h.dN.c3 j fi ε a b).app _⟩
  ·obtain⟨op,Κ,gX⟩:=Option.map_eq_some_iff.1 gY;rcases getElem?_append_cases Κ with⟨_,j4⟩|⟨_,fO⟩
   ·exact h.dN.dr Ω g' (by simp[Trace.g?,j4,gX])
   ·simp at fO;subst fO;rw[←gX];exact bb
  ·obtain⟨op,a1,bg,cv,fK,ha⟩:=h.dN.c1 j fi ε;have χ:=lt_size_of_getElem? a1;refine⟨op,by rw[getElem?_append_old χ];exact a1,bg,cv,(heard_old χ).2 fK,fun Ω gY η=>?_⟩;obtain⟨q3,Κ,gX⟩:=Option.map_eq_some_iff.1 gY;rcases getElem?_append_cases Κ with⟨p9,j4⟩|⟨hle,fO⟩
   ·exact(ha Ω (by simp[Trace.g?,j4,gX]) ((yb p9).1 η)).app _
   ·exact absurd η (vL (u:=#[y]) (fun op Κ=>by simp at Κ;subst Κ;rfl) Ω hle)
  ·obtain⟨q,p,Υ⟩:=bY;by_cases e:c.bs (c.home j)=i∧c.home j=s
   ·obtain⟨Ε,Δ⟩:=e;show Knows _ (c.bs (c.home j)) (c.dk j);rw[Ε];have eI:j<gs.size:=by
     obtain⟨op,a1,bg,_⟩:=h.dN.c1 j fi ε;exact h.dN.dr (c.dk j) j (by simp[Trace.g?,a1,bg])
    obtain⟨cx,ef,ad,eU⟩:=h.ba.q1 j fi eI;rw[Δ] at eU;exact(Ke j ⟨cx,ef,ad,eU⟩).2.2.2
   ·refine(h.dN.c2 j fi ε ⟨q,p,?_⟩).app _;have:bT c.tok i s (.par n 0 .bw) (c.bs (c.home j)) (c.home j)=.par q p .bw:=Υ
    rwa [q2 _ _ e] at this
 ·rcases jN Β Υ with⟨rfl,rfl⟩|⟨_,bX⟩
  ·exact⟨_,Β,rfl⟩
  ·exact⟨q,bX,rfl⟩
 ·cases e
 ·rw[m5];show iT P Q (upd c.T i (f (i==0,g',cZ)) i) _ _ _;rw[upd_same];exact a8
 ·simp[c',cS.x,upd_ne _ _ ε,q6 _ ε,iA j ε]
 ·exact⟨q,by show upd c.O s (some o) r=some q;rw[A1 Β];exact a,b⟩
end
section
variable {n:Nat} {tok:Nat→Nat→Tok} {spec:Nat→Nat→Option Spec} {view:Nat→Nat→Option (Nat×aK)} {rel:Nat→Bool} {O:Nat→Option aK} {bs home:Nat→Nat} {s i:Nat} {o:aK}
theorem ev.fork (h:ev n tok spec view rel O bs home) (ξ:O s=some o) {q p:Nat} (Μ:tok i s=.par q (p+1) .add) :
  ev (n+1) (upd (bT tok i s (.par q p .add)) n (upd (fun _=>.nil) s (.ch (q-(p+1)) .idle .work))) (upd spec n (upd (fun _=>none) s (some o.toSpec))) (upd (upd view i (upd (view i) s none)) n fun _=>none) (upd rel n false) O bs (upd home n s):=by
 have bb:i<n:=h.lt (s:=s) (by rw[Μ];simp)
 have j6:n≠i:=by omega
 have p8:=h.par i s q (p+1) .add Μ
 have cm:=(h.bf s o ξ).2
 have Υ:p+1≤q:=by
  have Ε:aY n (fun a=>tok a s) hJ=q:=by
   rw[oQ (φ:=hJ) (fun t Μ=>by cases t<;>simp_all [eC,hJ]) cm.m1 bb (by rw[Μ];rfl),Μ];rfl
  have Δ:aY n (fun a=>tok a s) gU=p+1:=by
   rw[oQ (φ:=gU) (fun t Μ=>by cases t<;>simp_all [eC,gU]) cm.m1 bb (by rw[Μ];rfl),Μ];rfl
  have:=cm.Jk;omega
 generalize A8:upd (bT tok i s (.par q p .add)) n (upd (fun _=>.nil) s (.ch (q-(p+1)) .idle .work))=ee;have yl:ee n s=.ch (q-(p+1)) .idle .work:=by rw[←A8,upd_same,upd_same]
 have Fb:∀r,r≠s→ee n r=.nil:=fun r κ=>by rw[←A8,upd_same,upd_ne _ _ κ]
 have j7:ee i s=.par q p .add:=by rw[←A8,upd_ne _ _ (Ne.symm j6),eS]
 have to:∀j r,j≠n→¬(j=i∧r=s)→ee j r=tok j r:=fun j r R γ=>by rw[←A8,upd_ne _ _ R,eG _ γ]
 have oX:∀j r,r≠s→ee j r=tok j r:=fun j r κ=>by
  by_cases e:j=n
  ·subst e;rw[Fb r κ,h.out _ r (Nat.le_refl _)]
  ·exact to j r e fun x=>κ x.2
 have A9:(fun j=>ee j s)=upd (upd (fun j=>tok j s) i (.par q p .add)) n (.ch (q-(p+1)) .idle .work):=by
  funext j
  by_cases e:j=n
  ·subst e;rw[yl,upd_same]
  ·rw[upd_ne _ _ e];by_cases aH:j=i
   ·subst aH;rw[j7,upd_same]
   ·rw[upd_ne _ _ aH,to j s e fun x=>aH x.1]
 have Kj:∀r,r≠s→(fun j=>ee j r)=fun j=>tok j r:=fun r κ=>funext fun j=>oX j r κ
 have gM:∀r,(fun j=>tok j r) n=.nil:=fun r=>h.out n r (Nat.le_refl _)
 have iu:∀j r k m g,ee j r=.ch k m g→(j=n∧r=s∧k=q-(p+1)∧m=.idle∧g=.work)∨(j≠n∧¬(j=i∧r=s)∧tok j r=.ch k m g):=fun j r k m g ε=>by
  by_cases e:j=n
  ·subst e;by_cases aH:r=s
   ·subst aH;rw[yl] at ε;cases ε;exact .inl ⟨rfl,rfl,rfl,rfl,rfl⟩
   ·rw[Fb r aH] at ε;cases ε
  ·by_cases aH:j=i∧r=s
   ·obtain⟨rfl,rfl⟩:=aH;rw[j7] at ε;cases ε
   ·rw[to j r e aH] at ε;exact .inr ⟨e,aH,ε⟩
 have Fc:∀j r m eT aB,ee j r=.par m eT aB→(j=i∧r=s∧m=q∧eT=p∧aB=.add)∨(j≠n∧r≠s∧tok j r=.par m eT aB)∨(j≠n∧j≠i∧r=s∧tok j r=.par m eT aB):=fun j r m eT aB ε=>by
  by_cases e:j=n
  ·subst e;by_cases aH:r=s
   ·subst aH;rw[yl] at ε;cases ε
   ·rw[Fb r aH] at ε;cases ε
  ·by_cases aH:j=i∧r=s
   ·obtain⟨rfl,rfl⟩:=aH;rw[j7] at ε;cases ε;exact .inl ⟨rfl,rfl,rfl,rfl,rfl⟩
   ·rw[to j r e aH] at ε;by_cases Δ:r=s
    ·exact .inr (.inr ⟨e,fun x=>aH ⟨x,Δ⟩,Δ,ε⟩)
    ·exact .inr (.inl ⟨e,Δ,ε⟩)
 have Fe:∀j r k m g,tok j r=.ch k m g→j≠n∧ee j r=.ch k m g:=fun j r k m g ε=>by
  have eI:j≠n:=fun e=>by rw[e,h.out n r (Nat.le_refl _)] at ε;cases ε
  refine⟨eI,?_⟩;rw[to j r eI fun e=>?_]
  ·exact ε
  ·obtain⟨rfl,rfl⟩:=e;rw[Μ] at ε;cases ε
 have eο:ei (n+1) o (fun j=>ee j s)<ei n o (fun j=>tok j s):=by
  rw[A9,←Jr (N:=n) (τ:=fun j=>tok j s) (gM s)];exact Qr (N:=n+1) (by omega) (by omega) (Ne.symm j6) Μ (gM s) _
 refine⟨fun r iy κ=>?_,fun r κ j=>?_,fun j r ε=>?_,fun j r sp ε=>?_,fun j r φ dw ε=>?_,fun j r k L g iy bX ε=>?_,fun j r m eT aB ε=>?_,fun j r k m g ε=>?_,fun j ae ε=>?_,fun j k m g ae ε=>?_,?_,fun j r ε κ=>?_,fun j r k m g iy bX ε Τ=>?_,fun r j bC k m g bW g' R γ=>?_,fun r j k m g iy eT aB R γ=>?_,fun r iy κ=>?_,fun r iy κ=>?_⟩
 ·by_cases e:r=s
  ·subst e;rw[ξ] at κ;cases κ;rw[A9];exact Qq (Jq (h.bf r o ξ) (gM r)) (by omega) (by omega) (Ne.symm j6) Μ (gM r) _
  ·rw[Kj r e];exact Jq (h.bf r iy κ) (gM r)
 ·have e:r≠s:=fun e=>by rw[e,ξ] at κ;cases κ
  rw[oX j r e];exact h.bare r κ j
 ·rw[to j r (by omega) (fun x=>by omega)];exact h.out j r (by omega)
 ·by_cases e:j=n
  ·subst e;rw[upd_same] at ε;by_cases aH:r=s
   ·subst aH;rw[upd_same] at ε;cases ε;exact⟨o,ξ,rfl⟩
   ·rw[upd_ne _ _ aH] at ε;cases ε
  ·rw[upd_ne _ _ e] at ε;exact h.pX j r sp ε
 ·have old:∀j r φ dw,view j r=some (φ,dw)→∃ix,O r=some ix∧ei (n+1) ix (fun a=>ee a r)≤φ∧(ei (n+1) ix (fun a=>ee a r)=φ→ix=dw):=fun j r φ dw hv=>by
   obtain⟨ix,R,γ,ο⟩:=h.tP j r φ dw hv;refine⟨ix,R,?_⟩;by_cases e:r=s
   ·subst e;rw[ξ] at R;cases R;exact⟨by omega,fun x=>by omega⟩
   ·rw[Kj r e,Jr (N:=n) (τ:=fun j=>tok j r) (gM r)];exact⟨γ,ο⟩
  by_cases e:j=n
  ·subst e;rw[upd_same] at ε;cases ε
  ·rw[upd_ne _ _ e] at ε;by_cases aH:j=i
   ·subst aH;rw[upd_same] at ε;by_cases Δ:r=s
    ·subst Δ;rw[upd_same] at ε;cases ε
    ·rw[upd_ne _ _ Δ] at ε;exact old _ _ _ _ ε
   ·rw[upd_ne _ _ aH] at ε;exact old _ _ _ _ ε
 ·rcases iu j r k _ g ε with⟨_,_,_,Ι,_⟩|⟨_,_,ο⟩
  ·cases Ι
  ·exact h.c5 j r k L g iy bX ο
 ·rcases Fc j r m eT aB ε with⟨rfl,rfl,_⟩|⟨_,_,ο⟩|⟨_,_,_,ο⟩
  ·exact p8
  ·exact h.par j r m eT aB ο
  ·exact h.par j r m eT aB ο
 ·rcases iu j r k m g ε with⟨rfl,rfl,_⟩|⟨eI,_,ο⟩
  ·exact⟨by omega,upd_same ..,by omega⟩
  ·obtain⟨a1,bg,cv⟩:=h.nW j r k m g ο;exact⟨a1,by rw[upd_ne _ _ eI];exact bg,cv⟩
 ·by_cases e:j=n
  ·subst e;rw[upd_same];exact⟨_,_,_,yl⟩
  ·rw[upd_ne _ _ e];obtain⟨k,m,g,R⟩:=h.q1 j ae (by omega);exact⟨k,m,g,(Fe j _ k m g R).2⟩
 ·by_cases e:j=n
  ·subst e;rw[upd_same] at ε;rw[yl] at ε;cases ε;rw[upd_same];simp
  ·rw[upd_ne _ _ e] at ε;rw[upd_ne _ _ e];rcases iu j _ k m g ε with⟨x,_⟩|⟨_,_,ο⟩
   ·exact absurd x e
   ·exact h.gJ j k m g ae ο
 ·rw[upd_ne _ _ (show(0:Nat)≠n by omega)];exact h.sn
 ·by_cases e:j=n
  ·subst e;rw[upd_same] at ε;cases ε
  ·rw[upd_ne _ _ e] at ε κ;have:=h.nX j r ε κ;rw[to j r e fun x=>?_]
   ·exact this
   ·obtain⟨rfl,rfl⟩:=x;rw[Μ] at this;exact this
 ·rcases iu j r k m g ε with⟨_,_,_,_,Ι⟩|⟨_,_,ο⟩
  ·exact absurd Ι Τ
  ·exact h.nY j r k m g iy bX ο Τ
 ·have key:∀j k m g,tok j s=.ch k m g→k<q-(p+1):=fun j k m g ε=>by
   have:=h.so s j k m g q (p+1) .add ε (by rw[←p8];exact Μ);omega
  rcases iu j r k m g R with⟨rfl,rfl,cv,_⟩|⟨_,_,ο⟩<;>rcases iu bC r k bW g' γ with⟨rfl,dc,fB,_⟩|⟨_,_,Ι⟩
  ·rfl
  ·have:=key bC k bW g' Ι;omega
  ·subst dc;have:=key j k m g ο;omega
  ·exact h.tQ r j bC k m g bW g' ο Ι
 ·rcases iu j r k m g R with⟨_,rfl,cv,_⟩|⟨_,_,ο⟩
  ·rcases Fc _ r iy eT aB γ with⟨_,_,rfl,rfl,_⟩|⟨_,x,_⟩|⟨_,x,_⟩
   ·omega
   ·exact absurd rfl x
   ·exact absurd p8.symm x
  ·rcases Fc _ r iy eT aB γ with⟨_,rfl,rfl,rfl,_⟩|⟨_,_,Ι⟩|⟨_,x,rfl,Ι⟩
   ·have:=h.so r j k m g iy (eT+1) .add ο (by rw[←p8];exact Μ);omega
   ·exact h.so r j k m g iy eT aB ο Ι
   ·exact absurd p8.symm x
 ·obtain⟨a,b⟩:=h.fh r iy κ;refine⟨a,fun k=>(b k).trans ⟨fun⟨j,m,g,Ε,Δ⟩=>⟨j,m,g,(Fe j r k m g Ε).2,Δ⟩,fun⟨j,m,g,Ε,Δ⟩=>?_⟩⟩;rcases iu j r k m g Ε with⟨_,_,_,Ι,_⟩|⟨_,_,ο⟩
  ·subst Ι;exact Δ.elim
  ·exact⟨j,m,g,ο,Δ⟩
 ·obtain⟨a,b⟩:=h.fM r iy κ;refine⟨a,fun k=>(b k).trans ⟨fun⟨j,m,g,Ε,Δ⟩=>⟨j,m,g,(Fe j r k m g Ε).2,Δ⟩,fun⟨j,m,g,Ε,Δ⟩=>?_⟩⟩;rcases iu j r k m g Ε with⟨_,_,_,_,Ι⟩|⟨_,_,ο⟩
  ·exact absurd Ι Δ
  ·exact⟨j,m,g,ο,Δ⟩
def aK.new (sp:Spec):aK:={toSpec:=sp,b6:=0,wk:=0,sv:=0,nw:=0,cR:=0,L:=[],cnt:=0,wt:=0,cz:=0,ab:=[]}
theorem Rt (N:Nat) (φ:Tok→Nat) (ec:φ .nil=0):aY N (fun _=>.nil) φ=0:=by
 induction N with
 | zero=>rfl
 | succ N Γ=>rw[tL,Γ,ec]
theorem ev.Ru (h:ev n tok spec view rel O bs home) (ξ:O s=none) (bb:i<n) (κ:rel i=false) (sp:Spec) :
  ev n (bT tok i s (.par 0 0 .add)) (upd spec i (upd (spec i) s (some sp))) (upd view i (upd (view i) s none)) rel (upd O s (some (aK.new sp))) (upd bs s i) home:=by
 have hb:=h.bare s ξ
 have aS:∀j,j≠0→j<n→home j≠s:=fun j ae ε e=>by
  obtain⟨k,m,g,R⟩:=h.q1 j ae ε;rw[e,hb j] at R;cases R
 have A9:(fun j=>bT tok i s (.par 0 0 .add) j s)=upd (fun _=>.nil) i (.par 0 0 .add):=by
  rw[JI];have:(fun j=>tok j s)=fun _=>.nil:=funext hb;rw[this]
 have oX:∀j r,r≠s→bT tok i s (.par 0 0 .add) j r=tok j r:=fun j r κ=>eG _ fun x=>κ x.2
 have iu:∀j r k m g,bT tok i s (.par 0 0 .add) j r=.ch k m g↔tok j r=.ch k m g:=fun j r k m g=>by
  by_cases e:j=i∧r=s
  ·obtain⟨rfl,rfl⟩:=e;rw[eS,hb];simp
  ·rw[eG _ e]
 have vR:∀j k m g,tok j s≠.ch k m g:=fun j k m g e=>by rw[hb] at e;cases e
 have gK:∀r q,upd O s (some (aK.new sp)) r=some q→(r=s∧q=aK.new sp)∨(r≠s∧O r=some q):=fun r q Υ=>by
  by_cases e:r=s
  ·subst e;rw[upd_same] at Υ;cases Υ;exact .inl ⟨rfl,rfl⟩
  ·rw[upd_ne _ _ e] at Υ;exact .inr ⟨e,Υ⟩
 have one:∀φ:Tok→Nat,φ .nil=0→aY n (upd (fun _=>.nil) i (.par 0 0 .add)) φ=φ (.par 0 0 .add):=fun φ ec=>by
  have e:=fX (N:=n) (fun _=>.nil) (.par 0 0 .add) φ bb;rw[Rt n φ ec] at e;simp only[ec] at e;omega
 refine⟨fun r q Υ=>?_,fun r κ j=>?_,fun j r ε=>?_,fun j r Kk ε=>?_,fun j r φ dw ε=>?_,fun j r k L g q Υ ε=>?_,fun j r m p aB ε=>?_,fun j r k m g ε=>?_,fun j ae ε=>?_,fun j k m g ae ε=>?_,h.sn,fun j r ε e2=>?_,fun j r k m g q Υ ε Τ=>?_,fun r j bC k m g bW g' R γ=>?_,fun r j k m g q p aB R γ=>?_,fun r q κ=>?_,fun r q κ=>?_⟩
 ·rcases gK r q Υ with⟨rfl,rfl⟩|⟨e,bX⟩
  ·rw[A9];constructor
   ·unfold oO;rw[one hI rfl,one mZ rfl,one lq rfl,one kG rfl,one mg rfl,one kH rfl,one pS rfl,one m0 rfl,one pR rfl];constructor<;>simp[aK.new,hI,mZ,lq,kG,mg,kH,pS,m0,pR]
   ·unfold nM;rw[one ir rfl,one jo rfl,one jq rfl,one kI rfl,one eC rfl,one gU rfl,one hJ rfl,one lr rfl,one kJ rfl,one hK rfl];constructor<;>simp[aK.new,ir,jo,jq,kI,eC,gU,hJ,lr,kJ,hK]
  ·rw[EM _ _ _ _ e];exact h.bf r q bX
 ·have e:r≠s:=fun e=>by rw[e,upd_same] at κ;cases κ
  rw[upd_ne _ _ e] at κ;rw[oX j r e];exact h.bare r κ j
 ·rw[eG _ (fun x=>by omega)];exact h.out j r ε
 ·by_cases e:j=i
  ·subst e;rw[upd_same] at ε;by_cases aH:r=s
   ·subst aH;rw[upd_same] at ε;cases ε;exact⟨_,upd_same ..,rfl⟩
   ·rw[upd_ne _ _ aH] at ε;obtain⟨q,a,b⟩:=h.pX j r Kk ε;exact⟨q,by rw[upd_ne _ _ aH];exact a,b⟩
  ·rw[upd_ne _ _ e] at ε;obtain⟨q,a,b⟩:=h.pX j r Kk ε;have aH:r≠s:=fun aH=>by rw[aH,ξ] at a;cases a
   exact⟨q,by rw[upd_ne _ _ aH];exact a,b⟩
 ·have old:∀j r φ dw,view j r=some (φ,dw)→∃ix,upd O s (some (aK.new sp)) r=some ix∧ei n ix (fun a=>bT tok i s (.par 0 0 .add) a r)≤φ∧(ei n ix (fun a=>bT tok i s (.par 0 0 .add) a r)=φ→ix=dw):=fun j r φ dw hv=>by
   obtain⟨ix,a,b⟩:=h.tP j r φ dw hv;have aH:r≠s:=fun aH=>by rw[aH,ξ] at a;cases a
   exact⟨ix,by rw[upd_ne _ _ aH];exact a,by rw[EM _ _ _ _ aH];exact b⟩
  by_cases e:j=i
  ·subst e;rw[upd_same] at ε;by_cases aH:r=s
   ·subst aH;rw[upd_same] at ε;cases ε
   ·rw[upd_ne _ _ aH] at ε;exact old _ _ _ _ ε
  ·rw[upd_ne _ _ e] at ε;exact old _ _ _ _ ε
 ·rw[iu] at ε;rcases gK r q Υ with⟨rfl,rfl⟩|⟨e,bX⟩
  ·exact absurd ε (vR _ _ _ _)
  ·exact h.c5 j r k L g q bX ε
 ·by_cases e:j=i∧r=s
  ·obtain⟨rfl,rfl⟩:=e;rw[upd_same]
  ·rw[eG _ e] at ε;have aH:r≠s:=fun aH=>by rw[aH,hb] at ε;cases ε
   rw[upd_ne _ _ aH];exact h.par j r m p aB ε
 ·rw[iu] at ε;have aH:r≠s:=fun aH=>by rw[aH] at ε;exact vR _ _ _ _ ε
  rw[upd_ne _ _ aH];exact h.nW j r k m g ε
 ·obtain⟨k,m,g,R⟩:=h.q1 j ae ε;exact⟨k,m,g,(iu _ _ _ _ _).2 R⟩
 ·rw[iu] at ε;exact h.gJ j k m g ae ε
 ·have e:j≠i:=fun e=>by rw[e,κ] at ε;cases ε
  rw[q6 _ e];exact h.nX j r ε e2
 ·rw[iu] at ε;rcases gK r q Υ with⟨rfl,rfl⟩|⟨e,bX⟩
  ·exact absurd ε (vR _ _ _ _)
  ·exact h.nY j r k m g q bX ε Τ
 ·rw[iu] at R γ;exact h.tQ r j bC k m g bW g' R γ
 ·rw[iu] at R;have aH:r≠s:=fun aH=>by rw[aH] at R;exact vR _ _ _ _ R
  rw[upd_ne _ _ aH,oX _ _ aH] at γ;exact h.so r j k m g q p aB R γ
 ·simp only[iu];rcases gK r q κ with⟨rfl,rfl⟩|⟨e,bX⟩
  ·exact⟨List.nodup_nil,fun k=>⟨fun x=>(by cases x),fun⟨j,m,g,x,_⟩=>absurd x (vR _ _ _ _)⟩⟩
  ·exact h.fh r q bX
 ·simp only[iu];rcases gK r q κ with⟨rfl,rfl⟩|⟨e,bX⟩
  ·exact⟨List.nodup_nil,fun k=>⟨fun x=>(by cases x),fun⟨j,m,g,x,_⟩=>absurd x (vR _ _ _ _)⟩⟩
  ·exact h.fM r q bX
end
end Go.TL
