import Derived.Test.YtlabjopijpkiaaaGreatQAE
set_option maxHeartbeats 16000000
set_option maxRecDepth 20000
set_option linter.unusedSectionVars false
set_option linter.unusedSimpArgs false
set_option linter.unusedVariables false
namespace Go.TL
open Go.Conc
open Go.ConcM (OsLater)
open Go.ConcN (sumTo upd sumTo_upd upd_ne upd_same sumTo_congr le_sumTo)
section
variable {P:Program} {Q:Value→Prop} {bl:World} {c c':cS} {gs:Array Goroutine} {w w':World} {t:Trace} {i:Nat} {g g':Goroutine} {es:Array Event}
variable {f:Bool×Goroutine×aR→fL (Bool×Goroutine×aR)}
theorem Q0 {o o':aK} {t t':Tok} (h:Act o t o' t'):(∀q p,t'≠.par q p .bw)∧(∀q p,t≠.par q p .bw)∧∀k L g,t=.ch k (.c5 L) g→∃g',t'=.ch k (.c5 L) g':=by
 cases h<;>refine⟨fun q p e=>?_,fun q p e=>?_,fun k L g e=>?_⟩<;>cases e
 all_goals exact⟨_,rfl⟩
theorem J2 {B:Type} (p:B→Bool) {y:B} (Ο:p y=false):∀(l:List B) (k:Nat) (x:B),l[k]?=some x→p x=true→((l.set k y).filter p).length<(l.filter p).length
 | [],k,x,h,_=>by simp at h
 | z::l,0,x,h,δ=>by
  simp at h;subst h;simp[List.set,δ,Ο]
 | z::l,k+1,x,h,δ=>by
  have:=J2 p Ο l k x (by simpa using h) δ;simp only[List.set,List.filter_cons];split<;>simpa using this
theorem Q1 {k:Nat} (Τ:gs[k]?=some g) (κ:g.status=.running) (hb:g'.status≠.running):vJ (gs.setIfInBounds k g')<vJ gs:=by
 unfold vJ;rw[Array.toList_setIfInBounds];exact J2 (fun g:Goroutine=>decide (g.status=.running)) (by simp[hb]) _ k g (by rw[←Τ];simp) (by simp[κ])
theorem Inv.atom (h:Inv P Q bl c gs w t) (Τ:gs[i]?=some g) (κ:h1 g) (Ζ:iT P Q (c.T i) (i==0) g (c.x i)) (υ:Atom P (i==0) (kQ P Q f) g (c.x i)):ht P Q bl c gs w t i f:=by
 obtain⟨s,sp,R,γ,ο⟩:=υ;have bb:i<gs.size:=lF Τ;obtain⟨o,Β,bQ⟩:=h.ba.pX i s sp R;have sm:∀b,dW s sp b→b<w.heap.size:=fun b hb=>h.low Β (by rw[bQ];exact hb);have gV:¬fC (c.tok i s):=γ;have yf:c.tok i s≠.nil:=fun e=>gV (by rw[e];trivial);have J3:∀{w':World} {es:Array Event} {k:Nat},fe (fun b _=>dW s sp b) (fun _=>False) w w'→nR s sp (c.x i).deaf es→h2 c.H c.aC c.tok c.O c.bs c.deaf w'.heap.size (t++MemOp.ofEvents i g.frame.fn g.frame.place es):=fun {w' es k} sz dm=>by
  refine h2.grow ?_ sz.size;refine h.bM.ext h.hold i ofEvents_g (fun op Κ=>?_) (fun op Κ a μ=>?_) (fun op Κ b hb=>?_) (fun j=>?_)
  ·rcases A2 dm Κ with(e|e)|⟨b,off,wr,e,hb⟩
   ·rw[e];trivial
   ·rw[e];trivial
   ·rw[e];exact sm b hb
  ·rcases A2 dm Κ with(e|e)|⟨b,off,wr,e,hb⟩<;>rw[e] at μ<;>cases μ
  ·rcases A2 dm Κ with(e|e)|⟨Φ,off,wr,e,dv⟩
   ·rw[e] at hb;cases hb
   ·rw[e] at hb;cases hb
   ·rw[e] at hb;simp[MemAct.touch?] at hb;subst hb;exact⟨s,o,Φ,off,Β,by rw[bQ];exact dv,rfl,.inl rfl⟩
  ·by_cases e:j=i
   ·subst e;rw[Deaf_own,h.bM.hears];exact dm.1
   ·rw[Deaf_other t (Ne.symm e) _ ofEvents_g,h.bM.hears]
 have norel:∀{es:Array Event},nR s sp (c.x i).deaf es→∀op∈MemOp.ofEvents i g.frame.fn g.frame.place es,∀b,op.act≠.mark (.releaseMerge ⟨b,0,none⟩):=fun dm op Κ b hb=>by
  rcases A2 dm Κ with(e|e)|⟨Φ,off,wr,e,dv⟩<;>rw[e] at hb<;>cases hb
 have J4:∀{es:Array Event},nR s sp (c.x i).deaf es→∀k,t.size≤k→¬(t++MemOp.ofEvents i g.frame.fn g.frame.place es).counts k:=fun dm=>QX (s:=s) (sp:=sp) (by rw[h.bM.hears];exact dm);rcases ο w (ei gs.size o (fun j=>c.tok j s)) o (h.mem.fit (.inl i)) (h.mem.ly i) bQ (h.mem.ft s o Β) (fun gi kL hv=>by
   obtain⟨dw,Ε,Δ,a4⟩:=h.ba.tP i s gi kL hv;rw[Β] at Ε;cases Ε;exact⟨Δ,a4⟩) ⟨gs.size,fun j=>c.tok j s,i,h.ba.bf s o Β,bb,rfl,fun k L g e=>h.ba.c5 i s k L g o Β e⟩ with hgo|⟨hw,cg,ξ⟩
 ·cases ξ:stepG P (i==0) g w with
  | go g' w' es=>
   rw[ξ] at hgo;obtain⟨e2,sz,dm,hx⟩:=hgo;have J5:fe (fun b _=>dW s o.toSpec b) (fun _=>False) w w':=by rw[bQ];exact sz
   rcases hx with⟨bx,a8⟩|⟨o',t',sB,bx,Q2,a8⟩
   ·refine ht.go (c':={c with view:=upd c.view i (upd (c.view i) s (some (ei gs.size o (fun j=>c.tok j s),o))),T:=upd c.T i (f (i==0,g',{c.x i with view:=upd (c.view i) s (some (ei gs.size o (fun j=>c.tok j s),o))}))}) Τ ξ ?_ _ rfl;refine h.laid Τ ((h.mem.atom h.hold rfl Β rfl J5 bx).ye (A1 Β).symm) h.hold (J3 (k:=0) sz dm) (h.ba.look Β) h.ed
     (h.dN.app bb ofEvents_g (fun _=>J4 dm) (fun _ _ _ x=>x) (fun _ _ _ _ x=>x))
     (h.fN.app h.bM.low (norel dm) (fun j b v hv=>.inl ⟨v,hv⟩) (fun s o' ξ=>⟨o',ξ,rfl⟩) (fun j s k mu g e=>⟨k,mu,g,e⟩))
     ⟨g',?_,.inl rfl⟩ (fun j ε=>⟨by simp[cS.x,upd_ne _ _ ε],upd_ne _ _ ε⟩) (.inr fun j s o _ a b=>⟨o,a,b⟩)
    have e:({c with view:=upd c.view i (upd (c.view i) s (some (ei gs.size o (fun j=>c.tok j s),o))),T:=upd c.T i (f (i==0,g',{c.x i with view:=upd (c.view i) s (some (ei gs.size o (fun j=>c.tok j s),o))}))}:cS).x i={c.x i with view:=upd (c.view i) s (some (ei gs.size o (fun j=>c.tok j s),o))}:=by
     simp[cS.x,upd_same]
    rw[e];show iT P Q (upd c.T i (f (i==0,g',{c.x i with view:=upd (c.view i) s (some (ei gs.size o (fun j=>c.tok j s),o))})) i) _ _ _;rw[upd_same];exact a8
   ·have Q3:=Jo (N:=gs.size) (τ:=fun j=>c.tok j s) bb rfl sB
    have Q4:=a8 _ Q3;obtain⟨vE,AR,ES⟩:=JK sB;obtain⟨Q5,Q6,Q7⟩:=Q0 sB;have cN:=lz.upd Β vE;have sC:∀j r q p,bT c.tok i s t' j r=.par q p .bw↔c.tok j r=.par q p .bw:=fun j r q p=>by
     by_cases e:j=i∧r=s
     ·obtain⟨rfl,rfl⟩:=e;rw[eS];exact⟨fun x=>absurd x (Q5 q p),fun x=>absurd x (Q6 q p)⟩
     ·rw[eG _ e]
    have EZ:∀j r k L g,c.tok j r=.ch k (.c5 L) g→∃g',bT c.tok i s t' j r=.ch k (.c5 L) g':=fun j r k L g ε=>by
     by_cases e:j=i∧r=s
     ·obtain⟨rfl,rfl⟩:=e;rw[eS];exact Q7 k L g ε
     ·rw[eG _ e];exact⟨g,ε⟩
    have keepW:o'=o→∀j r q,j≠i→c.O r=some q→jr q (c.tok j r)→∃iy,upd c.O s (some o') r=some iy∧jr iy (c.tok j r):=fun iX j r q _ a b=>⟨q,by
     by_cases e:r=s
     ·subst e;subst iX;rw[Β] at a;cases a;exact upd_same _ _ _
     ·rw[upd_ne _ _ e];exact a,b⟩
    have gK:∀r q,upd c.O s (some o') r=some q→∃hf,c.O r=some hf∧hf.toSpec=q.toSpec∧hf.L=q.L∧hf.ab=q.ab:=fun r q Υ=>by
     by_cases e:r=s
     ·subst e;rw[upd_same] at Υ;cases Υ;exact⟨o,Β,vE.symm,AR.symm,ES.symm⟩
     ·rw[upd_ne _ _ e] at Υ;exact⟨q,Υ,rfl,rfl,rfl⟩
    let cZ:aR:={c.x i with tok:=upd (c.tok i) s t',view:=upd (c.view i) s (some (ei gs.size o' (upd (fun j=>c.tok j s) i t'),o'))};refine ht.go (c':={c with tok:=bT c.tok i s t',view:=upd c.view i (upd (c.view i) s (some (ei gs.size o' (upd (fun j=>c.tok j s) i t'),o'))),O:=upd c.O s (some o'),T:=upd c.T i (f (i==0,g',cZ))}) Τ ξ ?_ _ rfl;refine h.laid Τ (h.mem.atom h.hold rfl Β vE J5 bx) (h.hold.me cN) ((J3 (k:=0) sz dm).QK cN fun j r ε e=>?_) (h.ba.act Β rfl sB) ⟨fun r q m Υ hm bY hN=>?_,fun r q Υ bY=>?_⟩
     (h.dN.app bb ofEvents_g (fun _=>J4 dm) (fun s q p ⟨j,x⟩=>⟨j,(sC j s q p).1 x⟩) (fun j s q p x=>(sC j s q p).1 x))
     (h.fN.app h.bM.low (norel dm) (fun j b v hv=>.inl ⟨v,hv⟩) (fun r q Υ=>let ⟨hf,a,b,_⟩:=gK r q Υ;⟨hf,a,by rw[b]⟩) (fun j r k mu g e=>?_))
     ⟨g',?_,.inl rfl⟩ (fun j ε=>⟨by simp[cS.x,upd_ne _ _ ε,q6 _ ε],upd_ne _ _ ε⟩) (Q2.imp (fun hm=>⟨hm,e2⟩) fun iX=>keepW iX)
    ·by_cases aH:j=i∧r=s
     ·obtain⟨rfl,rfl⟩:=aH;exact yf e
     ·apply ε;show bT c.tok i s t' j r=.nil;rw[eG _ aH];exact e
    ·obtain⟨hf,a,b,Φ,_⟩:=gK r q Υ;have:=h.ed.oU r hf m a (by rw[b];exact hm) (fun j q p x=>bY j q p ((sC j r q p).2 x)) (fun j k L g x=>let ⟨g',y⟩:=EZ j r k L g x;hN j k L g' y);rw[b,Φ] at this;exact this
    ·obtain⟨hf,a,b,_,Φ⟩:=gK r q Υ;have:=h.ed.lB r hf a (fun j q p x=>bY j q p ((sC j r q p).2 x));rw[b,Φ] at this;exact this
    ·by_cases aH:j=i∧r=s
     ·obtain⟨rfl,rfl⟩:=aH;obtain⟨eH,Ξ,y,_⟩:=(JL sB).2.1 k mu g e;exact⟨k,eH,Ξ,by show bT c.tok j r t' j r=_;rw[eS];exact y⟩
     ·exact⟨k,mu,g,by show bT c.tok i s t' j r=_;rw[eG _ aH];exact e⟩
    ·have e:({c with tok:=bT c.tok i s t',view:=upd c.view i (upd (c.view i) s (some (ei gs.size o' (upd (fun j=>c.tok j s) i t'),o'))),O:=upd c.O s (some o'),T:=upd c.T i (f (i==0,g',cZ))}:cS).x i=cZ:=by
      simp[cZ,cS.x,upd_same,ua]
     rw[e];show iT P Q (upd c.T i (f (i==0,g',cZ)) i) _ _ _;rw[upd_same];exact Q4
  | _=>rw[ξ] at hgo;exact hgo.elim
 ·refine fun sl=>⟨c,_,w,_,runT_crowd_go Τ ξ,?_,.inr (.inr ⟨by simp,rfl,?_⟩)⟩
  ·rw[J0,Array.append_empty];have:=h.laid (c':=c) (u:=#[]) Τ (g':={g with status:=.blocked}) h.mem h.hold (by rw[Array.append_empty];exact h.bM) h.ba h.ed (by rw[Array.append_empty];exact h.dN) (by rw[Array.append_empty];exact h.fN) ⟨g,Ζ,.inr ⟨κ,rfl,s,o,Β,hw,cg⟩⟩ (fun j ε=>⟨rfl,rfl⟩) (.inr fun j s o _ a b=>⟨o,a,b⟩)
   rwa [Array.append_empty] at this
  ·have e:gs.map (woken P g {g with status:=.blocked} w)=gs:=by
    have:woken P g {g with status:=.blocked} w=id:=by
     funext b;simp[woken]
    rw[this];simp
   rw[e];exact Q1 Τ κ.1 (by simp)
end
theorem J6:∀(q:Nat) (l:List Nat),l.Nodup→(∀x∈l,x<q)→l.length≤q:=by
 intro q
 induction q with
 | zero=>intro l _ h;cases l with
  | nil=>simp
  | cons a l=>exact absurd (h a (by simp)) (by omega)
 | succ q Γ=>
  intro l Η h;have:=Γ (l.erase q) (Η.erase q) (fun x δ=>by
   have R:=(Η.mem_erase_iff).1 δ
   have:=h x R.2
   have:=R.1;omega)
  by_cases Υ:q∈l
  ·have:=List.length_erase_of_mem Υ;omega
  ·rw[List.erase_of_not_mem Υ] at this;omega
theorem Q8 (l:List Nat) (q:Nat) (Η:l.Nodup) (h:∀x∈l,x<q) (ω:l.length=q):∀k,k<q→k∈l:=fun k υ=>by
 apply Classical.byContradiction;intro iz;have:=J6 q (k::l) (List.nodup_cons.2 ⟨iz,Η⟩) (fun x δ=>by
  rcases List.mem_cons.1 δ with rfl|δ
  ·exact υ
  ·exact h x δ)
 simp at this;omega
section
variable {n:Nat} {tok:Nat→Nat→Tok} {spec:Nat→Nat→Option Spec} {view:Nat→Nat→Option (Nat×aK)} {rel:Nat→Bool} {O:Nat→Option aK} {bs home:Nat→Nat} {s i:Nat} {o:aK}
theorem ev.fin (h:ev n tok spec view rel O bs home) (ξ:O s=some o) {j q p:Nat} {aB:qX} (Μ:tok j s=.par q p aB) (he:hK (.par q p aB)=1):p=0∧o.cnt=0∧∀a k m g,tok a s=.ch k m g→g=.gone:=by
 have ε:j<n:=h.lt (s:=s) (by rw[Μ];simp)
 have Η:=(h.bf s o ξ).2
 have sx:aY n (fun a=>tok a s) hK=1:=by
  rw[oQ (φ:=hK) (fun t Μ=>by cases t<;>simp_all [eC,hK]) Η.m1 ε (by rw[Μ];rfl),Μ,he]
 have eν:aY n (fun a=>tok a s) gU=p:=by
  rw[oQ (φ:=gU) (fun t Μ=>by cases t<;>simp_all [eC,gU]) Η.m1 ε (by rw[Μ];rfl),Μ];rfl
 obtain⟨f1,f2,f3,f4,f5,f6⟩:=Η.Jl sx;refine⟨by omega,f4,fun a k m g μ=>?_⟩;have E0:a<n:=h.lt (s:=s) (by rw[μ];simp);have AZ:=Η.Et;have l1:=e9 (fun a=>tok a s) ir E0;have l2:=e9 (fun a=>tok a s) jo E0;have nN:=e9 (fun a=>tok a s) jq E0;simp only[μ,ir,jo,jq] at l1 l2 nN;cases g with
 | gone=>rfl
 | work=>simp only[qY] at l1;omega
 | rel=>simp only[qY] at l1;omega
 | l2=>simp only[tD] at l2;omega
 | g9=>simp only[tE] at nN;omega
theorem ev.J7 (h:ev n tok spec view rel O bs home) (ξ:O s=some o) {k:Nat} {m:kF} {g:sg} (Μ:tok i s=.ch k m g) (Τ:g≠.gone):∀j q p,tok j s≠.par q p .bw:=fun j q p ε=>
 Τ ((h.fin ξ ε rfl).2.2 i k m g Μ)
theorem ev.only (h:ev n tok spec view rel O bs home) (ξ:O s=some o) (Μ:hI (tok i s)=1):∀j k L g,tok j s=.ch k (.c5 L) g→j=i:=fun j k L g ε=>by
 apply Classical.byContradiction;intro bu;have bb:i<n:=h.lt (s:=s) (by intro e;rw[e] at Μ;cases Μ);have eI:j<n:=h.lt (s:=s) (by rw[ε];simp);have Ε:=fX (fun a=>tok a s) .nil hI bb;have Δ:=e9 (upd (fun a=>tok a s) i .nil) hI eI;rw[upd_ne _ _ bu] at Δ;have yd:hI .nil=0:=rfl;have sy:hI (tok j s)=1:=by rw[ε];rfl
 simp only[Μ,yd] at Ε;simp only[sy] at Δ;have:=(h.bf s o ξ).1.Jj;have:=(h.bf s o ξ).1.f1;omega
def p7 (tok:Nat→Nat→Tok) (s:Nat):Nat→List Nat
 | 0=>[]
 | n+1=>match tok n s with
  | .ch k _ _=>k::p7 tok s n
  | _=>p7 tok s n
theorem yg (tok:Nat→Nat→Tok) (s:Nat):∀n k,k∈p7 tok s n↔∃j m g,j<n∧tok j s=.ch k m g
 | 0,k=>by simp[p7]
 | n+1,k=>by
  have Γ:=yg tok s n k
  have old:(∃j m g,j<n∧tok j s=.ch k m g)→∃j m g,j<n+1∧tok j s=.ch k m g:=fun⟨j,m,g,R,γ⟩=>⟨j,m,g,by omega,γ⟩
  have split:(∃j m g,j<n+1∧tok j s=.ch k m g)→(∃j m g,j<n∧tok j s=.ch k m g)∨∃m g,tok n s=.ch k m g:=fun⟨j,m,g,R,γ⟩=>by
   by_cases e:j=n
   ·subst e;exact .inr ⟨m,g,γ⟩
   ·exact .inl ⟨j,m,g,by omega,γ⟩
  unfold p7;cases δ:tok n s with
  | nil=>exact Γ.trans ⟨old,fun h=>(split h).elim id fun⟨m,g,e⟩=>by rw[δ] at e;cases e⟩
  | par=>exact Γ.trans ⟨old,fun h=>(split h).elim id fun⟨m,g,e⟩=>by rw[δ] at e;cases e⟩
  | ch Ω bW g'=>
   rw[List.mem_cons,Γ];constructor
   ·rintro(rfl|h)
    ·exact⟨n,bW,g',by omega,δ⟩
    ·exact old h
   ·intro h;rcases split h with h|⟨m,g,e⟩
    ·exact .inr h
    ·rw[δ] at e;cases e;exact .inl rfl
theorem J8 (tok:Nat→Nat→Tok) (s:Nat):∀n,(p7 tok s n).length=aY n (fun a=>tok a s) kI
 | 0=>rfl
 | n+1=>by
  have Γ:=J8 tok s n;rw[tL];unfold p7;cases δ:tok n s<;>simp[kI,Γ]
theorem J9 (ω:∀j bC k m g bW g',tok j s=.ch k m g→tok bC s=.ch k bW g'→j=bC):∀n,(p7 tok s n).Nodup
 | 0=>List.nodup_nil
 | n+1=>by
  have Γ:=J9 ω n;unfold p7;cases δ:tok n s with
  | nil=>exact Γ
  | par=>exact Γ
  | ch k m g=>
   refine List.nodup_cons.2 ⟨fun h=>?_,Γ⟩;obtain⟨j,bW,g',R,γ⟩:=(yg tok s n k).1 h;have:=ω j n k bW g' m g γ δ;omega
theorem ev.full (h:ev n tok spec view rel O bs home) (ξ:O s=some o) {q:Nat} {aB:qX} (Μ:tok i s=.par q 0 aB) (jL:aB=.lp∨aB=.w4) :
  o.ab.Perm (List.range q)∧(o.aQ≠none→o.L.Perm (List.range q))∧∀a k m g,tok a s=.ch k m g→g=.gone:=by
 have bb:i<n:=h.lt (s:=s) (by rw[Μ];simp)
 have he:hK (.par q 0 aB)=1:=by rcases jL with rfl|rfl<;>rfl
 obtain⟨_,_,q5⟩:=h.fin ξ Μ he;have Η:=(h.bf s o ξ).2;have cm:aY n (fun a=>tok a s) hJ=q:=by
  rw[oQ (φ:=hJ) (fun t Μ=>by cases t<;>simp_all [eC,hJ]) Η.m1 bb (by rw[Μ];rfl),Μ];rfl
 have dR:aY n (fun a=>tok a s) gU=0:=by
  rw[oQ (φ:=gU) (fun t Μ=>by cases t<;>simp_all [eC,gU]) Η.m1 bb (by rw[Μ];rfl),Μ];rfl
 have eξ:=Η.Jk
 have vM:=h.par i s q 0 aB Μ;subst vM;have Q9:=J9 (tok:=tok) (s:=s) (fun j bC k m g bW g' R γ=>h.tQ s j bC k m g bW g' R γ) n;have lt:∀k∈p7 tok s n,k<q:=fun k υ=>by
  obtain⟨j,m,g,_,ε⟩:=(yg tok s n k).1 υ;have:=h.so s j k m g q 0 aB ε Μ;omega
 have full:=Q8 _ q Q9 lt (by rw[J8];omega);obtain⟨eK,fN⟩:=h.fM s o ξ;obtain⟨Q',lm⟩:=h.fh s o ξ;refine⟨(List.perm_ext_iff_of_nodup eK List.nodup_range).2 fun k=>?_,fun e'=>(List.perm_ext_iff_of_nodup Q' List.nodup_range).2 fun k=>?_,q5⟩
 ·rw[fN,List.mem_range];constructor
  ·rintro⟨j,m,g,ε,_⟩;have:=h.so s j k m g q 0 aB ε Μ;omega
  ·intro υ;obtain⟨j,m,g,_,ε⟩:=(yg tok s n k).1 (full k υ);exact⟨j,m,g,ε,by rw[q5 j k m g ε];simp⟩
 ·rw[lm,List.mem_range];constructor
  ·rintro⟨j,m,g,ε,_⟩;have:=h.so s j k m g q 0 aB ε Μ;omega
  ·intro υ;obtain⟨j,m,g,_,ε⟩:=(yg tok s n k).1 (full k υ);refine⟨j,m,g,ε,?_⟩;rcases h.nY j s k m g o ξ ε (by rw[q5 j k m g ε];simp) with rfl|⟨_,e⟩
   ·trivial
   ·exact absurd e e'
end
section
variable {H H':cw→ψ} {aC oV:Nat→Nat→Option (Array Value×TypeId)} {tok ee:Nat→Nat→Tok} {O O':Nat→Option aK} {bs:Nat→Nat} {deaf:Nat→Nat} {N gW:Nat} {t:Trace} {bl w w':World} {i:Nat} {y:MemOp} {b s:Nat} {o:aK}
theorem ofEvents_one {fn:FuncId} {pos:String} {e:Event}:MemOp.ofEvents i fn pos #[e]=#[{g:=i,fn,pos,act:=.ofEvent e}]:=by rw[ofEvents_eq];simp
theorem h2.word (h:h2 H aC tok O bs deaf N t) (Ο:y.g=i) (μ:y.act=.mark (.acquire ⟨b,0,none⟩)∨y.act=.mark (.releaseMerge ⟨b,0,none⟩)) (hb:b<N) (cN:lz O O') (hv:∀j b v,oV j b=some v→aC j b=some v)
  (χ:∀k,c8 (t++#[y]) (iU ee O' (t++#[y]) k) (H' k)):h2 H' oV ee O' bs deaf N (t++#[y]):=by
 have nt:y.act.touch?=none:=by rcases μ with e|e<;>rw[e]<;>rfl
 have old:∀k a,touchAt (t++#[y]) k=some a→touchAt t k=some a∧k<t.size:=fun k a υ=>by
  obtain⟨x,δ,vB⟩:=touch_of υ;rcases getElem?_append_cases δ with⟨aE,g8⟩|⟨_,fO⟩
  ·exact⟨by rw[touchAt_of g8];exact vB,aE⟩
  ·simp at fO;subst fO;rw[nt] at vB;cases vB
 refine⟨fun said=>noRace_append (g:=i) (h.race said) (fun op Κ=>by simp at Κ;subst Κ;exact Ο) (fun k a _ op Κ c η _=>by simp at Κ;subst Κ;rw[nt] at η;cases η),fun op Κ=>?_,fun op Κ a=>?_,χ,fun j c v η k a υ=>h.nS j c v (hv j c v η) k a (old k a υ).1,fun s o' c ξ η k a υ e0=>?_,fun j=>?_⟩
 ·rcases Array.mem_append.1 Κ with Κ|Κ
  ·exact h.low op Κ
  ·simp at Κ;subst Κ;rcases μ with e|e<;>rw[e]<;>exact hb
 ·rcases Array.mem_append.1 Κ with Κ|Κ
  ·exact h.norel op Κ a
  ·simp at Κ;subst Κ;rcases μ with e|e<;>rw[e]<;>simp
 ·obtain⟨kL,R,γ⟩:=cN.1 s o' ξ;obtain⟨ο,Ι⟩:=old k a υ;rcases h.cont s kL c R (by rw[γ];exact η) k a ο e0 with x|⟨x,cZ⟩
  ·exact .inl x
  ·exact .inr ⟨x,by rw[g?_old Ι];exact cZ⟩
 ·rw[Deaf_push,←h.hears j];rcases μ with e|e<;>simp[deafStep,e]
theorem h2.vN (h:h2 H aC tok O bs deaf N t) (k:cw) (nt:y.act.touch?=none) (cN:lz O O') (dy:∀i s,ee i s≠.nil→tok i s≠.nil):c8 (t++#[y]) (iU ee O' (t++#[y]) k) (H k):=
 (h.perms k).others (fun _ υ=>AT cN.1 dy (EI _ υ)) fun op Κ a μ=>by simp at Κ;subst Κ;rw[nt] at μ;cases μ
theorem Knows.marked {p:Nat} {op:MemOp} (R:t[p]?=some op) (γ:op.act=.mark (.releaseMerge ⟨b,0,none⟩)) (ο:t.heard p) (dQ:∀op∈t,∀a,op.act≠.mark (.release a)) (Τ:y.g=i) (Ο:y.act=.mark (.acquire ⟨b,0,none⟩)) (hd:Deaf t i=0):Knows (t++#[y]) i p:=by
 have iW:(t++#[y])[t.size]?=some y:=by simp
 have x9:(t++#[y]).heard t.size:=⟨i,by simp[Trace.g?,Τ],by rw[deaf_old (Nat.le_refl _)];exact hd⟩
 have χ:=lt_size_of_getElem? R;refine⟨t.size,y,iW,Τ,.inr (.single (.inr ⟨.marked (a:=⟨b,0,none⟩) χ (.inr ?_) ?_ ?_,(heard_old χ).2 ο,x9⟩))⟩
 ·rw[act?_old χ,act?_of R,γ]
 ·rw[act?_of iW,Ο]
 ·intro Ω iw eU jM;rw[act?_old eU] at jM;obtain⟨q3,iX,hM⟩:=Option.map_eq_some_iff.1 jM;exact dQ q3 (mem_of_getElem? iX) _ hM
theorem c8.mm {iR:Nat→Prop} {G:ψ} (h:c8 t iR G) (nt:y.act.touch?=none) (υ:∀k,iR k→Knows (t++#[y]) i k):c8 (t++#[y]) (Knows (t++#[y]) i) G:=
 h.others υ fun op Κ a μ=>by simp at Κ;subst Κ;rw[nt] at μ;cases μ
theorem Sub.empty (G:ψ):Sub ψ.empty G:=⟨fun _ _ _ _ h=>(by cases h),fun _ _ h=>(by cases h),fun _ _ h=>(by cases h)⟩
theorem Sub.both {A B aG:ψ} (h:Sub A aG) (k:Sub B aG):Sub (join A B) aG:=by
 refine⟨fun b o v p η=>?_,fun b x κ=>?_,fun b x hv=>?_⟩
 ·simp only[join] at η;cases Τ:A.aF b o with
  | none=>rw[Τ] at η;exact k.aF b o v p η
  | some z=>rw[Τ] at η;cases η;exact h.aF b o v p Τ
 ·simp only[join] at κ;cases Τ:A.row b with
  | none=>rw[Τ] at κ;exact k.row b x κ
  | some z=>rw[Τ] at κ;cases κ;exact h.row b _ Τ
 ·simp only[join] at hv;cases Τ:A.obj b with
  | none=>rw[Τ] at hv;exact k.obj b x hv
  | some z=>rw[Τ] at hv;cases hv;exact h.obj b _ Τ
theorem Sub.Ra {G H:ψ} (cY:Fits G w) (Α:Fits H w) (ap:Apart G H):Sub H (join G H):=by
 refine⟨fun b o v p η=>?_,fun b x κ=>?_,fun b x hv=>?_⟩
 ·simp only[join];cases Τ:G.aF b o with
  | none=>exact⟨p,η,id⟩
  | some z=>
   obtain⟨eZ,eT⟩:=z;have Ε:=cY.aF b o eZ eT Τ;have Δ:=Α.aF b o v p η;rw[Ε] at Δ;cases Δ;refine⟨eT,rfl,fun χ=>?_⟩;subst χ;exact absurd ⟨_,Τ⟩ (ap.pP b o ⟨_,η⟩)
 ·simp only[join];cases Τ:G.row b with
  | none=>exact κ
  | some z=>
   obtain⟨t1,hc⟩:=z;obtain⟨t2,fE⟩:=x;obtain⟨c1,a1,bg⟩:=cY.row b t1 hc Τ;obtain⟨c2,bI,dc⟩:=Α.row b t2 fE κ;rw[a1] at bI;cases bI;rw[←bg,←dc]
 ·simp only[join];cases Τ:G.obj b with
  | none=>exact hv
  | some z=>exact absurd ⟨x,hv⟩ (ap.obj b ⟨z,Τ⟩)
theorem E1 (G:ψ):join G ψ.empty=G:=by
 obtain⟨a,b,c⟩:=G;simp only[join,ψ.empty];congr
 ·funext x y;cases a x y<;>rfl
 ·funext x;cases b x<;>rfl
 ·funext x;cases c x<;>rfl
theorem gI.vO (h:gI H aC O bl w) (hv:∀j b v,oV j b=some v→aC j b=some v):gI H oV O bl w:=⟨h.fit,fun j b c t hb=>h.ly j b c t (hv j b _ hb),h.ft,h.keep⟩
theorem hL.vO (h:hL H aC O gW) (hv:∀j b v,oV j b=some v→aC j b=some v):hL H oV O gW:=by
 have J':∀j b,aC j b=none→oV j b=none:=fun j b e=>by
  cases δ:oV j b with
  | none=>rfl
  | some v=>rw[hv j b v δ] at e;cases e
 exact⟨h.apart,h.high,h.m3,fun j b v hb=>let ⟨a1,bg,cv⟩:=h.fresh j b v (hv j b v hb);⟨a1,bg,fun k υ=>J' k b (cv k υ)⟩,fun s o b ξ hb=>let ⟨a1,bg,cv⟩:=h.jK s o b ξ hb;⟨a1,bg,fun k=>J' k b (cv k)⟩,h.j2,h.oT,h.ed⟩
theorem jN {o':aK} (Β:O s=some o) {r:Nat} {q:aK} (h:upd O s (some o') r=some q):(r=s∧q=o')∨(r≠s∧O r=some q):=by
 by_cases e:r=s
 ·subst e;rw[upd_same] at h;cases h;exact .inl ⟨rfl,rfl⟩
 ·rw[upd_ne _ _ e] at h;exact .inr ⟨e,h⟩
theorem A4 {a b:Tok} (Μ:tok i s=a) (μ:∀q p,a≠.par q p .bw) (hb:∀q p,b≠.par q p .bw) (j r q p:Nat):bT tok i s b j r=.par q p .bw↔tok j r=.par q p .bw:=by
 by_cases e:j=i∧r=s
 ·obtain⟨rfl,rfl⟩:=e;rw[eS,Μ];exact⟨fun x=>absurd x (hb q p),fun x=>absurd x (μ q p)⟩
 ·rw[eG _ e]
theorem yh {a b:Tok} (Μ:tok i s=a) (μ:a≠.nil) (j r:Nat) (h:bT tok i s b j r≠.nil):tok j r≠.nil:=by
 by_cases e:j=i∧r=s
 ·obtain⟨rfl,rfl⟩:=e;rw[Μ];exact μ
 ·rw[eG _ e] at h;exact h
theorem yi {a b:Tok} (Μ:tok i s=a) (hb:∀k m g,a=.ch k m g→∃k m g,b=.ch k m g) (j r k:Nat) (m:kF) (g:sg) (h:tok j r=.ch k m g):∃k m g,bT tok i s b j r=.ch k m g:=by
 by_cases e:j=i∧r=s
 ·obtain⟨rfl,rfl⟩:=e;rw[eS];exact hb k m g (Μ▸h)
 ·rw[eG _ e];exact⟨k,m,g,h⟩
end
section
variable {P:Program} {Q:Value→Prop} {bl:World} {c c':cS} {gs:Array Goroutine} {w w':World} {t:Trace} {i:Nat} {g g':Goroutine} {es:Array Event}
variable {f:Bool×Goroutine×aR→fL (Bool×Goroutine×aR)}
theorem Inv.A5 (h:Inv P Q bl c gs w t) (Τ:gs[i]?=some g) (υ:Jw P (i==0) (kQ P Q f) g (c.x i)):ht P Q bl c gs w t i f:=by
 obtain⟨s,sp,m,k,g',R,γ,ο,Ι,ay,a6,cg,E2⟩:=υ;have bb:i<gs.size:=lF Τ;obtain⟨o,Β,bQ⟩:=h.ba.pX i s sp R;subst bQ;have dy:c.tok i s=.ch k .own .work:=ο;have hd:c.deaf i=0:=Ι;have dQ:c.rel i=false:=a6;have ξ:=cg w (h.mem.fit (.inl i));have ub:=h.ba.J7 Β dy (by simp);have c9:=h.ed.oU s o m Β γ ub (fun j Ω L g ε=>by
  have:=h.ba.only Β (i:=i) (by rw[dy];rfl) j Ω L g ε;subst this;rw[dy] at ε;cases ε)
 have a8:=E2 o.L (c.H (.inr m)) c9 (h.hold.apart _ _ (by simp)) ⟨(h.ba.fh s o Β).1,fun υ=>(by
  obtain⟨j,bW,ad,Ε,Δ⟩:=((h.ba.fh s o Β).2 k).1 υ;have:=h.ba.tQ s j i k bW ad _ _ Ε dy;subst this;rw[dy] at Ε;cases Ε;exact Δ),w,h.mem.fit _,h.mem.fit _⟩
 let cZ:aR:={c.x i with G:=join (c.H (.inl i)) (c.H (.inr m)),tok:=upd (c.tok i) s (.ch k (.c5 o.L) .work),view:=upd (c.view i) s none}
 let c':cS:={c with H:=bF (bF c.H (.inl i) (join (c.H (.inl i)) (c.H (.inr m)))) (.inr m) ψ.empty,tok:=bT c.tok i s (.ch k (.c5 o.L) .work),view:=upd c.view i (upd (c.view i) s none),O:=upd c.O s (some o),T:=upd c.T i (f (i==0,g',cZ))}
 have cN:=lz.upd (o':=o) Β rfl
 have bw:=A4 (b:=.ch k (.c5 o.L) .work) dy (by simp) (by simp)
 have nil:=yh (b:=.ch k (.c5 o.L) .work) dy (by simp)
 have hm:dW s o.toSpec m:=.inr γ;refine ht.go (c':=c') Τ ξ ?_ _ rfl;rw[ofEvents_one];have m5:c'.x i=cZ:=by
  have:(Sum.inl i:cw)≠.inr m:=by simp
  simp[c',cZ,cS.x,upd_same,ua,bG _ _ this]
 refine h.laid (c':=c') Τ (h.mem.two (x' (h.mem.fit _) (h.mem.fit _)) (tT w) fun r q Υ=>?_) ?_ ?_ (h.ba.Eu Β dy) ⟨fun r q bW Υ c0 bY hN=>?_,fun r q Υ bY=>?_⟩
  (h.dN.app bb (fun op Κ=>by simp at Κ;subst Κ;rfl) (fun δ=>by rw[dQ] at δ;cases δ) (fun s q p ⟨j,x⟩=>⟨j,(bw j s q p).1 x⟩) (fun j s q p x=>(bw j s q p).1 x))
  (h.fN.app h.bM.low (fun op Κ b hb=>by simp at Κ;subst Κ;cases hb) (fun j b v hv=>.inl ⟨v,hv⟩) (fun r q Υ=>?_) (fun j r Ω mu g e=>yi dy (fun _ _ _ _=>⟨_,_,_,rfl⟩) j r Ω mu g e))
  ⟨g',?_,.inl rfl⟩ (fun j ε=>⟨?_,upd_ne _ _ ε⟩) (.inr fun j r q _ a b=>?_)
 ·rcases jN Β Υ with⟨rfl,rfl⟩|⟨_,bX⟩
  ·exact h.mem.ft _ _ Β
  ·exact h.mem.ft _ _ bX
 ·exact h.hold.two (by simp) (Sub.refl _) (Sub.empty _) (Apart.ss _) cN fun x δ=>by
   rcases δ with e|e
   ·cases e;exact⟨s,o,Β,hm⟩
   ·cases e
 ·refine h.bM.word (i:=i) rfl (.inl rfl) (h.low Β hm) cN (fun _ _ _ x=>x) fun a=>?_;by_cases Δ:a=.inr m
  ·subst Δ;show c8 _ _ (bF _ _ _ _);rw[dt];exact c8.empty
  ·show c8 _ _ (bF _ _ _ _);rw[bG _ _ Δ];by_cases Ε:a=.inl i
   ·subst Ε;rw[dt];exact((h.bM.perms (.inl i)).own (fun op Κ=>by simp at Κ;subst Κ;rfl)).join ((h.bM.perms (.inr m)).acquire h.bM.norel Β hm (by rw[dy];simp) rfl rfl (by rw[h.bM.hears];exact hd))
   ·rw[bG _ _ Ε];exact h.bM.vN a rfl cN nil
 ·rcases jN Β Υ with⟨rfl,rfl⟩|⟨e,bX⟩
  ·exact absurd (eS ..) (hN i k q.L .work)
  ·have bu:(.inr bW:cw)≠.inr m:=fun x=>by cases x;exact e (h.hold.j2 r s q o m bX Β (.inr c0) hm)
   show q.aG q.L (bF (bF c.H _ _) (.inr m) _ (.inr bW));rw[bG _ _ bu,h4];exact h.ed.oU r q bW bX c0 (fun j q p x=>bY j q p ((bw j r q p).2 x)) fun j k L g x=>hN j k L g (by show bT c.tok i s _ j r=_;rw[eG _ (fun y=>e y.2)];exact x)
 ·rcases jN Β Υ with⟨rfl,rfl⟩|⟨e,bX⟩
  ·have bu:(.inr r:cw)≠.inr m:=fun x=>by cases x;exact h.hold.oT _ q m Β γ rfl
   show kM q.D q.ab (bF (bF c.H _ _) (.inr m) _ (.inr r));rw[bG _ _ bu,h4];exact h.ed.lB r q Β (fun j q p x=>bY j q p ((bw j r q p).2 x))
  ·have bu:(.inr r:cw)≠.inr m:=fun x=>by cases x;exact e (h.hold.j2 m s q o m bX Β (.inl rfl) hm)
   show kM q.D q.ab (bF (bF c.H _ _) (.inr m) _ (.inr r));rw[bG _ _ bu,h4];exact h.ed.lB r q bX (fun j q p x=>bY j q p ((bw j r q p).2 x))
 ·rcases jN Β Υ with⟨rfl,rfl⟩|⟨_,bX⟩
  ·exact⟨_,Β,rfl⟩
  ·exact⟨q,bX,rfl⟩
 ·rw[m5];show iT P Q (upd c.T i (f (i==0,g',cZ)) i) _ _ _;rw[upd_same];exact a8
 ·have hc:(Sum.inl j:cw)≠.inr m:=by simp
  have fE:(Sum.inl j:cw)≠.inl i:=fun e=>ε (by cases e;rfl);simp[c',cS.x,upd_ne _ _ ε,q6 _ ε,bG _ _ hc,bG _ _ fE]
 ·exact⟨q,by show upd c.O s (some o) r=some q;rw[A1 Β];exact a,b⟩
theorem Inv.E3 (h:Inv P Q bl c gs w t) (Τ:gs[i]?=some g) (υ:Jx P (i==0) (kQ P Q f) g (c.x i)):ht P Q bl c gs w t i f:=by
 obtain⟨s,sp,m,k,L,g',G',E,R,γ,ο,Ι,ay,a6,cg,lG,da,a8⟩:=υ;have bb:i<gs.size:=lF Τ;obtain⟨o,Β,bQ⟩:=h.ba.pX i s sp R;subst bQ;have dy:c.tok i s=.ch k (.c5 L) .work:=ο;have hd:c.deaf i=0:=Ι;have dQ:c.rel i=false:=a6;have ξ:=cg w (h.mem.fit (.inl i));have aD:o.L=L:=h.ba.c5 i s k L .work o Β dy;let o':aK:={o with L:=o.L++[k]};let cZ:aR:={c.x i with G:=G',tok:=upd (c.tok i) s (.ch k .fin .work),view:=upd (c.view i) s none};let c':cS:={c with H:=bF (bF c.H (.inl i) G') (.inr m) E,tok:=bT c.tok i s (.ch k .fin .work),view:=upd c.view i (upd (c.view i) s none),O:=upd c.O s (some o'),T:=upd c.T i (f (i==0,g',cZ))};have cN:lz c.O (upd c.O s (some o')):=lz.upd Β rfl;have bw:=A4 (b:=.ch k .fin .work) dy (by simp) (by simp);have nil:=yh (b:=.ch k .fin .work) dy (by simp);have hm:dW s o.toSpec m:=.inr γ;refine ht.go (c':=c') Τ ξ ?_ _ rfl;rw[ofEvents_one];have m5:c'.x i=cZ:=by
  have:(Sum.inl i:cw)≠.inr m:=by simp
  simp[c',cZ,cS.x,upd_same,ua,bG _ _ this]
 refine h.laid (c':=c') Τ (h.mem.two (lG.l.fits (h.mem.fit (.inl i))) (lG.r.fits (h.mem.fit (.inl i))) fun r q Υ=>?_) ?_ ?_ (h.ba.QH Β dy) ⟨fun r q bW Υ c0 bY hN=>?_,fun r q Υ bY=>?_⟩
  (h.dN.app bb (fun op Κ=>by simp at Κ;subst Κ;rfl) (fun δ=>by rw[dQ] at δ;cases δ) (fun s q p ⟨j,x⟩=>⟨j,(bw j s q p).1 x⟩) (fun j s q p x=>(bw j s q p).1 x))
  ⟨fun r q bW Υ c0 p op χ μ=>?_,fun j b v hv op Κ μ=>?_⟩
  ⟨g',?_,.inl rfl⟩ (fun j ε=>⟨?_,upd_ne _ _ ε⟩) (.inr fun j r q _ a b=>?_)
 ·rcases jN Β Υ with⟨rfl,rfl⟩|⟨_,bX⟩
  ·exact(h.mem.ft r o Β:At r o w)
  ·exact h.mem.ft _ _ bX
 ·exact h.hold.two (by simp) lG.l.pY lG.r.pY lG.apart cN fun x δ=>by
   rcases δ with e|e
   ·cases e;exact⟨s,o,Β,hm⟩
   ·cases e
 ·refine h.bM.word (i:=i) rfl (.inr rfl) (h.low Β hm) cN (fun _ _ _ x=>x) fun a=>?_;by_cases Δ:a=.inr m
  ·subst Δ;show c8 _ _ (bF _ _ _ _);rw[dt];exact((c8.release (h.bM.perms (.inl i)) rfl rfl (by rw[h.bM.hears];exact hd)).sub lG.r).mono fun _ x=>AT cN.1 nil x
  ·show c8 _ _ (bF _ _ _ _);rw[bG _ _ Δ];by_cases Ε:a=.inl i
   ·subst Ε;rw[dt];exact((h.bM.perms (.inl i)).own (fun op Κ=>by simp at Κ;subst Κ;rfl)).sub lG.l
   ·rw[bG _ _ Ε];exact h.bM.vN a rfl cN nil
 ·rcases jN Β Υ with⟨rfl,rfl⟩|⟨e,bX⟩
  ·have e:bW=m:=by have:o.aQ=some bW:=c0;rw[γ] at this;cases this;rfl
   subst e;show o.aG (o.L++[k]) (bF (bF c.H _ _) (.inr bW) _ (.inr bW));rw[dt,aD];exact da
  ·have bu:(.inr bW:cw)≠.inr m:=fun x=>by cases x;exact e (h.hold.j2 r s q o m bX Β (.inr c0) hm)
   show q.aG q.L (bF (bF c.H _ _) (.inr m) _ (.inr bW));rw[bG _ _ bu,h4];exact h.ed.oU r q bW bX c0 (fun j q p x=>bY j q p ((bw j r q p).2 x)) fun j k L g x=>hN j k L g (by show bT c.tok i s _ j r=_;rw[eG _ (fun y=>e y.2)];exact x)
 ·rcases jN Β Υ with⟨rfl,rfl⟩|⟨e,bX⟩
  ·have bu:(.inr r:cw)≠.inr m:=fun x=>by cases x;exact h.hold.oT _ o m Β γ rfl
   show kM o.D o.ab (bF (bF c.H _ _) (.inr m) _ (.inr r));rw[bG _ _ bu,h4];exact h.ed.lB r o Β (fun j q p x=>bY j q p ((bw j r q p).2 x))
  ·have bu:(.inr r:cw)≠.inr m:=fun x=>by cases x;exact e (h.hold.j2 m s q o m bX Β (.inl rfl) hm)
   show kM q.D q.ab (bF (bF c.H _ _) (.inr m) _ (.inr r));rw[bG _ _ bu,h4];exact h.ed.lB r q bX (fun j q p x=>bY j q p ((bw j r q p).2 x))
 ·rcases getElem?_append_cases χ with⟨_,fP⟩|⟨_,fO⟩
  ·have yj:∀hf,c.O r=some hf→hf.aQ=some bW→(∃Ω mu g,bT c.tok i s (.ch k .fin .work) op.g r=.ch Ω mu g)∧(c.rel op.g=true→Before (t++#[{g:=i,fn:=g.frame.fn,pos:=g.frame.place,act:=MemAct.ofEvent (Go.ConcR.mk (Mark.releaseMerge {block:=m,off:=0}))}]) p (c.dk op.g)):=fun hf Ε Δ=>by
    obtain⟨⟨Ω,mu,g,ο⟩,Ι⟩:=h.fN.iv r hf bW Ε Δ p op fP μ;exact⟨yi dy (fun _ _ _ _=>⟨_,_,_,rfl⟩) _ _ _ _ _ ο,fun κ=>(Ι κ).app _⟩
   rcases jN Β Υ with⟨rfl,rfl⟩|⟨_,bX⟩
   ·exact yj o Β c0
   ·exact yj q bX c0
  ·simp at fO;subst fO;cases μ;have:r=s:=by
    rcases jN Β Υ with⟨rfl,rfl⟩|⟨_,bX⟩
    ·rfl
    ·exact h.hold.j2 r s q o m bX Β (.inr c0) hm
   subst this;exact⟨⟨k,.fin,.work,eS ..⟩,fun κ=>by
    have:c.rel i=true:=κ;rw[dQ] at this;cases this⟩
 ·rcases Array.mem_append.1 Κ with Κ|Κ
  ·exact h.fN.tX j b v hv op Κ μ
  ·simp at Κ;subst Κ;cases μ;have:=(h.hold.jK s o m Β hm).2.2 j;have kP:c.aC j m=some v:=hv;rw[this] at kP;cases kP
 ·rw[m5];show iT P Q (upd c.T i (f (i==0,g',cZ)) i) _ _ _;rw[upd_same];exact a8
 ·have hc:(Sum.inl j:cw)≠.inr m:=by simp
  have fE:(Sum.inl j:cw)≠.inl i:=fun e=>ε (by cases e;rfl);simp[c',cS.x,upd_ne _ _ ε,q6 _ ε,bG _ _ hc,bG _ _ fE]
 ·by_cases e:r=s
  ·subst e;rw[Β] at a;cases a;exact⟨o',upd_same ..,b⟩
  ·exact⟨q,by show upd c.O s (some o') r=some q;rw[upd_ne _ _ e];exact a,b⟩
end
end Go.TL
