import Derived.Test.YtlabjopijpkiaaaGreatEAC
set_option maxHeartbeats 16000000
set_option maxRecDepth 20000
set_option linter.unusedSectionVars false
set_option linter.unusedSimpArgs false
set_option linter.unusedVariables false
namespace Go.TL
open Go.Conc
open Go.ConcM (OsLater)
open Go.ConcN (sumTo upd sumTo_upd upd_ne upd_same sumTo_congr le_sumTo)
section
variable {P:Program} {Q:Value->Prop} {bu:World} {c c':dn} {gs:Array Goroutine} {w w':World} {t:Trace} {i:Nat} {g g':Goroutine} {es:Array Event}
variable {f:Bool×Goroutine×a7->gK (Bool×Goroutine×a7)}
theorem Ui {o o':aW} {t t':Tok} (h:Act o t o' t'):(∀q p,t'≠.par q p .bH)/\(∀q p,t≠.par q p .bH)/\∀k L g,t=.ch k (.dA L) g->∃g',t'=.ch k (.dA L) g':=by
 cases h<;>refine⟨λq p e=>?_,λq p e=>?_,λk L g e=>?_⟩<;>cases e
 all_goals exact⟨_,rfl⟩
theorem MA {B:Type} (p:B->Bool) {y:B} (Μ:p y=false):∀(l:List B) (k:Nat) (x:B),l[k]?=some x->p x=true->((l.set k y).filter p).length<(l.filter p).length
 | [],k,x,h,_=>by simp at h
 | z::l,0,x,h,δ=>by
  simp at h;subst h;simp[List.set,δ,Μ]
 | z::l,k+1,x,h,δ=>by
  have:=MA p Μ l k x (by simpa using h) δ;simp only[List.set,List.filter_cons];split<;>simpa using this
theorem Uj {k:Nat} (Ω:gs[k]?=some g) (μ:g.status=.running) (hb:g'.status≠.running):ya (gs.setIfInBounds k g')<ya gs:=by
 unfold ya;rw[Array.toList_setIfInBounds];exact MA (λg:Goroutine=>decide (g.status=.running)) (by simp[hb]) _ k g (by rw[<-Ω];simp) (by simp[μ])
theorem Inv.atom (h:Inv P Q bu c gs w t) (Ω:gs[i]?=some g) (μ:jA g) (Ν:kr P Q (c.T i) (i==0) g (c.x i)) (ψ:Atom P (i==0) (mD P Q f) g (c.x i)):iQ P Q bu c gs w t i f:=by
 obtain⟨s,sp,U,γ,ο⟩:=ψ;have bd:i<gs.size:=nu Ω;obtain⟨o,Β,ca⟩:=h.bn.rR i s sp U;have uI:∀b,eN s sp b->b<w.heap.size:=λb hb=>h.low Β (by rw[ca];exact hb);have h4:¬gB (c.tok i s):=γ;have Ac:c.tok i s≠.nil:=λe=>h4 (by rw[e];trivial);have MB:∀{w':World} {es:Array Event} {k:Nat},fV (λb _=>eN s sp b) (λ_=>False) w w'->pF s sp (c.x i).deaf es->jB c.H c.aR c.tok c.O c.bC c.deaf w'.heap.size (t++MemOp.ofEvents i g.frame.fn g.frame.place es):=λ{w' es k} uR dQ=>by
  refine jB.grow ?_ uR.size;refine h.b5.ext h.hold i ofEvents_g (λop Τ=>?_) (λop Τ a ν=>?_) (λop Τ b hb=>?_) (λj=>?_)
  ·rcases Db dQ Τ with(e|e)|⟨b,off,wr,e,hb⟩
   ·rw[e];trivial
   ·rw[e];trivial
   ·rw[e];exact uI b hb
  ·rcases Db dQ Τ with(e|e)|⟨b,off,wr,e,hb⟩<;>rw[e] at ν<;>cases ν
  ·rcases Db dQ Τ with(e|e)|⟨ag,off,wr,e,ec⟩
   ·rw[e] at hb;cases hb
   ·rw[e] at hb;cases hb
   ·rw[e] at hb;simp[MemAct.touch?] at hb;subst hb;exact⟨s,o,ag,off,Β,by rw[ca];exact ec,rfl,.inl rfl⟩
  ·by_cases e:j=i
   ·subst e;rw[Deaf_own,h.b5.hears];exact dQ.1
   ·rw[Deaf_other t (Ne.symm e) _ ofEvents_g,h.b5.hears]
 have norel:∀{es:Array Event},pF s sp (c.x i).deaf es->∀op∈MemOp.ofEvents i g.frame.fn g.frame.place es,∀b,op.act≠.mark (.releaseMerge ⟨b,0,none⟩):=λdQ op Τ b hb=>by
  rcases Db dQ Τ with(e|e)|⟨ag,off,wr,e,ec⟩<;>rw[e] at hb<;>cases hb
 have MC:∀{es:Array Event},pF s sp (c.x i).deaf es->∀k,t.size<=k->¬(t++MemOp.ofEvents i g.frame.fn g.frame.place es).counts k:=λdQ=>Uf (s:=s) (sp:=sp) (by rw[h.b5.hears];exact dQ);rcases ο w (eZ gs.size o (λj=>c.tok j s)) o (h.mem.fit (.inl i)) (h.mem.ni i) ca (h.mem.gl s o Β) (λhp mx hv=>by
   obtain⟨dR,Ζ,Ε,a8⟩:=h.bn.wq i s hp mx hv;rw[Β] at Ζ;cases Ζ;exact⟨Ε,a8⟩) ⟨gs.size,λj=>c.tok j s,i,h.bn.bg s o Β,bd,rfl,λk L g e=>h.bn.dA i s k L g o Β e⟩ with hgo|⟨hw,cD,ξ⟩
 ·cases ξ:stepG P (i==0) g w with
  | go g' w' es=>
   rw[ξ] at hgo;obtain⟨fI,uR,dQ,hR⟩:=hgo;have MD:fV (λb _=>eN s o.toSpec b) (λ_=>False) w w':=by rw[ca];exact uR
   rcases hR with⟨bJ,aM⟩|⟨o',t',uT,bJ,Uk,aM⟩
   ·refine iQ.go (c':={c with view:=upd c.view i (upd (c.view i) s (some (eZ gs.size o (λj=>c.tok j s),o))),T:=upd c.T i (f (i==0,g',{c.x i with view:=upd (c.view i) s (some (eZ gs.size o (λj=>c.tok j s),o))}))}) Ω ξ ?_ _ rfl;refine h.laid Ω ((h.mem.atom h.hold rfl Β rfl MD bJ).Ab (Da Β).symm) h.hold (MB (k:=0) uR dQ) (h.bn.look Β) h.eT
     (h.eB.app bd ofEvents_g (λ_=>MC dQ) (λ_ _ _ x=>x) (λ_ _ _ _ x=>x))
     (h.gm.app h.b5.low (norel dQ) (λj b v hv=>.inl ⟨v,hv⟩) (λs o' ξ=>⟨o',ξ,rfl⟩) (λj s k mu g e=>⟨k,mu,g,e⟩))
     ⟨g',?_,.inl rfl⟩ (λj ζ=>⟨by simp[dn.x,upd_ne _ _ ζ],upd_ne _ _ ζ⟩) (.inr λj s o _ a b=>⟨o,a,b⟩)
    have e:({c with view:=upd c.view i (upd (c.view i) s (some (eZ gs.size o (λj=>c.tok j s),o))),T:=upd c.T i (f (i==0,g',{c.x i with view:=upd (c.view i) s (some (eZ gs.size o (λj=>c.tok j s),o))}))}:dn).x i={c.x i with view:=upd (c.view i) s (some (eZ gs.size o (λj=>c.tok j s),o))}:=by
     simp[dn.x,upd_same]
    rw[e];show kr P Q (upd c.T i (f (i==0,g',{c.x i with view:=upd (c.view i) s (some (eZ gs.size o (λj=>c.tok j s),o))})) i) _ _ _;rw[upd_same];exact aM
   ·have Ul:=LY (N:=gs.size) (τ:=λj=>c.tok j s) bd rfl uT
    have s5:=aM _ Ul;obtain⟨x6,C2,Hf⟩:=Mj uT;obtain⟨Um,Un,Uo⟩:=Ui uT;have dN:=nk.upd Β x6;have uU:∀j r q p,cg c.tok i s t' j r=.par q p .bH↔c.tok j r=.par q p .bH:=λj r q p=>by
     by_cases e:j=i/\r=s
     ·obtain⟨rfl,rfl⟩:=e;rw[fz];exact⟨λx=>absurd x (Um q p),λx=>absurd x (Un q p)⟩
     ·rw[fj _ e]
    have Hl:∀j r k L g,c.tok j r=.ch k (.dA L) g->∃g',cg c.tok i s t' j r=.ch k (.dA L) g':=λj r k L g ζ=>by
     by_cases e:j=i/\r=s
     ·obtain⟨rfl,rfl⟩:=e;rw[fz];exact Uo k L g ζ
     ·rw[fj _ e];exact⟨g,ζ⟩
    have keepW:o'=o->∀j r q,j≠i->c.O r=some q->kW q (c.tok j r)->∃jW,upd c.O s (some o') r=some jW/\kW jW (c.tok j r):=λkv j r q _ a b=>⟨q,by
     by_cases e:r=s
     ·subst e;subst kv;rw[Β] at a;cases a;exact upd_same _ _ _
     ·rw[upd_ne _ _ e];exact a,b⟩
    have hP:∀r q,upd c.O s (some o') r=some q->∃iz,c.O r=some iz/\iz.toSpec=q.toSpec/\iz.L=q.L/\iz.R=q.R:=λr q Χ=>by
     by_cases e:r=s
     ·subst e;rw[upd_same] at Χ;cases Χ;exact⟨o,Β,x6.symm,C2.symm,Hf.symm⟩
     ·rw[upd_ne _ _ e] at Χ;exact⟨q,Χ,rfl,rfl,rfl⟩
    let dw:a7:={c.x i with tok:=upd (c.tok i) s t',view:=upd (c.view i) s (some (eZ gs.size o' (upd (λj=>c.tok j s) i t'),o'))};refine iQ.go (c':={c with tok:=cg c.tok i s t',view:=upd c.view i (upd (c.view i) s (some (eZ gs.size o' (upd (λj=>c.tok j s) i t'),o'))),O:=upd c.O s (some o'),T:=upd c.T i (f (i==0,g',dw))}) Ω ξ ?_ _ rfl;refine h.laid Ω (h.mem.atom h.hold rfl Β x6 MD bJ) (h.hold.n5 dN) ((MB (k:=0) uR dQ).T4 dN λj r ζ e=>?_) (h.bn.act Β rfl uT) ⟨λr q m Χ hm b3 jk=>?_,λr q Χ b3=>?_⟩
     (h.eB.app bd ofEvents_g (λ_=>MC dQ) (λs q p ⟨j,x⟩=>⟨j,(uU j s q p).1 x⟩) (λj s q p x=>(uU j s q p).1 x))
     (h.gm.app h.b5.low (norel dQ) (λj b v hv=>.inl ⟨v,hv⟩) (λr q Χ=>let ⟨iz,a,b,_⟩:=hP r q Χ;⟨iz,a,by rw[b]⟩) (λj r k mu g e=>?_))
     ⟨g',?_,.inl rfl⟩ (λj ζ=>⟨by simp[dn.x,upd_ne _ _ ζ,s4 _ ζ],upd_ne _ _ ζ⟩) (Uk.imp (λhm=>⟨hm,fI⟩) λkv=>keepW kv)
    ·by_cases aP:j=i/\r=s
     ·obtain⟨rfl,rfl⟩:=aP;exact Ac e
     ·apply ζ;show cg c.tok i s t' j r=.nil;rw[fj _ aP];exact e
    ·obtain⟨iz,a,b,ag,_⟩:=hP r q Χ;have:=h.eT.qF r iz m a (by rw[b];exact hm) (λj q p x=>b3 j q p ((uU j r q p).2 x)) (λj k L g x=>let ⟨g',y⟩:=Hl j r k L g x;jk j k L g' y);rw[b,ag] at this;exact this
    ·obtain⟨iz,a,b,_,ag⟩:=hP r q Χ;have:=h.eT.nn r iz a (λj q p x=>b3 j q p ((uU j r q p).2 x));rw[b,ag] at this;exact this
    ·by_cases aP:j=i/\r=s
     ·obtain⟨rfl,rfl⟩:=aP;obtain⟨d',aa,y,_⟩:=(Mk uT).2.1 k mu g e;exact⟨k,d',aa,by show cg c.tok j r t' j r=_;rw[fz];exact y⟩
     ·exact⟨k,mu,g,by show cg c.tok i s t' j r=_;rw[fj _ aP];exact e⟩
    ·have e:({c with tok:=cg c.tok i s t',view:=upd c.view i (upd (c.view i) s (some (eZ gs.size o' (upd (λj=>c.tok j s) i t'),o'))),O:=upd c.O s (some o'),T:=upd c.T i (f (i==0,g',dw))}:dn).x i=dw:=by
      simp[dw,dn.x,upd_same,wF]
     rw[e];show kr P Q (upd c.T i (f (i==0,g',dw)) i) _ _ _;rw[upd_same];exact s5
  | _=>rw[ξ] at hgo;exact hgo.elim
 ·refine λsl=>⟨c,_,w,_,runT_crowd_go Ω ξ,?_,.inr (.inr ⟨η,rfl,?_⟩)⟩
  ·rw[My,Array.append_empty];have:=h.laid (c':=c) (u:=#[]) Ω (g':={g with status:=.blocked}) h.mem h.hold (by rw[Array.append_empty];exact h.b5) h.bn h.eT (by rw[Array.append_empty];exact h.eB) (by rw[Array.append_empty];exact h.gm) ⟨g,Ν,.inr ⟨μ,rfl,s,o,Β,hw,cD⟩⟩ (λj ζ=>⟨rfl,rfl⟩) (.inr λj s o _ a b=>⟨o,a,b⟩)
   rwa [Array.append_empty] at this
  ·have e:gs.map (woken P g {g with status:=.blocked} w)=gs:=by
    have:woken P g {g with status:=.blocked} w=id:=by
     funext b;simp[woken]
    rw[this];simp
   rw[e];exact Uj Ω μ.1 η
end
theorem ME:∀(q:Nat) (l:List Nat),l.Nodup->(∀x∈l,x<q)->l.length<=q:=by
 intro q
 induction q with
 | zero=>intro l _ h;cases l with
  | nil=>simp
  | cons a l=>exact absurd (h a η) J
 | succ q Α=>
  intro l Θ h;have:=Α (l.erase q) (Θ.erase q) (λx δ=>by
   have U:=(Θ.mem_erase_iff).1 δ
   have:=h x U.2
   have:=U.1;omega)
  by_cases Χ:q∈l
  ·have:=List.length_erase_of_mem Χ;omega
  ·rw[List.erase_of_not_mem Χ] at this;omega
theorem Up (l:List Nat) (q:Nat) (Θ:l.Nodup) (h:∀x∈l,x<q) (π:l.length=q):∀k,k<q->k∈l:=λk ψ=>by
 apply Classical.byContradiction;intro iA;have:=ME q (k::l) (List.nodup_cons.2 ⟨iA,Θ⟩) (λx δ=>by
  rcases List.mem_cons.1 δ with rfl|δ
  ·exact ψ
  ·exact h x δ)
 simp at this;omega
section
variable {n:Nat} {tok:Nat->Nat->Tok} {spec:Nat->Nat->Option Spec} {view:Nat->Nat->Option (Nat×aW)} {rel:Nat->Bool} {O:Nat->Option aW} {bC home:Nat->Nat} {s i:Nat} {o:aW}
theorem e9.fin (h:e9 n tok spec view rel O bC home) (ξ:O s=some o) {j q p:Nat} {aQ:sT} (Υ:tok j s=.par q p aQ) (he:jh (.par q p aQ)=1):p=0/\o.cnt=0/\∀a k m g,tok a s=.ch k m g->g=.gone:=by
 have ζ:j<n:=h.lt (s:=s) (by rw[Υ];simp)
 have Θ:=(h.bg s o ξ).2
 have uP:bh n (λa=>tok a s) jh=1:=by
  rw[qy (φ:=jh) (λt Υ=>by cases t<;>simp_all [fc,jh]) Θ.oR ζ (by rw[Υ];rfl),Υ,he]
 have kι:bh n (λa=>tok a s) h3=p:=by
  rw[qy (φ:=h3) (λt Υ=>by cases t<;>simp_all [fc,h3]) Θ.oR ζ (by rw[Υ];rfl),Υ];rfl
 obtain⟨f1,f2,f3,f4,f5,f6⟩:=Θ.LV uP;refine⟨J,f4,λa k m g ν=>?_⟩;have Hm:a<n:=h.lt (s:=s) (by rw[ν];simp);have C9:=Θ.GQ;have l1:=fO (λa=>tok a s) jU Hm;have l2:=fO (λa=>tok a s) kT Hm;have pD:=fO (λa=>tok a s) kU Hm;simp only[ν,jU,kT,kU] at l1 l2 pD;cases g with
 | gone=>rfl
 | work=>simp only[sU] at l1;omega
 | rel=>simp only[sU] at l1;omega
 | l2=>simp only[v7] at l2;omega
 | iw=>simp only[v8] at pD;omega
theorem e9.MF (h:e9 n tok spec view rel O bC home) (ξ:O s=some o) {k:Nat} {m:ml} {g:uC} (Υ:tok i s=.ch k m g) (Ω:g≠.gone):∀j q p,tok j s≠.par q p .bH:=λj q p ζ=>
 Ω ((h.fin ξ ζ rfl).2.2 i k m g Υ)
theorem e9.only (h:e9 n tok spec view rel O bC home) (ξ:O s=some o) (Υ:jf (tok i s)=1):∀j k L g,tok j s=.ch k (.dA L) g->j=i:=λj k L g ζ=>by
 apply Classical.byContradiction;intro bx;have bd:i<n:=h.lt (s:=s) (by intro e;rw[e] at Υ;cases Υ);have fe:j<n:=h.lt (s:=s) (by rw[ζ];simp);have Ζ:=g2 (λa=>tok a s) .nil jf bd;have Ε:=fO (upd (λa=>tok a s) i .nil) jf fe;rw[upd_ne _ _ bx] at Ε;have rX:jf .nil=0:=rfl;have mB:jf (tok j s)=1:=by rw[ζ];rfl
 simp only[Υ,rX] at Ζ;simp only[mB] at Ε;have:=(h.bg s o ξ).1.LS;have:=(h.bg s o ξ).1.f1;omega
def rZ (tok:Nat->Nat->Tok) (s:Nat):Nat->List Nat
 | 0=>[]
 | n+1=>match tok n s with
  | .ch k _ _=>k::rZ tok s n
  | _=>rZ tok s n
theorem Ad (tok:Nat->Nat->Tok) (s:Nat):∀n k,k∈rZ tok s n↔∃j m g,j<n/\tok j s=.ch k m g
 | 0,k=>by simp[rZ]
 | n+1,k=>by
  have Α:=Ad tok s n k
  have old:(∃j m g,j<n/\tok j s=.ch k m g)->∃j m g,j<n+1/\tok j s=.ch k m g:=λ⟨j,m,g,U,γ⟩=>⟨j,m,g,J,γ⟩
  have split:(∃j m g,j<n+1/\tok j s=.ch k m g)->(∃j m g,j<n/\tok j s=.ch k m g)\/∃m g,tok n s=.ch k m g:=λ⟨j,m,g,U,γ⟩=>by
   by_cases e:j=n
   ·subst e;exact .inr ⟨m,g,γ⟩
   ·exact .inl ⟨j,m,g,J,γ⟩
  unfold rZ;cases δ:tok n s with
  | nil=>exact Α.trans ⟨old,λh=>(split h).elim id λ⟨m,g,e⟩=>by rw[δ] at e;cases e⟩
  | par=>exact Α.trans ⟨old,λh=>(split h).elim id λ⟨m,g,e⟩=>by rw[δ] at e;cases e⟩
  | ch al ck g'=>
   rw[List.mem_cons,Α];constructor
   ·rintro(rfl|h)
    ·exact⟨n,ck,g',J,δ⟩
    ·exact old h
   ·intro h;rcases split h with h|⟨m,g,e⟩
    ·exact .inr h
    ·rw[δ] at e;cases e;exact .inl rfl
theorem MG (tok:Nat->Nat->Tok) (s:Nat):∀n,(rZ tok s n).length=bh n (λa=>tok a s) mq
 | 0=>rfl
 | n+1=>by
  have Α:=MG tok s n;rw[wh];unfold rZ;cases δ:tok n s<;>simp[mq,Α]
theorem MH (π:∀j bP k m g ck g',tok j s=.ch k m g->tok bP s=.ch k ck g'->j=bP):∀n,(rZ tok s n).Nodup
 | 0=>List.nodup_nil
 | n+1=>by
  have Α:=MH π n;unfold rZ;cases δ:tok n s with
  | nil=>exact Α
  | par=>exact Α
  | ch k m g=>
   refine List.nodup_cons.2 ⟨λh=>?_,Α⟩;obtain⟨j,ck,g',U,γ⟩:=(Ad tok s n k).1 h;have:=π j n k ck g' m g γ δ;omega
theorem e9.full (h:e9 n tok spec view rel O bC home) (ξ:O s=some o) {q:Nat} {aQ:sT} (Υ:tok i s=.par q 0 aQ) (nj:aQ=.nb\/aQ=.w4) :
  o.R.Perm (List.range q)/\(o.a4≠none->o.L.Perm (List.range q))/\∀a k m g,tok a s=.ch k m g->g=.gone:=by
 have bd:i<n:=h.lt (s:=s) (by rw[Υ];simp)
 have he:jh (.par q 0 aQ)=1:=by rcases nj with rfl|rfl<;>rfl
 obtain⟨_,_,s3⟩:=h.fin ξ Υ he;have Θ:=(h.bg s o ξ).2;have cK:bh n (λa=>tok a s) jg=q:=by
  rw[qy (φ:=jg) (λt Υ=>by cases t<;>simp_all [fc,jg]) Θ.oR bd (by rw[Υ];rfl),Υ];rfl
 have cF:bh n (λa=>tok a s) h3=0:=by
  rw[qy (φ:=h3) (λt Υ=>by cases t<;>simp_all [fc,h3]) Θ.oR bd (by rw[Υ];rfl),Υ];rfl
 have kκ:=Θ.LU
 have yd:=h.par i s q 0 aQ Υ;subst yd;have Uq:=MH (tok:=tok) (s:=s) (λj bP k m g ck g' U γ=>h.wu s j bP k m g ck g' U γ) n;have lt:∀k∈rZ tok s n,k<q:=λk ψ=>by
  obtain⟨j,m,g,_,ζ⟩:=(Ad tok s n k).1 ψ;have:=h.uK s j k m g q 0 aQ ζ Υ;omega
 have full:=Up _ q Uq lt (by rw[MG];omega);obtain⟨fq,gm⟩:=h.gL s o ξ;obtain⟨Ur,lm⟩:=h.fZ s o ξ;refine⟨(List.perm_ext_iff_of_nodup fq List.nodup_range).2 λk=>?_,λfQ=>(List.perm_ext_iff_of_nodup Ur List.nodup_range).2 λk=>?_,s3⟩
 ·rw[gm,List.mem_range];constructor
  ·rintro⟨j,m,g,ζ,_⟩;have:=h.uK s j k m g q 0 aQ ζ Υ;omega
  ·intro ψ;obtain⟨j,m,g,_,ζ⟩:=(Ad tok s n k).1 (full k ψ);exact⟨j,m,g,ζ,by rw[s3 j k m g ζ];simp⟩
 ·rw[lm,List.mem_range];constructor
  ·rintro⟨j,m,g,ζ,_⟩;have:=h.uK s j k m g q 0 aQ ζ Υ;omega
  ·intro ψ;obtain⟨j,m,g,_,ζ⟩:=(Ad tok s n k).1 (full k ψ);refine⟨j,m,g,ζ,?_⟩;rcases h.pM j s k m g o ξ ζ (by rw[s3 j k m g ζ];simp) with rfl|⟨_,e⟩
   ·trivial
   ·exact absurd e fQ
end
section
variable {H H':cS->Γ} {aR qH:Nat->Nat->Option (Array Value×TypeId)} {tok eU:Nat->Nat->Tok} {O O':Nat->Option aW} {bC:Nat->Nat} {deaf:Nat->Nat} {N h5:Nat} {t:Trace} {bu w w':World} {i:Nat} {y:MemOp} {b s:Nat} {o:aW}
theorem ofEvents_one {fn:FuncId} {pos:String} {e:Event}:MemOp.ofEvents i fn pos #[e]=#[{g:=i,fn,pos,act:=.ofEvent e}]:=by rw[ofEvents_eq];simp
theorem jB.word (h:jB H aR tok O bC deaf N t) (Μ:y.g=i) (ν:y.act=.mark (.acquire ⟨b,0,none⟩)\/y.act=.mark (.releaseMerge ⟨b,0,none⟩)) (hb:b<N) (dN:nk O O') (hv:∀j b v,qH j b=some v->aR j b=some v)
  (ω:∀k,dE (t++#[y]) (ks eU O' (t++#[y]) k) (H' k)):jB H' qH eU O' bC deaf N (t++#[y]):=by
 have nt:y.act.touch?=none:=by rcases ν with e|e<;>rw[e]<;>rfl
 have old:∀k a,touchAt (t++#[y]) k=some a->touchAt t k=some a/\k<t.size:=λk a ψ=>by
  obtain⟨x,δ,x3⟩:=touch_of ψ;rcases getElem?_append_cases δ with⟨aN,iv⟩|⟨_,gM⟩
  ·exact⟨by rw[touchAt_of iv];exact x3,aN⟩
  ·simp at gM;subst gM;rw[nt] at x3;cases x3
 refine⟨λsaid=>noRace_append (g:=i) (h.race said) (λop Τ=>by simp at Τ;subst Τ;exact Μ) (λk a _ op Τ c ε _=>by simp at Τ;subst Τ;rw[nt] at ε;cases ε),λop Τ=>?_,λop Τ a=>?_,ω,λj c v ε k a ψ=>h.pG j c v (hv j c v ε) k a (old k a ψ).1,λs o' c ξ ε k a ψ fH=>?_,λj=>?_⟩
 ·rcases Array.mem_append.1 Τ with Τ|Τ
  ·exact h.low op Τ
  ·simp at Τ;subst Τ;rcases ν with e|e<;>rw[e]<;>exact hb
 ·rcases Array.mem_append.1 Τ with Τ|Τ
  ·exact h.norel op Τ a
  ·simp at Τ;subst Τ;rcases ν with e|e<;>rw[e]<;>simp
 ·obtain⟨mx,U,γ⟩:=dN.1 s o' ξ;obtain⟨ο,Ι⟩:=old k a ψ;rcases h.cont s mx c U (by rw[γ];exact ε) k a ο fH with x|⟨x,dw⟩
  ·exact .inl x
  ·exact .inr ⟨x,by rw[g?_old Ι];exact dw⟩
 ·rw[Deaf_push,<-h.hears j];rcases ν with e|e<;>simp[deafStep,e]
theorem jB.ye (h:jB H aR tok O bC deaf N t) (k:cS) (nt:y.act.touch?=none) (dN:nk O O') (ei:∀i s,eU i s≠.nil->tok i s≠.nil):dE (t++#[y]) (ks eU O' (t++#[y]) k) (H k):=
 (h.perms k).others (λ_ ψ=>C4 dN.1 ei (G7 _ ψ)) λop Τ a ν=>by simp at Τ;subst Τ;rw[nt] at ν;cases ν
theorem Knows.marked {p:Nat} {op:MemOp} (U:t[p]?=some op) (γ:op.act=.mark (.releaseMerge ⟨b,0,none⟩)) (ο:t.heard p) (eE:∀op∈t,∀a,op.act≠.mark (.release a)) (Ω:y.g=i) (Μ:y.act=.mark (.acquire ⟨b,0,none⟩)) (hd:Deaf t i=0):Knows (t++#[y]) i p:=by
 have ku:(t++#[y])[t.size]?=some y:=η
 have z7:(t++#[y]).heard t.size:=⟨i,by simp[Trace.g?,Ω],by rw[deaf_old (Nat.le_refl _)];exact hd⟩
 have ω:=lt_size_of_getElem? U;refine⟨t.size,y,ku,Ω,.inr (.single (.inr ⟨.marked (a:=⟨b,0,none⟩) ω (.inr ?_) ?_ ?_,(heard_old ω).2 ο,z7⟩))⟩
 ·rw[act?_old ω,act?_of U,γ]
 ·rw[act?_of ku,Μ]
 ·intro al jC fl iN;rw[act?_old fl] at iN;obtain⟨sZ,kv,jj⟩:=Option.map_eq_some_iff.1 iN;exact eE sZ (mem_of_getElem? kv) _ jj
theorem dE.oc {kp:Nat->Prop} {G:Γ} (h:dE t kp G) (nt:y.act.touch?=none) (ψ:∀k,kp k->Knows (t++#[y]) i k):dE (t++#[y]) (Knows (t++#[y]) i) G:=
 h.others ψ λop Τ a ν=>by simp at Τ;subst Τ;rw[nt] at ν;cases ν
theorem Sub.empty (G:Γ):Sub Γ.empty G:=⟨λ_ _ _ _ h=>(by cases h),λ_ _ h=>(by cases h),λ_ _ h=>(by cases h)⟩
theorem Sub.both {A B av:Γ} (h:Sub A av) (k:Sub B av):Sub (join A B) av:=by
 refine⟨λb o v p ε=>?_,λb x μ=>?_,λb x hv=>?_⟩
 ·simp only[join] at ε;cases Ω:A.aS b o with
  | none=>rw[Ω] at ε;exact k.aS b o v p ε
  | some z=>rw[Ω] at ε;cases ε;exact h.aS b o v p Ω
 ·simp only[join] at μ;cases Ω:A.row b with
  | none=>rw[Ω] at μ;exact k.row b x μ
  | some z=>rw[Ω] at μ;cases μ;exact h.row b _ Ω
 ·simp only[join] at hv;cases Ω:A.obj b with
  | none=>rw[Ω] at hv;exact k.obj b x hv
  | some z=>rw[Ω] at hv;cases hv;exact h.obj b _ Ω
theorem Sub.Us {G H:Γ} (di:Fits G w) (Δ:Fits H w) (ap:Apart G H):Sub H (join G H):=by
 refine⟨λb o v p ε=>?_,λb x μ=>?_,λb x hv=>?_⟩
 ·simp only[join];cases Ω:G.aS b o with
  | none=>exact⟨p,ε,id⟩
  | some z=>
   obtain⟨fG,fA⟩:=z;have Ζ:=di.aS b o fG fA Ω;have Ε:=Δ.aS b o v p ε;rw[Ζ] at Ε;cases Ε;refine⟨fA,rfl,λω=>?_⟩;subst ω;exact absurd ⟨_,Ω⟩ (ap.rJ b o ⟨_,ε⟩)
 ·simp only[join];cases Ω:G.row b with
  | none=>exact μ
  | some z=>
   obtain⟨t1,iy⟩:=z;obtain⟨t2,gD⟩:=x;obtain⟨c1,a1,bb⟩:=di.row b t1 iy Ω;obtain⟨c2,bE,c6⟩:=Δ.row b t2 gD μ;rw[a1] at bE;cases bE;rw[<-bb,<-c6]
 ·simp only[join];cases Ω:G.obj b with
  | none=>exact hv
  | some z=>exact absurd ⟨x,hv⟩ (ap.obj b ⟨z,Ω⟩)
theorem Hn (G:Γ):join G Γ.empty=G:=by
 obtain⟨a,b,c⟩:=G;simp only[join,Γ.empty];congr
 ·funext x y;cases a x y<;>rfl
 ·funext x;cases b x<;>rfl
 ·funext x;cases c x<;>rfl
theorem hO.yf (h:hO H aR O bu w) (hv:∀j b v,qH j b=some v->aR j b=some v):hO H qH O bu w:=⟨h.fit,λj b c t hb=>h.ni j b c t (hv j b _ hb),h.gl,h.keep⟩
theorem ji.yf (h:ji H aR O h5) (hv:∀j b v,qH j b=some v->aR j b=some v):ji H qH O h5:=by
 have MI:∀j b,aR j b=none->qH j b=none:=λj b e=>by
  cases δ:qH j b with
  | none=>rfl
  | some v=>rw[hv j b v δ] at e;cases e
 exact⟨h.apart,h.high,h.oT,λj b v hb=>let ⟨a1,bb,cP⟩:=h.fresh j b v (hv j b v hb);⟨a1,bb,λk ψ=>MI k b (cP k ψ)⟩,λs o b ξ hb=>let ⟨a1,bb,cP⟩:=h.lx s o b ξ hb;⟨a1,bb,λk=>MI k b (cP k)⟩,h.lP,h.qE,h.eT⟩
theorem lz {o':aW} (Β:O s=some o) {r:Nat} {q:aW} (h:upd O s (some o') r=some q):(r=s/\q=o')\/(r≠s/\O r=some q):=by
 by_cases e:r=s
 ·subst e;rw[upd_same] at h;cases h;exact .inl ⟨rfl,rfl⟩
 ·rw[upd_ne _ _ e] at h;exact .inr ⟨e,h⟩
theorem Dd {a b:Tok} (Υ:tok i s=a) (ν:∀q p,a≠.par q p .bH) (hb:∀q p,b≠.par q p .bH) (j r q p:Nat):cg tok i s b j r=.par q p .bH↔tok j r=.par q p .bH:=by
 by_cases e:j=i/\r=s
 ·obtain⟨rfl,rfl⟩:=e;rw[fz,Υ];exact⟨λx=>absurd x (hb q p),λx=>absurd x (ν q p)⟩
 ·rw[fj _ e]
theorem Ae {a b:Tok} (Υ:tok i s=a) (ν:a≠.nil) (j r:Nat) (h:cg tok i s b j r≠.nil):tok j r≠.nil:=by
 by_cases e:j=i/\r=s
 ·obtain⟨rfl,rfl⟩:=e;rw[Υ];exact ν
 ·rw[fj _ e] at h;exact h
theorem Af {a b:Tok} (Υ:tok i s=a) (hb:∀k m g,a=.ch k m g->∃k m g,b=.ch k m g) (j r k:Nat) (m:ml) (g:uC) (h:tok j r=.ch k m g):∃k m g,cg tok i s b j r=.ch k m g:=by
 by_cases e:j=i/\r=s
 ·obtain⟨rfl,rfl⟩:=e;rw[fz];exact hb k m g (Υ▸h)
 ·rw[fj _ e];exact⟨k,m,g,h⟩
end
section
variable {P:Program} {Q:Value->Prop} {bu:World} {c c':dn} {gs:Array Goroutine} {w w':World} {t:Trace} {i:Nat} {g g':Goroutine} {es:Array Event}
variable {f:Bool×Goroutine×a7->gK (Bool×Goroutine×a7)}
theorem Inv.De (h:Inv P Q bu c gs w t) (Ω:gs[i]?=some g) (ψ:L6 P (i==0) (mD P Q f) g (c.x i)):iQ P Q bu c gs w t i f:=by
 obtain⟨s,sp,m,k,g',U,γ,ο,Ι,ax,bf,cD,Ho⟩:=ψ;have bd:i<gs.size:=nu Ω;obtain⟨o,Β,ca⟩:=h.bn.rR i s sp U;subst ca;have ei:c.tok i s=.ch k .own .work:=ο;have hd:c.deaf i=0:=Ι;have eE:c.rel i=false:=bf;have ξ:=cD w (h.mem.fit (.inl i));have wG:=h.bn.MF Β ei η;have dF:=h.eT.qF s o m Β γ wG (λj al L g ζ=>by
  have:=h.bn.only Β (i:=i) (by rw[ei];rfl) j al L g ζ;subst this;rw[ei] at ζ;cases ζ)
 have aM:=Ho o.L (c.H (.inr m)) dF (h.hold.apart _ _ η) ⟨(h.bn.fZ s o Β).1,λψ=>(by
  obtain⟨j,ck,ai,Ζ,Ε⟩:=((h.bn.fZ s o Β).2 k).1 ψ;have:=h.bn.wu s j i k ck ai _ _ Ζ ei;subst this;rw[ei] at Ζ;cases Ζ;exact Ε),w,h.mem.fit _,h.mem.fit _⟩
 let dw:a7:={c.x i with G:=join (c.H (.inl i)) (c.H (.inr m)),tok:=upd (c.tok i) s (.ch k (.dA o.L) .work),view:=upd (c.view i) s none}
 let c':dn:={c with H:=bV (bV c.H (.inl i) (join (c.H (.inl i)) (c.H (.inr m)))) (.inr m) Γ.empty,tok:=cg c.tok i s (.ch k (.dA o.L) .work),view:=upd c.view i (upd (c.view i) s none),O:=upd c.O s (some o),T:=upd c.T i (f (i==0,g',dw))}
 have dN:=nk.upd (o':=o) Β rfl
 have bH:=Dd (b:=.ch k (.dA o.L) .work) ei η η
 have nil:=Ae (b:=.ch k (.dA o.L) .work) ei η
 have hm:eN s o.toSpec m:=.inr γ;refine iQ.go (c':=c') Ω ξ ?_ _ rfl;rw[ofEvents_one];have oX:c'.x i=dw:=by
  have:(Sum.inl i:cS)≠.inr m:=η;simp[c',dw,dn.x,upd_same,wF,bW _ _ this]
 refine h.laid (c':=c') Ω (h.mem.two (z8 (h.mem.fit _) (h.mem.fit _)) (wy w) λr q Χ=>?_) ?_ ?_ (h.bn.GR Β ei) ⟨λr q ck Χ dx b3 jk=>?_,λr q Χ b3=>?_⟩
  (h.eB.app bd (λop Τ=>by simp at Τ;subst Τ;rfl) (λδ=>by rw[eE] at δ;cases δ) (λs q p ⟨j,x⟩=>⟨j,(bH j s q p).1 x⟩) (λj s q p x=>(bH j s q p).1 x))
  (h.gm.app h.b5.low (λop Τ b hb=>by simp at Τ;subst Τ;cases hb) (λj b v hv=>.inl ⟨v,hv⟩) (λr q Χ=>?_) (λj r al mu g e=>Af ei (λ_ _ _ _=>⟨_,_,_,rfl⟩) j r al mu g e))
  ⟨g',?_,.inl rfl⟩ (λj ζ=>⟨?_,upd_ne _ _ ζ⟩) (.inr λj r q _ a b=>?_)
 ·rcases lz Β Χ with⟨rfl,rfl⟩|⟨_,cq⟩
  ·exact h.mem.gl _ _ Β
  ·exact h.mem.gl _ _ cq
 ·exact h.hold.two η (Sub.refl _) (Sub.empty _) (Apart.uM _) dN λx δ=>by
   rcases δ with e|e
   ·cases e;exact⟨s,o,Β,hm⟩
   ·cases e
 ·refine h.b5.word (i:=i) rfl (.inl rfl) (h.low Β hm) dN (λ_ _ _ x=>x) λa=>?_;by_cases Ε:a=.inr m
  ·subst Ε;show dE _ _ (bV _ _ _ _);rw[dY];exact dE.empty
  ·show dE _ _ (bV _ _ _ _);rw[bW _ _ Ε];by_cases Ζ:a=.inl i
   ·subst Ζ;rw[dY];exact((h.b5.perms (.inl i)).own (λop Τ=>by simp at Τ;subst Τ;rfl)).join ((h.b5.perms (.inr m)).acquire h.b5.norel Β hm (by rw[ei];simp) rfl rfl (by rw[h.b5.hears];exact hd))
   ·rw[bW _ _ Ζ];exact h.b5.ye a rfl dN nil
 ·rcases lz Β Χ with⟨rfl,rfl⟩|⟨e,cq⟩
  ·exact absurd (fz ..) (jk i k q.L .work)
  ·have bx:(.inr ck:cS)≠.inr m:=λx=>by cases x;exact e (h.hold.lP r s q o m cq Β (.inr dx) hm)
   show q.av q.L (bV (bV c.H _ _) (.inr m) _ (.inr ck));rw[bW _ _ bx,jD];exact h.eT.qF r q ck cq dx (λj q p x=>b3 j q p ((bH j r q p).2 x)) λj k L g x=>jk j k L g (by show cg c.tok i s _ j r=_;rw[fj _ (λy=>e y.2)];exact x)
 ·rcases lz Β Χ with⟨rfl,rfl⟩|⟨e,cq⟩
  ·have bx:(.inr r:cS)≠.inr m:=λx=>by cases x;exact h.hold.qE _ q m Β γ rfl
   show my q.D q.R (bV (bV c.H _ _) (.inr m) _ (.inr r));rw[bW _ _ bx,jD];exact h.eT.nn r q Β (λj q p x=>b3 j q p ((bH j r q p).2 x))
  ·have bx:(.inr r:cS)≠.inr m:=λx=>by cases x;exact e (h.hold.lP m s q o m cq Β (.inl rfl) hm)
   show my q.D q.R (bV (bV c.H _ _) (.inr m) _ (.inr r));rw[bW _ _ bx,jD];exact h.eT.nn r q cq (λj q p x=>b3 j q p ((bH j r q p).2 x))
 ·rcases lz Β Χ with⟨rfl,rfl⟩|⟨_,cq⟩
  ·exact⟨_,Β,rfl⟩
  ·exact⟨q,cq,rfl⟩
 ·rw[oX];show kr P Q (upd c.T i (f (i==0,g',dw)) i) _ _ _;rw[upd_same];exact aM
 ·have iy:(Sum.inl j:cS)≠.inr m:=by simp
  have gD:(Sum.inl j:cS)≠.inl i:=λe=>ζ (by cases e;rfl);simp[c',dn.x,upd_ne _ _ ζ,s4 _ ζ,bW _ _ iy,bW _ _ gD]
 ·exact⟨q,by show upd c.O s (some o) r=some q;rw[Da Β];exact a,b⟩
theorem Inv.Hp (h:Inv P Q bu c gs w t) (Ω:gs[i]?=some g) (ψ:L7 P (i==0) (mD P Q f) g (c.x i)):iQ P Q bu c gs w t i f:=by
 obtain⟨s,sp,m,k,L,g',G',E,U,γ,ο,Ι,ax,bf,cD,nv,cV,aM⟩:=ψ;have bd:i<gs.size:=nu Ω;obtain⟨o,Β,ca⟩:=h.bn.rR i s sp U;subst ca;have ei:c.tok i s=.ch k (.dA L) .work:=ο;have hd:c.deaf i=0:=Ι;have eE:c.rel i=false:=bf;have ξ:=cD w (h.mem.fit (.inl i));have ad:o.L=L:=h.bn.dA i s k L .work o Β ei;let o':aW:={o with L:=o.L++[k]};let dw:a7:={c.x i with G:=G',tok:=upd (c.tok i) s (.ch k .fin .work),view:=upd (c.view i) s none};let c':dn:={c with H:=bV (bV c.H (.inl i) G') (.inr m) E,tok:=cg c.tok i s (.ch k .fin .work),view:=upd c.view i (upd (c.view i) s none),O:=upd c.O s (some o'),T:=upd c.T i (f (i==0,g',dw))};have dN:nk c.O (upd c.O s (some o')):=nk.upd Β rfl;have bH:=Dd (b:=.ch k .fin .work) ei η η;have nil:=Ae (b:=.ch k .fin .work) ei η;have hm:eN s o.toSpec m:=.inr γ;refine iQ.go (c':=c') Ω ξ ?_ _ rfl;rw[ofEvents_one];have oX:c'.x i=dw:=by
  have:(Sum.inl i:cS)≠.inr m:=η;simp[c',dw,dn.x,upd_same,wF,bW _ _ this]
 refine h.laid (c':=c') Ω (h.mem.two (nv.l.fits (h.mem.fit (.inl i))) (nv.r.fits (h.mem.fit (.inl i))) λr q Χ=>?_) ?_ ?_ (h.bn.T1 Β ei) ⟨λr q ck Χ dx b3 jk=>?_,λr q Χ b3=>?_⟩
  (h.eB.app bd (λop Τ=>by simp at Τ;subst Τ;rfl) (λδ=>by rw[eE] at δ;cases δ) (λs q p ⟨j,x⟩=>⟨j,(bH j s q p).1 x⟩) (λj s q p x=>(bH j s q p).1 x))
  ⟨λr q ck Χ dx p op ω ν=>?_,λj b v hv op Τ ν=>?_⟩
  ⟨g',?_,.inl rfl⟩ (λj ζ=>⟨?_,upd_ne _ _ ζ⟩) (.inr λj r q _ a b=>?_)
 ·rcases lz Β Χ with⟨rfl,rfl⟩|⟨_,cq⟩
  ·exact(h.mem.gl r o Β:At r o w)
  ·exact h.mem.gl _ _ cq
 ·exact h.hold.two η nv.l.rS nv.r.rS nv.apart dN λx δ=>by
   rcases δ with e|e
   ·cases e;exact⟨s,o,Β,hm⟩
   ·cases e
 ·refine h.b5.word (i:=i) rfl (.inr rfl) (h.low Β hm) dN (λ_ _ _ x=>x) λa=>?_;by_cases Ε:a=.inr m
  ·subst Ε;show dE _ _ (bV _ _ _ _);rw[dY];exact((dE.release (h.b5.perms (.inl i)) rfl rfl (by rw[h.b5.hears];exact hd)).sub nv.r).mono λ_ x=>C4 dN.1 nil x
  ·show dE _ _ (bV _ _ _ _);rw[bW _ _ Ε];by_cases Ζ:a=.inl i
   ·subst Ζ;rw[dY];exact((h.b5.perms (.inl i)).own (λop Τ=>by simp at Τ;subst Τ;rfl)).sub nv.l
   ·rw[bW _ _ Ζ];exact h.b5.ye a rfl dN nil
 ·rcases lz Β Χ with⟨rfl,rfl⟩|⟨e,cq⟩
  ·have e:ck=m:=by have:o.a4=some ck:=dx;rw[γ] at this;cases this;rfl
   subst e;show o.av (o.L++[k]) (bV (bV c.H _ _) (.inr ck) _ (.inr ck));rw[dY,ad];exact cV
  ·have bx:(.inr ck:cS)≠.inr m:=λx=>by cases x;exact e (h.hold.lP r s q o m cq Β (.inr dx) hm)
   show q.av q.L (bV (bV c.H _ _) (.inr m) _ (.inr ck));rw[bW _ _ bx,jD];exact h.eT.qF r q ck cq dx (λj q p x=>b3 j q p ((bH j r q p).2 x)) λj k L g x=>jk j k L g (by show cg c.tok i s _ j r=_;rw[fj _ (λy=>e y.2)];exact x)
 ·rcases lz Β Χ with⟨rfl,rfl⟩|⟨e,cq⟩
  ·have bx:(.inr r:cS)≠.inr m:=λx=>by cases x;exact h.hold.qE _ o m Β γ rfl
   show my o.D o.R (bV (bV c.H _ _) (.inr m) _ (.inr r));rw[bW _ _ bx,jD];exact h.eT.nn r o Β (λj q p x=>b3 j q p ((bH j r q p).2 x))
  ·have bx:(.inr r:cS)≠.inr m:=λx=>by cases x;exact e (h.hold.lP m s q o m cq Β (.inl rfl) hm)
   show my q.D q.R (bV (bV c.H _ _) (.inr m) _ (.inr r));rw[bW _ _ bx,jD];exact h.eT.nn r q cq (λj q p x=>b3 j q p ((bH j r q p).2 x))
 ·rcases getElem?_append_cases ω with⟨_,iP⟩|⟨_,gM⟩
  ·have Ag:∀iz,c.O r=some iz->iz.a4=some ck->(∃al mu g,cg c.tok i s (.ch k .fin .work) op.g r=.ch al mu g)/\(c.rel op.g=true->Before (t++#[{g:=i,fn:=g.frame.fn,pos:=g.frame.place,act:=MemAct.ofEvent (Go.ConcR.mk (Mark.releaseMerge {block:=m,off:=0}))}]) p (c.dP op.g)):=λiz Ζ Ε=>by
    obtain⟨⟨al,mu,g,ο⟩,Ι⟩:=h.gm.iM r iz ck Ζ Ε p op iP ν;exact⟨Af ei (λ_ _ _ _=>⟨_,_,_,rfl⟩) _ _ _ _ _ ο,λμ=>(Ι μ).app _⟩
   rcases lz Β Χ with⟨rfl,rfl⟩|⟨_,cq⟩
   ·exact Ag o Β dx
   ·exact Ag q cq dx
  ·simp at gM;subst gM;cases ν;have:r=s:=by
    rcases lz Β Χ with⟨rfl,rfl⟩|⟨_,cq⟩
    ·rfl
    ·exact h.hold.lP r s q o m cq Β (.inr dx) hm
   subst this;exact⟨⟨k,.fin,.work,fz ..⟩,λμ=>by
    have:c.rel i=true:=μ;rw[eE] at this;cases this⟩
 ·rcases Array.mem_append.1 Τ with Τ|Τ
  ·exact h.gm.wC j b v hv op Τ ν
  ·simp at Τ;subst Τ;cases ν;have:=(h.hold.lx s o m Β hm).2.2 j;have mC:c.aR j m=some v:=hv;rw[this] at mC;cases mC
 ·rw[oX];show kr P Q (upd c.T i (f (i==0,g',dw)) i) _ _ _;rw[upd_same];exact aM
 ·have iy:(Sum.inl j:cS)≠.inr m:=by simp
  have gD:(Sum.inl j:cS)≠.inl i:=λe=>ζ (by cases e;rfl);simp[c',dn.x,upd_ne _ _ ζ,s4 _ ζ,bW _ _ iy,bW _ _ gD]
 ·by_cases e:r=s
  ·subst e;rw[Β] at a;cases a;exact⟨o',upd_same ..,b⟩
  ·exact⟨q,by show upd c.O s (some o') r=some q;rw[upd_ne _ _ e];exact a,b⟩
end
section
variable {P:Program} {Q:Value->Prop} {bu:World} {c c':dn} {gs:Array Goroutine} {w w':World} {t:Trace} {i:Nat} {g g':Goroutine} {es:Array Event}
variable {f:Bool×Goroutine×a7->gK (Bool×Goroutine×a7)}
theorem Inv.parent (h:Inv P Q bu c gs w t) {s:Nat} {o:aW} (Β:c.O s=some o):c.bC s<gs.size/\∃q p aQ,c.tok (c.bC s) s=.par q p aQ:=by
 obtain⟨i0,lS,ω⟩:=CS (φ:=fc) (N:=gs.size) (τ:=λa=>c.tok a s) (by rw[(h.bn.bg s o Β).2.oR];exact Nat.one_pos);have Aa:∃q p aQ,c.tok i0 s=.par q p aQ:=by
  cases δ:c.tok i0 s with
  | par q p aQ=>exact⟨q,p,aQ,rfl⟩
  | nil=>simp[δ,fc] at ω
  | ch=>simp[δ,fc] at ω
 obtain⟨q,p,aQ,δ⟩:=Aa;have cu:=h.bn.par i0 _ q p aQ δ;subst cu;exact⟨lS,q,p,aQ,δ⟩
theorem Inv.Hq (h:Inv P Q bu c gs w t) (Ω:gs[i]?=some g) (ψ:L8 P (i==0) (mD P Q f) g (c.x i)):iQ P Q bu c gs w t i f:=by
 obtain⟨s,sp,k,mu,g',E,U,ο,uL,Ut,Ι,ax,bf,cD,kZ,eH,aM⟩:=ψ;have bd:i<gs.size:=nu Ω;obtain⟨o,Β,ca⟩:=h.bn.rR i s sp U;subst ca;have ei:c.tok i s=.ch k mu .work:=ο;have hd:c.deaf i=0:=Ι;have eE:c.rel i=false:=bf;have MJ:∀bs,bs≠s->gB (c.tok i bs):=Ut;have ξ:=cD w (h.mem.fit (.inl i));obtain⟨lS,s0,aN⟩:=h.bn.pK i s k mu .work ei;have wG:=h.bn.MF Β ei η;let y:MemOp:={g:=i,fn:=g.frame.fn,pos:=g.frame.place,act:=MemAct.ofEvent (Go.ConcR.mk (Mark.releaseMerge ⟨s,0,none⟩))};have Hr:y.act=.mark (.releaseMerge ⟨s,0,none⟩):=rfl;have ku:(t++#[y])[t.size]?=some y:=η;have Uu:(t++#[y]).heard t.size:=⟨i,by simp[Trace.g?,y],by rw[deaf_old (Nat.le_refl _)];exact(h.b5.hears i).trans hd⟩;let o':aW:={o with R:=k::o.R};let dw:a7:={c.x i with G:=Γ.empty,aR:=λ_=>none,tok:=upd (c.tok i) s (.ch k mu .rel),view:=upd (c.view i) s none,rel:=true};let c':dn:={c with H:=bV (bV c.H (.inl i) Γ.empty) (.inr s) (join E (c.H (.inr s))),aR:=upd c.aR i λ_=>none,tok:=cg c.tok i s (.ch k mu .rel),view:=upd c.view i (upd (c.view i) s none),O:=upd c.O s (some o'),rel:=upd c.rel i true,dP:=upd c.dP i t.size,T:=upd c.T i (f (i==0,g',dw))};have dN:nk c.O (upd c.O s (some o')):=nk.upd Β rfl;have bH:=Dd (b:=.ch k mu .rel) ei η η;have nil:=Ae (b:=.ch k mu .rel) ei η;have gF:eN s o.toSpec s:=.inl rfl;have gn:∀j b v,upd c.aR i (λ_=>none) j b=some v->c.aR j b=some v:=λj b v hv=>by
  by_cases e:j=i
  ·subst e;rw[upd_same] at hv;cases hv
  ·rw[upd_ne _ _ e] at hv;exact hv
 have iR:=h.hold.apart (.inl i) (.inr s) η
 have hSub:Sub (join E (c.H (.inr s))) (join (c.H (.inl i)) (c.H (.inr s))):=Sub.both (Sub.rS kZ) (Sub.Us (h.mem.fit _) (h.mem.fit _) iR)
 have MK:∀j r al L g,c.tok j r=.ch al (.dA L) g->cg c.tok i s (.ch k mu .rel) j r=.ch al (.dA L) g:=λj r al L g ζ=>by
  rw[fj _ (λe=>?_)]
  ·exact ζ
  ·obtain⟨rfl,rfl⟩:=e;rw[ei] at ζ;rcases uL with rfl|⟨rfl,_⟩<;>cases ζ
 have sY:∀j,j≠i->∀r,cg c.tok i s (.ch k mu .rel) j r=c.tok j r:=λj ζ r=>fj _ λe=>ζ e.1;refine iQ.go (c':=c') Ω ξ ?_ _ rfl;rw[ofEvents_one];have oX:c'.x i=dw:=by
  have:(Sum.inl i:cS)≠.inr s:=η;simp[c',dw,dn.x,upd_same,wF,bW _ _ this]
 have Uv:wB gs.size c'.tok c'.rel c'.bC c'.home c'.dP (t++#[y]):=by
  refine⟨λal g' h7=>?_,λj ga ζ=>?_,λj ga ζ b3=>?_,λj ga ζ r4 bX=>?_⟩
  ·obtain⟨op,Τ,h6⟩:=Option.map_eq_some_iff.1 h7;rcases getElem?_append_cases Τ with⟨_,lT⟩|⟨_,gM⟩
   ·exact h.eB.ed al g' (by simp[Trace.g?,lT,h6])
   ·simp at gM;subst gM;rw[<-h6];exact bd
  ·by_cases e:j=i
   ·subst e;have Ζ:c'.dP j=t.size:=upd_same ..;rw[Ζ];refine⟨y,ku,rfl,by rw[Hr];show _=MemAct.mark (.releaseMerge ⟨c.home j,0,none⟩);rw[s0],Uu,λal h7 ε=>?_⟩;obtain⟨op,Τ,h6⟩:=Option.map_eq_some_iff.1 h7;rcases getElem?_append_cases Τ with⟨r5,lT⟩|⟨hle,gM⟩
    ·exact .inr (hb_po r5 Τ ku h6)
    ·exact absurd ε (yc (u:=#[y]) (λop Τ=>by simp at Τ;subst Τ;rfl) al hle)
   ·have aI:c.rel j=true:=by have:upd c.rel i true j=true:=ζ;rwa [upd_ne _ _ e] at this
    have Ζ:c'.dP j=c.dP j:=upd_ne _ _ e;rw[Ζ];obtain⟨op,a1,bb,cP,gJ,ix⟩:=h.eB.c1 j ga aI;have ω:=lt_size_of_getElem? a1;refine⟨op,by rw[getElem?_append_old ω];exact a1,bb,cP,(heard_old ω).2 gJ,λal h7 ε=>?_⟩;obtain⟨sZ,Τ,h6⟩:=Option.map_eq_some_iff.1 h7;rcases getElem?_append_cases Τ with⟨r5,lT⟩|⟨hle,gM⟩
    ·exact(ix al (by simp[Trace.g?,lT,h6]) ((z' r5).1 ε)).app _
    ·exact absurd ε (yc (u:=#[y]) (λop Τ=>by simp at Τ;subst Τ;rfl) al hle)
  ·obtain⟨q,p,Χ⟩:=b3;have cq:c.tok (c.bC (c.home j)) (c.home j)=.par q p .bH:=(bH _ _ q p).1 Χ;by_cases e:j=i
   ·subst e;rw[s0] at cq;exact absurd cq (wG _ q p)
   ·have aI:c.rel j=true:=by have:upd c.rel i true j=true:=ζ;rwa [upd_ne _ _ e] at this
    have Ζ:c'.dP j=c.dP j:=upd_ne _ _ e;rw[Ζ];exact(h.eB.c2 j ga aI ⟨q,p,cq⟩).app _
  ·by_cases e:j=i
   ·subst e;exfalso;have Uw:c.bC s≠0:=by rw[<-s0];exact r4
    have bx:c.bC s≠j:=J
    have Ah:c.rel (c.bC s)=true:=by
     have:upd c.rel j true (c.bC (c.home j))=true:=bX;rw[s0,upd_ne _ _ bx] at this;exact this
    obtain⟨_,q,p,aQ,s6⟩:=h.parent Β;have c0:gB (c.tok (c.bC s) s):=by
     by_cases Ε:s=c.home (c.bC s)
     ·obtain⟨bT,dG,ai,fl⟩:=h.bn.sX (c.bC s) Uw J;rw[<-Ε,s6] at fl;cases fl
     ·exact h.bn.pL _ s Ah Ε
    rw[s6] at c0;cases aQ<;>first|exact c0.elim|exact wG _ _ _ s6
   ·have aI:c.rel j=true:=by have:upd c.rel i true j=true:=ζ;rwa [upd_ne _ _ e] at this
    have Ζ:c'.dP j=c.dP j:=upd_ne _ _ e;rw[Ζ];by_cases Ε:c.bC (c.home j)=i
    ·have a8:c'.dP (c.bC (c.home j))=t.size:=by rw[Ε];exact upd_same ..
     show Before _ _ (c'.dP (c.bC (c.home j)));rw[a8];obtain⟨op,a1,_⟩:=h.eB.c1 j ga aI;have fe:j<gs.size:=by
      obtain⟨op,a1,bb,_⟩:=h.eB.c1 j ga aI;exact h.eB.ed (c.dP j) j (by simp[Trace.g?,a1,bb])
     obtain⟨bT,dG,ai,fl⟩:=h.bn.sX j ga fe;obtain⟨iO,wH⟩:=h.obj (i:=j) (s:=c.home j) (by rw[fl];simp);obtain⟨_,q,p,aQ,s6⟩:=h.parent wH;rw[Ε] at s6;have bx:c.home j≠s:=λcR=>by rw[cR,ei] at s6;cases s6
     have c0:=MJ _ bx;rw[s6] at c0;have nj:aQ=.bH:=by cases aQ<;>first|exact c0.elim|rfl
     subst nj;have r6:=h.eB.c2 j ga aI ⟨q,p,by rw[Ε];exact s6⟩;rw[Ε] at r6;exact .inr (r6.hb_new (u:=#[y]) (Nat.le_refl _) ku rfl)
    ·have a8:c'.dP (c.bC (c.home j))=c.dP (c.bC (c.home j)):=upd_ne _ _ Ε
     show Before _ _ (c'.dP (c.bC (c.home j)));rw[a8];refine(h.eB.c3 j ga aI r4 ?_).app _;have:upd c.rel i true (c.bC (c.home j))=true:=bX
     rwa [upd_ne _ _ Ε] at this
 refine h.laid (c':=c') Ω ((h.mem.two (wy w) (z8 (kZ.fits (h.mem.fit (.inl i))) (h.mem.fit _)) λr q Χ=>?_).yf gn) ((h.hold.two η (Sub.empty _) hSub (Apart.uM _).symm dN λx δ=>?_).yf gn) ?_ (h.bn.T2 Β ei uL MJ) ⟨λr q ck Χ dx b3 jk=>?_,λr q Χ b3=>?_⟩
  Uv ⟨λr q ck Χ dx p op ω ν=>?_,λj b v hv op Τ ν=>?_⟩
  ⟨g',?_,.inl rfl⟩ (λj ζ=>⟨?_,upd_ne _ _ ζ⟩) (.inr λj r q _ a b=>?_)
 ·rcases lz Β Χ with⟨rfl,rfl⟩|⟨_,cq⟩
  ·exact(h.mem.gl r o Β:At r o w)
  ·exact h.mem.gl _ _ cq
 ·rcases δ with e|e
  ·cases e;exact⟨s,o,Β,gF⟩
  ·cases e
 ·refine h.b5.word (i:=i) rfl (.inr rfl) (h.low Β gF) dN gn λa=>?_;by_cases Ε:a=.inr s
  ·subst Ε;show dE _ _ (bV _ _ _ _);rw[dY];exact(((dE.release (h.b5.perms (.inl i)) rfl rfl (by rw[h.b5.hears];exact hd)).sub kZ).mono λ_ x=>C4 dN.1 nil x).join (h.b5.ye (.inr s) rfl dN nil)
  ·show dE _ _ (bV _ _ _ _);rw[bW _ _ Ε];by_cases Ζ:a=.inl i
   ·subst Ζ;rw[dY];exact dE.empty
   ·rw[bW _ _ Ζ];exact h.b5.ye a rfl dN nil
 ·rcases lz Β Χ with⟨rfl,rfl⟩|⟨e,cq⟩
  ·have bx:(.inr ck:cS)≠.inr r:=λx=>by cases x;exact h.hold.qE _ o _ Β dx rfl
   show o.av o.L (bV (bV c.H _ _) (.inr r) _ (.inr ck));rw[bW _ _ bx,jD];exact h.eT.qF r o ck Β dx (λj q p x=>b3 j q p ((bH j r q p).2 x)) λj k L g x=>jk j k L g (MK _ _ _ _ _ x)
  ·have bx:(.inr ck:cS)≠.inr s:=λx=>e (h.hold.lP r s q o ck cq Β (.inr dx) (by cases x;exact gF))
   show q.av q.L (bV (bV c.H _ _) (.inr s) _ (.inr ck));rw[bW _ _ bx,jD];exact h.eT.qF r q ck cq dx (λj q p x=>b3 j q p ((bH j r q p).2 x)) λj k L g x=>jk j k L g (MK _ _ _ _ _ x)
 ·rcases lz Β Χ with⟨rfl,rfl⟩|⟨e,cq⟩
  ·show my o.D (k::o.R) (bV (bV c.H _ _) (.inr r) _ (.inr r));rw[dY];exact⟨E,c.H (.inr r),eH,h.eT.nn r o Β (λj q p x=>b3 j q p ((bH j r q p).2 x)),iR.sub kZ (Sub.refl _),rfl⟩
  ·have bx:(.inr r:cS)≠.inr s:=λx=>by cases x;exact e rfl
   show my q.D q.R (bV (bV c.H _ _) (.inr s) _ (.inr r));rw[bW _ _ bx,jD];exact h.eT.nn r q cq (λj q p x=>b3 j q p ((bH j r q p).2 x))
 ·rcases getElem?_append_cases ω with⟨r5,iP⟩|⟨_,gM⟩
  ·have Ag:∀iz,c.O r=some iz->iz.a4=some ck->(∃al Hs g,cg c.tok i s (.ch k mu .rel) op.g r=.ch al Hs g)/\(c'.rel op.g=true->Before (t++#[y]) p (c'.dP op.g)):=λiz Ζ Ε=>by
    obtain⟨⟨al,Hs,g,ο⟩,Ι⟩:=h.gm.iM r iz ck Ζ Ε p op iP ν;refine⟨Af ei (λ_ _ _ _=>⟨_,_,_,rfl⟩) _ _ _ _ _ ο,λμ=>?_⟩;by_cases e:op.g=i
    ·have Ζ:c'.dP op.g=t.size:=by rw[e];exact upd_same ..
     rw[Ζ];exact .inr (hb_po r5 ω ku e)
    ·have Ζ:c'.dP op.g=c.dP op.g:=upd_ne _ _ e
     have Ε:c.rel op.g=true:=by have:upd c.rel i true op.g=true:=μ;rwa [upd_ne _ _ e] at this
     rw[Ζ];exact(Ι Ε).app _
   rcases lz Β Χ with⟨rfl,rfl⟩|⟨_,cq⟩
   ·exact Ag o Β dx
   ·exact Ag q cq dx
  ·simp at gM;subst gM;cases ν;exfalso;rcases lz Β Χ with⟨rfl,rfl⟩|⟨e,cq⟩
   ·exact h.hold.qE _ o _ Β dx rfl
   ·exact e (h.hold.lP r s q o s cq Β (.inr dx) gF)
 ·have mC:=gn j b v hv;rcases Array.mem_append.1 Τ with Τ|Τ
  ·exact h.gm.wC j b v mC op Τ ν
  ·simp at Τ;subst Τ;cases ν;have:=(h.hold.lx s o s Β gF).2.2 j;rw[this] at mC;cases mC
 ·rw[oX];show kr P Q (upd c.T i (f (i==0,g',dw)) i) _ _ _;rw[upd_same];exact aM
 ·have iy:(Sum.inl j:cS)≠.inr s:=by simp
  have gD:(Sum.inl j:cS)≠.inl i:=λe=>ζ (by cases e;rfl);simp[c',dn.x,upd_ne _ _ ζ,s4 _ ζ,bW _ _ iy,bW _ _ gD]
 ·by_cases e:r=s
  ·subst e;rw[Β] at a;cases a;exact⟨o',upd_same ..,b⟩
  ·exact⟨q,by show upd c.O s (some o') r=some q;rw[upd_ne _ _ e];exact a,b⟩
theorem Inv.Df (h:Inv P Q bu c gs w t) (Ω:gs[i]?=some g) (ψ:L9 P (i==0) (mD P Q f) g (c.x i)):iQ P Q bu c gs w t i f:=by
 obtain⟨s,sp,n,aQ,g',U,ο,nj,Ι,ax,bf,cD,Ho⟩:=ψ;have bd:i<gs.size:=nu Ω;obtain⟨o,Β,ca⟩:=h.bn.rR i s sp U;subst ca;have ei:c.tok i s=.par n 0 aQ:=ο;have hd:c.deaf i=0:=Ι;have eE:c.rel i=false:=bf;have ξ:=cD w (h.mem.fit (.inl i));have r4:=h.bn.par i s n 0 aQ ei;obtain⟨ML,ky,s3⟩:=h.bn.full Β ei nj;have gF:eN s o.toSpec s:=.inl rfl;have wG:∀j q p,c.tok j s≠.par q p .bH:=λj q p ζ=>by
  have e:=h.bn.par j s q p .bH ζ;rw[<-r4] at e;subst e;rw[ei] at ζ;rcases nj with rfl|rfl<;>cases ζ
 let y:MemOp:={g:=i,fn:=g.frame.fn,pos:=g.frame.place,act:=MemAct.ofEvent (Go.ConcR.mk (Mark.acquire ⟨s,0,none⟩))}
 have Hr:y.act=.mark (.acquire ⟨s,0,none⟩):=rfl
 have wI:Deaf t i=0:=by rw[h.b5.hears];exact hd
 have dN:nk c.O (upd c.O s (some o)):=nk.upd Β rfl
 have nil:=Ae (b:=.par n 0 .bH) ei η
 have MM:∀j,(∃k m g,c.tok j s=.ch k m g)->j≠0/\c.home j=s/\c.rel j=true/\Knows (t++#[y]) i (c.dP j):=λj ⟨k,m,g,ζ⟩=>by
  obtain⟨a1,bb,_⟩:=h.bn.pK j s k m g ζ;have cP:c.rel j=true:=(h.bn.eO j k m g a1 (by rw[bb];exact ζ)).2 (by rw[s3 j k m g ζ];simp);obtain⟨op,bE,c6,fX,nq,_⟩:=h.eB.c1 j a1 cP;rw[bb] at fX;exact⟨a1,bb,cP,Knows.marked bE fX nq h.b5.norel rfl Hr wI⟩
 have Ux:=h.eT.nn s o Β wG;obtain⟨bN,e0,Uy,Uz,UA,UB,UC,kz,jX,Ht,lU,Hu,Hv,Hw⟩:∃(bN:cS->Γ) (e0:Γ),Fits e0 w/\(o.a4≠none->o.av o.L e0)/\(o.a4=none->e0=Γ.empty)/\Apart (c.H (.inl i)) e0/\Apart (c.H (.inr s)) e0/\
   bN (.inl i)=join (join (c.H (.inl i)) (c.H (.inr s))) e0/\(∀j,j≠i->bN (.inl j)=c.H (.inl j))/\(∀m,o.a4=some m->bN (.inr m)=Γ.empty)/\(∀b,b≠s->o.a4≠some b->bN (.inr b)=c.H (.inr b))/\
   ji bN c.aR (upd c.O s (some o)) bu.heap.size/\hO bN c.aR (upd c.O s (some o)) bu w/\∀a,dE (t++#[y]) (ks (cg c.tok i s (.par n 0 .bH)) (upd c.O s (some o)) (t++#[y]) a) (bN a):=by
  have np:∀r q,upd c.O s (some o) r=some q->At r q w:=λr q Χ=>by
   rcases lz Β Χ with⟨rfl,rfl⟩|⟨_,cq⟩
   ·exact h.mem.gl _ _ Β
   ·exact h.mem.gl _ _ cq
  have yg:dE (t++#[y]) (Knows (t++#[y]) i) (join (c.H (.inl i)) (c.H (.inr s))):=
   ((h.b5.perms (.inl i)).own (λop Τ=>by simp at Τ;subst Τ;rfl)).join ((h.b5.perms (.inr s)).acquire h.b5.norel Β gF (by rw[ei];simp) rfl rfl wI)
  have MN:ji (bV (bV c.H (.inl i) (join (c.H (.inl i)) (c.H (.inr s)))) (.inr s) Γ.empty) c.aR (upd c.O s (some o)) bu.heap.size:=
   h.hold.two η (Sub.refl _) (Sub.empty _) (Apart.uM _) dN λx δ=>by
    rcases δ with e|e
    ·cases e;exact⟨s,o,Β,gF⟩
    ·cases e
  have MO:hO (bV (bV c.H (.inl i) (join (c.H (.inl i)) (c.H (.inr s)))) (.inr s) Γ.empty) c.aR (upd c.O s (some o)) bu w:=h.mem.two (z8 (h.mem.fit _) (h.mem.fit _)) (wy w) np
  have qI:(Sum.inl i:cS)≠.inr s:=η;cases fQ:o.a4 with
  | none=>
   refine⟨bV (bV c.H (.inl i) (join (c.H (.inl i)) (c.H (.inr s)))) (.inr s) Γ.empty,Γ.empty,wy w,λx=>absurd rfl x,λ_=>rfl,Apart.uM _,Apart.uM _,?_,λj ζ=>?_,λm hm=>(by cases hm),λb hb _=>?_,MN,MO,λa=>?_⟩
   ·rw[bW _ _ qI,dY,Hn]
   ·have gD:(Sum.inl j:cS)≠.inl i:=λe=>ζ (by cases e;rfl);rw[bW _ _ η,bW _ _ gD]
   ·have gD:(Sum.inr b:cS)≠.inr s:=λe=>hb (by cases e;rfl);rw[bW _ _ gD,jD]
   ·by_cases Ε:a=.inr s
    ·subst Ε;rw[dY];exact dE.empty
    ·rw[bW _ _ Ε];by_cases Ζ:a=.inl i
     ·subst Ζ;rw[dY];exact yg
     ·rw[bW _ _ Ζ];exact h.b5.ye a rfl dN nil
  | some m=>
   have hm:eN s o.toSpec m:=.inr fQ
   have s7:m≠s:=h.hold.qE s o m Β fQ
   have qJ:(Sum.inr m:cS)≠.inr s:=λe=>s7 (by cases e;rfl)
   have MP:(Sum.inl i:cS)≠.inr m:=η
   have UD:∀j k L g,c.tok j s≠.ch k (.dA L) g:=λj k L g ζ=>by
    rcases h.bn.pM j s k _ g o Β ζ (by rw[s3 j k _ g ζ];simp) with e|⟨e,_⟩<;>cases e
   have UE:=h.eT.qF s o m Β fQ wG UD
   have UF:Apart (c.H (.inr s)) (c.H (.inr m)):=h.hold.apart _ _ (Ne.symm qJ)
   have UG:Apart (c.H (.inl i)) (c.H (.inr m)):=h.hold.apart _ _ MP
   have e2:bV (bV c.H (.inl i) (join (c.H (.inl i)) (c.H (.inr s)))) (.inr s) Γ.empty (.inl i)=join (c.H (.inl i)) (c.H (.inr s)):=by rw[bW _ _ qI,dY]
   have dq:bV (bV c.H (.inl i) (join (c.H (.inl i)) (c.H (.inr s)))) (.inr s) Γ.empty (.inr m)=c.H (.inr m):=by rw[bW _ _ qJ,jD]
   have UH:=MN.two (a:=.inl i) (b:=.inr m) (A:=join (join (c.H (.inl i)) (c.H (.inr s))) (c.H (.inr m))) (B:=Γ.empty) (O':=upd c.O s (some o)) η (by rw[e2,dq];exact Sub.refl _) (Sub.empty _) (Apart.uM _) ⟨λs o' ξ=>⟨o',ξ,rfl⟩,λs o' ξ=>⟨o',ξ,rfl⟩⟩ λx δ=>by
    rcases δ with e|e
    ·cases e;exact⟨s,o,upd_same ..,hm⟩
    ·cases e
   have UI:=MO.two (a:=.inl i) (b:=.inr m) (A:=join (join (c.H (.inl i)) (c.H (.inr s))) (c.H (.inr m))) (B:=Γ.empty) (O':=upd c.O s (some o)) (z8 (z8 (h.mem.fit _) (h.mem.fit _)) (h.mem.fit _)) (wy w) np;refine⟨_,c.H (.inr m),h.mem.fit _,λ_=>UE,λx=>(by cases x),UG,UF,?_,λj ζ=>?_,λck dx=>?_,λb hb ec=>?_,UH,UI,λa=>?_⟩
   ·rw[bW _ _ MP,dY]
   ·have gD:(Sum.inl j:cS)≠.inl i:=λe=>ζ (by cases e;rfl);rw[bW _ _ η,bW _ _ gD,bW _ _ η,bW _ _ gD]
   ·cases dx;rw[dY]
   ·have gD:(Sum.inr b:cS)≠.inr s:=λe=>hb (by cases e;rfl)
    have Dg:(Sum.inr b:cS)≠.inr m:=λe=>ec (by cases e;rfl);rw[bW _ _ Dg,jD,bW _ _ gD,jD]
   ·by_cases a8:a=.inr m
    ·subst a8;rw[dY];exact dE.empty
    ·rw[bW _ _ a8];by_cases Ζ:a=.inl i
     ·subst Ζ;rw[dY];refine yg.join ((h.b5.perms (.inr m)).oc rfl λk ψ=>?_);rcases ψ with⟨p,op,a1,bb,cP,gJ⟩|ψ
      ·obtain⟨lR,c6⟩:=h.gm.iM s o m Β fQ p op a1 bb;obtain⟨_,_,c3,c4⟩:=MM op.g lR;have hb:=(c6 c3).app #[y];refine Knows.of_before ?_ c4;rcases hb with e|hb
       ·rw[<-e];exact gJ.app _
       ·exact .inr ((gJ.app #[y]).hb hb)
      ·exact(ψ s o Β hm i (by rw[ei];simp)).app _
     ·rw[bW _ _ Ζ];by_cases Ε:a=.inr s
      ·subst Ε;rw[dY];exact dE.empty
      ·rw[bW _ _ Ε,bW _ _ Ζ];exact h.b5.ye a rfl dN nil
 have UJ:Apart (c.H (.inl i)) (c.H (.inr s)):=h.hold.apart _ _ η
 have aM:=Ho o.R o.L (c.H (.inr s)) e0 ML Ux (λx=>⟨ky x,Uz x⟩) UA UJ UB UC ⟨w,h.mem.fit _,h.mem.fit _,Uy⟩
 let dw:a7:={c.x i with G:=join (join (c.H (.inl i)) (c.H (.inr s))) e0,tok:=upd (c.tok i) s (.par n 0 .bH),view:=upd (c.view i) s none}
 let c':dn:={c with H:=bN,tok:=cg c.tok i s (.par n 0 .bH),view:=upd c.view i (upd (c.view i) s none),O:=upd c.O s (some o),T:=upd c.T i (f (i==0,g',dw))}
 have oX:c'.x i=dw:=by simp[c',dw,dn.x,upd_same,wF,kz]
 have sY:∀j r,¬(j=i/\r=s)->cg c.tok i s (.par n 0 .bH) j r=c.tok j r:=λj r e=>fj _ e
 have MQ:∀r q b,c.O r=some q->r≠s->eN r q.toSpec b->b≠s/\o.a4≠some b:=λr q b Χ μ hb=>⟨λe=>μ (h.hold.lP r s q o b Χ Β hb (.inl e)),λe=>μ (h.hold.lP r s q o b Χ Β hb (.inr e))⟩;refine iQ.go (c':=c') Ω ξ ?_ _ rfl;rw[ofEvents_one];refine h.laid (c':=c') Ω Hv Hu (h.b5.word (i:=i) rfl (.inl rfl) (h.low Β gF) dN (λ_ _ _ x=>x) Hw) (h.bn.gtake Β ei nj) ⟨λr q ck Χ dx b3 jk=>?_,λr q Χ b3=>?_⟩ ?_
  (h.gm.app h.b5.low (λop Τ b hb=>by simp at Τ;subst Τ;cases hb) (λj b v hv=>.inl ⟨v,hv⟩) (λr q Χ=>?_) (λj r al mu g e=>Af ei (λk m g e=>?_) j r al mu g e))
  ⟨g',?_,.inl rfl⟩ (λj ζ=>⟨?_,upd_ne _ _ ζ⟩) (.inr λj r q _ a b=>?_)
 ·rcases lz Β Χ with⟨rfl,rfl⟩|⟨e,cq⟩
  ·exact absurd (fz ..) (b3 i n 0)
  ·obtain⟨Ζ,Ε⟩:=MQ r q ck cq e (.inr dx);show q.av q.L (bN (.inr ck));rw[lU ck Ζ Ε];exact h.eT.qF r q ck cq dx (λj q p x=>b3 j q p (by show cg c.tok i s _ j r=_;rw[sY j r (λy=>e y.2)];exact x)) λj k L g x=>jk j k L g (by show cg c.tok i s _ j r=_;rw[sY j r (λy=>e y.2)];exact x)
 ·rcases lz Β Χ with⟨rfl,rfl⟩|⟨e,cq⟩
  ·exact absurd (fz ..) (b3 i n 0)
  ·obtain⟨Ζ,Ε⟩:=MQ r q r cq e (.inl rfl);show my q.D q.R (bN (.inr r));rw[lU r Ζ Ε];exact h.eT.nn r q cq (λj q p x=>b3 j q p (by show cg c.tok i s _ j r=_;rw[sY j r (λy=>e y.2)];exact x))
 ·refine⟨λal g' h7=>?_,λj ga ζ=>?_,λj ga ζ b3=>?_,λj ga ζ a b=>(h.eB.c3 j ga ζ a b).app _⟩
  ·obtain⟨op,Τ,h6⟩:=Option.map_eq_some_iff.1 h7;rcases getElem?_append_cases Τ with⟨_,lT⟩|⟨_,gM⟩
   ·exact h.eB.ed al g' (by simp[Trace.g?,lT,h6])
   ·simp at gM;subst gM;rw[<-h6];exact bd
  ·obtain⟨op,a1,bb,cP,gJ,ix⟩:=h.eB.c1 j ga ζ;have ω:=lt_size_of_getElem? a1;refine⟨op,by rw[getElem?_append_old ω];exact a1,bb,cP,(heard_old ω).2 gJ,λal h7 ε=>?_⟩;obtain⟨sZ,Τ,h6⟩:=Option.map_eq_some_iff.1 h7;rcases getElem?_append_cases Τ with⟨r5,lT⟩|⟨hle,gM⟩
   ·exact(ix al (by simp[Trace.g?,lT,h6]) ((z' r5).1 ε)).app _
   ·exact absurd ε (yc (u:=#[y]) (λop Τ=>by simp at Τ;subst Τ;rfl) al hle)
  ·obtain⟨q,p,Χ⟩:=b3;by_cases e:c.bC (c.home j)=i/\c.home j=s
   ·obtain⟨Ζ,Ε⟩:=e;show Knows _ (c.bC (c.home j)) (c.dP j);rw[Ζ];have fe:j<gs.size:=by
     obtain⟨op,a1,bb,_⟩:=h.eB.c1 j ga ζ;exact h.eB.ed (c.dP j) j (by simp[Trace.g?,a1,bb])
    obtain⟨bT,dG,ai,fl⟩:=h.bn.sX j ga fe;rw[Ε] at fl;exact(MM j ⟨bT,dG,ai,fl⟩).2.2.2
   ·refine(h.eB.c2 j ga ζ ⟨q,p,?_⟩).app _;have:cg c.tok i s (.par n 0 .bH) (c.bC (c.home j)) (c.home j)=.par q p .bH:=Χ
    rwa [sY _ _ e] at this
 ·rcases lz Β Χ with⟨rfl,rfl⟩|⟨_,cq⟩
  ·exact⟨_,Β,rfl⟩
  ·exact⟨q,cq,rfl⟩
 ·cases e
 ·rw[oX];show kr P Q (upd c.T i (f (i==0,g',dw)) i) _ _ _;rw[upd_same];exact aM
 ·simp[c',dn.x,upd_ne _ _ ζ,s4 _ ζ,jX j ζ]
 ·exact⟨q,by show upd c.O s (some o) r=some q;rw[Da Β];exact a,b⟩
end
section
variable {n:Nat} {tok:Nat->Nat->Tok} {spec:Nat->Nat->Option Spec} {view:Nat->Nat->Option (Nat×aW)} {rel:Nat->Bool} {O:Nat->Option aW} {bC home:Nat->Nat} {s i:Nat} {o:aW}
theorem e9.fork (h:e9 n tok spec view rel O bC home) (ξ:O s=some o) {q p:Nat} (Υ:tok i s=.par q (p+1) .add) :
  e9 (n+1) (upd (cg tok i s (.par q p .add)) n (upd (λ_=>.nil) s (.ch (q-(p+1)) .idle .work))) (upd spec n (upd (λ_=>none) s (some o.toSpec))) (upd (upd view i (upd (view i) s none)) n λ_=>none) (upd rel n false) O bC (upd home n s):=by
 have bd:i<n:=h.lt (s:=s) (by rw[Υ];simp)
 have lV:n≠i:=J
 have r4:=h.par i s q (p+1) .add Υ
 have cK:=(h.bg s o ξ).2
 have Χ:p+1<=q:=by
  have Ζ:bh n (λa=>tok a s) jg=q:=by
   rw[qy (φ:=jg) (λt Υ=>by cases t<;>simp_all [fc,jg]) cK.oR bd (by rw[Υ];rfl),Υ];rfl
  have Ε:bh n (λa=>tok a s) h3=p+1:=by
   rw[qy (φ:=h3) (λt Υ=>by cases t<;>simp_all [fc,h3]) cK.oR bd (by rw[Υ];rfl),Υ];rfl
  have:=cK.LU;omega
 generalize lW:upd (cg tok i s (.par q p .add)) n (upd (λ_=>.nil) s (.ch (q-(p+1)) .idle .work))=eU;have Ai:eU n s=.ch (q-(p+1)) .idle .work:=by rw[<-lW,upd_same,upd_same]
 have Hx:∀r,r≠s->eU n r=.nil:=λr μ=>by rw[<-lW,upd_same,upd_ne _ _ μ]
 have lX:eU i s=.par q p .add:=by rw[<-lW,upd_ne _ _ (Ne.symm lV),fz]
 have to:∀j r,j≠n->¬(j=i/\r=s)->eU j r=tok j r:=λj r U γ=>by rw[<-lW,upd_ne _ _ U,fj _ γ]
 have qK:∀j r,r≠s->eU j r=tok j r:=λj r μ=>by
  by_cases e:j=n
  ·subst e;rw[Hx r μ,h.out _ r (Nat.le_refl _)]
  ·exact to j r e λx=>μ x.2
 have Dh:(λj=>eU j s)=upd (upd (λj=>tok j s) i (.par q p .add)) n (.ch (q-(p+1)) .idle .work):=by
  funext j
  by_cases e:j=n
  ·subst e;rw[Ai,upd_same]
  ·rw[upd_ne _ _ e];by_cases aP:j=i
   ·subst aP;rw[lX,upd_same]
   ·rw[upd_ne _ _ aP,to j s e λx=>aP x.1]
 have MR:∀r,r≠s->(λj=>eU j r)=λj=>tok j r:=λr μ=>funext λj=>qK j r μ
 have hS:∀r,(λj=>tok j r) n=.nil:=λr=>h.out n r (Nat.le_refl _)
 have jV:∀j r k m g,eU j r=.ch k m g->(j=n/\r=s/\k=q-(p+1)/\m=.idle/\g=.work)\/(j≠n/\¬(j=i/\r=s)/\tok j r=.ch k m g):=λj r k m g ζ=>by
  by_cases e:j=n
  ·subst e;by_cases aP:r=s
   ·subst aP;rw[Ai] at ζ;cases ζ;exact .inl ⟨rfl,rfl,rfl,rfl,rfl⟩
   ·rw[Hx r aP] at ζ;cases ζ
  ·by_cases aP:j=i/\r=s
   ·obtain⟨rfl,rfl⟩:=aP;rw[lX] at ζ;cases ζ
   ·rw[to j r e aP] at ζ;exact .inr ⟨e,aP,ζ⟩
 have Hy:∀j r m fA aQ,eU j r=.par m fA aQ->(j=i/\r=s/\m=q/\fA=p/\aQ=.add)\/(j≠n/\r≠s/\tok j r=.par m fA aQ)\/(j≠n/\j≠i/\r=s/\tok j r=.par m fA aQ):=λj r m fA aQ ζ=>by
  by_cases e:j=n
  ·subst e;by_cases aP:r=s
   ·subst aP;rw[Ai] at ζ;cases ζ
   ·rw[Hx r aP] at ζ;cases ζ
  ·by_cases aP:j=i/\r=s
   ·obtain⟨rfl,rfl⟩:=aP;rw[lX] at ζ;cases ζ;exact .inl ⟨rfl,rfl,rfl,rfl,rfl⟩
   ·rw[to j r e aP] at ζ;by_cases Ε:r=s
    ·exact .inr (.inr ⟨e,λx=>aP ⟨x,Ε⟩,Ε,ζ⟩)
    ·exact .inr (.inl ⟨e,Ε,ζ⟩)
 have Hz:∀j r k m g,tok j r=.ch k m g->j≠n/\eU j r=.ch k m g:=λj r k m g ζ=>by
  have fe:j≠n:=λe=>by rw[e,h.out n r (Nat.le_refl _)] at ζ;cases ζ
  refine⟨fe,?_⟩;rw[to j r fe λe=>?_]
  ·exact ζ
  ·obtain⟨rfl,rfl⟩:=e;rw[Υ] at ζ;cases ζ
 have kμ:eZ (n+1) o (λj=>eU j s)<eZ n o (λj=>tok j s):=by
  rw[Dh,<-L1 (N:=n) (τ:=λj=>tok j s) (hS s)];exact TK (N:=n+1) J J (Ne.symm lV) Υ (hS s) _
 refine⟨λr jW μ=>?_,λr μ j=>?_,λj r ζ=>?_,λj r sp ζ=>?_,λj r φ dR ζ=>?_,λj r k L g jW cq ζ=>?_,λj r m fA aQ ζ=>?_,λj r k m g ζ=>?_,λj ao ζ=>?_,λj k m g ao ζ=>?_,?_,λj r ζ μ=>?_,λj r k m g jW cq ζ Ω=>?_,λr j bP k m g ck g' U γ=>?_,λr j k m g jW fA aQ U γ=>?_,λr jW μ=>?_,λr jW μ=>?_⟩
 ·by_cases e:r=s
  ·subst e;rw[ξ] at μ;cases μ;rw[Dh];exact TJ (L0 (h.bg r o ξ) (hS r)) J J (Ne.symm lV) Υ (hS r) _
  ·rw[MR r e];exact L0 (h.bg r jW μ) (hS r)
 ·have e:r≠s:=λe=>by rw[e,ξ] at μ;cases μ
  rw[qK j r e];exact h.bare r μ j
 ·rw[to j r J (λx=>J)];exact h.out j r J
 ·by_cases e:j=n
  ·subst e;rw[upd_same] at ζ;by_cases aP:r=s
   ·subst aP;rw[upd_same] at ζ;cases ζ;exact⟨o,ξ,rfl⟩
   ·rw[upd_ne _ _ aP] at ζ;cases ζ
  ·rw[upd_ne _ _ e] at ζ;exact h.rR j r sp ζ
 ·have old:∀j r φ dR,view j r=some (φ,dR)->∃iO,O r=some iO/\eZ (n+1) iO (λa=>eU a r)<=φ/\(eZ (n+1) iO (λa=>eU a r)=φ->iO=dR):=λj r φ dR hv=>by
   obtain⟨iO,U,γ,ο⟩:=h.wq j r φ dR hv;refine⟨iO,U,?_⟩;by_cases e:r=s
   ·subst e;rw[ξ] at U;cases U;exact⟨J,λx=>J⟩
   ·rw[MR r e,L1 (N:=n) (τ:=λj=>tok j r) (hS r)];exact⟨γ,ο⟩
  by_cases e:j=n
  ·subst e;rw[upd_same] at ζ;cases ζ
  ·rw[upd_ne _ _ e] at ζ;by_cases aP:j=i
   ·subst aP;rw[upd_same] at ζ;by_cases Ε:r=s
    ·subst Ε;rw[upd_same] at ζ;cases ζ
    ·rw[upd_ne _ _ Ε] at ζ;exact old _ _ _ _ ζ
   ·rw[upd_ne _ _ aP] at ζ;exact old _ _ _ _ ζ
 ·rcases jV j r k _ g ζ with⟨_,_,_,Ι,_⟩|⟨_,_,ο⟩
  ·cases Ι
  ·exact h.dA j r k L g jW cq ο
 ·rcases Hy j r m fA aQ ζ with⟨rfl,rfl,_⟩|⟨_,_,ο⟩|⟨_,_,_,ο⟩
  ·exact r4
  ·exact h.par j r m fA aQ ο
  ·exact h.par j r m fA aQ ο
 ·rcases jV j r k m g ζ with⟨rfl,rfl,_⟩|⟨fe,_,ο⟩
  ·exact⟨J,upd_same ..,J⟩
  ·obtain⟨a1,bb,cP⟩:=h.pK j r k m g ο;exact⟨a1,by rw[upd_ne _ _ fe];exact bb,cP⟩
 ·by_cases e:j=n
  ·subst e;rw[upd_same];exact⟨_,_,_,Ai⟩
  ·rw[upd_ne _ _ e];obtain⟨k,m,g,U⟩:=h.sX j ao J;exact⟨k,m,g,(Hz j _ k m g U).2⟩
 ·by_cases e:j=n
  ·subst e;rw[upd_same] at ζ;rw[Ai] at ζ;cases ζ;rw[upd_same];simp
  ·rw[upd_ne _ _ e] at ζ;rw[upd_ne _ _ e];rcases jV j _ k m g ζ with⟨x,_⟩|⟨_,_,ο⟩
   ·exact absurd x e
   ·exact h.eO j k m g ao ο
 ·rw[upd_ne _ _ (show(0:Nat)≠n by omega)];exact h.uJ
 ·by_cases e:j=n
  ·subst e;rw[upd_same] at ζ;cases ζ
  ·rw[upd_ne _ _ e] at ζ μ;have:=h.pL j r ζ μ;rw[to j r e λx=>?_]
   ·exact this
   ·obtain⟨rfl,rfl⟩:=x;rw[Υ] at this;exact this
 ·rcases jV j r k m g ζ with⟨_,_,_,_,Ι⟩|⟨_,_,ο⟩
  ·exact absurd Ι Ω
  ·exact h.pM j r k m g jW cq ο Ω
 ·have key:∀j k m g,tok j s=.ch k m g->k<q-(p+1):=λj k m g ζ=>by
   have:=h.uK s j k m g q (p+1) .add ζ (by rw[<-r4];exact Υ);omega
  rcases jV j r k m g U with⟨rfl,rfl,cP,_⟩|⟨_,_,ο⟩<;>rcases jV bP r k ck g' γ with⟨rfl,c6,fX,_⟩|⟨_,_,Ι⟩
  ·rfl
  ·have:=key bP k ck g' Ι;omega
  ·subst c6;have:=key j k m g ο;omega
  ·exact h.wu r j bP k m g ck g' ο Ι
 ·rcases jV j r k m g U with⟨_,rfl,cP,_⟩|⟨_,_,ο⟩
  ·rcases Hy _ r jW fA aQ γ with⟨_,_,rfl,rfl,_⟩|⟨_,x,_⟩|⟨_,x,_⟩
   ·omega
   ·exact absurd rfl x
   ·exact absurd r4.symm x
  ·rcases Hy _ r jW fA aQ γ with⟨_,rfl,rfl,rfl,_⟩|⟨_,_,Ι⟩|⟨_,x,rfl,Ι⟩
   ·have:=h.uK r j k m g jW (fA+1) .add ο (by rw[<-r4];exact Υ);omega
   ·exact h.uK r j k m g jW fA aQ ο Ι
   ·exact absurd r4.symm x
 ·obtain⟨a,b⟩:=h.fZ r jW μ;refine⟨a,λk=>(b k).trans ⟨λ⟨j,m,g,Ζ,Ε⟩=>⟨j,m,g,(Hz j r k m g Ζ).2,Ε⟩,λ⟨j,m,g,Ζ,Ε⟩=>?_⟩⟩;rcases jV j r k m g Ζ with⟨_,_,_,Ι,_⟩|⟨_,_,ο⟩
  ·subst Ι;exact Ε.elim
  ·exact⟨j,m,g,ο,Ε⟩
 ·obtain⟨a,b⟩:=h.gL r jW μ;refine⟨a,λk=>(b k).trans ⟨λ⟨j,m,g,Ζ,Ε⟩=>⟨j,m,g,(Hz j r k m g Ζ).2,Ε⟩,λ⟨j,m,g,Ζ,Ε⟩=>?_⟩⟩;rcases jV j r k m g Ζ with⟨_,_,_,_,Ι⟩|⟨_,_,ο⟩
  ·exact absurd Ι Ε
  ·exact⟨j,m,g,ο,Ε⟩
def aW.new (sp:Spec):aW:={toSpec:=sp,cr:=0,wk:=0,sv:=0,nw:=0,dm:=0,L:=[],cnt:=0,wt:=0,cU:=0,R:=[]}
theorem UK (N:Nat) (φ:Tok->Nat) (eS:φ .nil=0):bh N (λ_=>.nil) φ=0:=by
 induction N with
 | zero=>rfl
 | succ N Α=>rw[wh,Α,eS]
theorem e9.UL (h:e9 n tok spec view rel O bC home) (ξ:O s=none) (bd:i<n) (μ:rel i=false) (sp:Spec) :
  e9 n (cg tok i s (.par 0 0 .add)) (upd spec i (upd (spec i) s (some sp))) (upd view i (upd (view i) s none)) rel (upd O s (some (aW.new sp))) (upd bC s i) home:=by
 have hb:=h.bare s ξ
 have a5:∀j,j≠0->j<n->home j≠s:=λj ao ζ e=>by
  obtain⟨k,m,g,U⟩:=h.sX j ao ζ;rw[e,hb j] at U;cases U
 have Dh:(λj=>cg tok i s (.par 0 0 .add) j s)=upd (λ_=>.nil) i (.par 0 0 .add):=by
  rw[Mh];have:(λj=>tok j s)=λ_=>.nil:=funext hb;rw[this]
 have qK:∀j r,r≠s->cg tok i s (.par 0 0 .add) j r=tok j r:=λj r μ=>fj _ λx=>μ x.2
 have jV:∀j r k m g,cg tok i s (.par 0 0 .add) j r=.ch k m g↔tok j r=.ch k m g:=λj r k m g=>by
  by_cases e:j=i/\r=s
  ·obtain⟨rfl,rfl⟩:=e;rw[fz,hb];simp
  ·rw[fj _ e]
 have yh:∀j k m g,tok j s≠.ch k m g:=λj k m g e=>by rw[hb] at e;cases e
 have hP:∀r q,upd O s (some (aW.new sp)) r=some q->(r=s/\q=aW.new sp)\/(r≠s/\O r=some q):=λr q Χ=>by
  by_cases e:r=s
  ·subst e;rw[upd_same] at Χ;cases Χ;exact .inl ⟨rfl,rfl⟩
  ·rw[upd_ne _ _ e] at Χ;exact .inr ⟨e,Χ⟩
 have one:∀φ:Tok->Nat,φ .nil=0->bh n (upd (λ_=>.nil) i (.par 0 0 .add)) φ=φ (.par 0 0 .add):=λφ eS=>by
  have e:=g2 (N:=n) (λ_=>.nil) (.par 0 0 .add) φ bd;rw[UK n φ eS] at e;simp only[eS] at e;omega
 refine⟨λr q Χ=>?_,λr μ j=>?_,λj r ζ=>?_,λj r MS ζ=>?_,λj r φ dR ζ=>?_,λj r k L g q Χ ζ=>?_,λj r m p aQ ζ=>?_,λj r k m g ζ=>?_,λj ao ζ=>?_,λj k m g ao ζ=>?_,h.uJ,λj r ζ fI=>?_,λj r k m g q Χ ζ Ω=>?_,λr j bP k m g ck g' U γ=>?_,λr j k m g q p aQ U γ=>?_,λr q μ=>?_,λr q μ=>?_⟩
 ·rcases hP r q Χ with⟨rfl,rfl⟩|⟨e,cq⟩
  ·rw[Dh];constructor
   ·unfold qw;rw[one jf rfl,one oP rfl,one nd rfl,one mm rfl,one n7 rfl,one mo rfl,one rM rfl,one oQ rfl,one rL rfl];constructor<;>simp[aW.new,jf,oP,nd,mm,n7,mo,rM,oQ,rL]
   ·unfold pC;rw[one jU rfl,one kT rfl,one kU rfl,one mq rfl,one fc rfl,one h3 rfl,one jg rfl,one nf rfl,one mr rfl,one jh rfl];constructor<;>simp[aW.new,jU,kT,kU,mq,fc,h3,jg,nf,mr,jh]
  ·rw[Hb _ _ _ _ e];exact h.bg r q cq
 ·have e:r≠s:=λe=>by rw[e,upd_same] at μ;cases μ
  rw[upd_ne _ _ e] at μ;rw[qK j r e];exact h.bare r μ j
 ·rw[fj _ (λx=>J)];exact h.out j r ζ
 ·by_cases e:j=i
  ·subst e;rw[upd_same] at ζ;by_cases aP:r=s
   ·subst aP;rw[upd_same] at ζ;cases ζ;exact⟨_,upd_same ..,rfl⟩
   ·rw[upd_ne _ _ aP] at ζ;obtain⟨q,a,b⟩:=h.rR j r MS ζ;exact⟨q,by rw[upd_ne _ _ aP];exact a,b⟩
  ·rw[upd_ne _ _ e] at ζ;obtain⟨q,a,b⟩:=h.rR j r MS ζ;have aP:r≠s:=λaP=>by rw[aP,ξ] at a;cases a
   exact⟨q,by rw[upd_ne _ _ aP];exact a,b⟩
 ·have old:∀j r φ dR,view j r=some (φ,dR)->∃iO,upd O s (some (aW.new sp)) r=some iO/\eZ n iO (λa=>cg tok i s (.par 0 0 .add) a r)<=φ/\(eZ n iO (λa=>cg tok i s (.par 0 0 .add) a r)=φ->iO=dR):=λj r φ dR hv=>by
   obtain⟨iO,a,b⟩:=h.wq j r φ dR hv;have aP:r≠s:=λaP=>by rw[aP,ξ] at a;cases a
   exact⟨iO,by rw[upd_ne _ _ aP];exact a,by rw[Hb _ _ _ _ aP];exact b⟩
  by_cases e:j=i
  ·subst e;rw[upd_same] at ζ;by_cases aP:r=s
   ·subst aP;rw[upd_same] at ζ;cases ζ
   ·rw[upd_ne _ _ aP] at ζ;exact old _ _ _ _ ζ
  ·rw[upd_ne _ _ e] at ζ;exact old _ _ _ _ ζ
 ·rw[jV] at ζ;rcases hP r q Χ with⟨rfl,rfl⟩|⟨e,cq⟩
  ·exact absurd ζ (yh _ _ _ _)
  ·exact h.dA j r k L g q cq ζ
 ·by_cases e:j=i/\r=s
  ·obtain⟨rfl,rfl⟩:=e;rw[upd_same]
  ·rw[fj _ e] at ζ;have aP:r≠s:=λaP=>by rw[aP,hb] at ζ;cases ζ
   rw[upd_ne _ _ aP];exact h.par j r m p aQ ζ
 ·rw[jV] at ζ;have aP:r≠s:=λaP=>by rw[aP] at ζ;exact yh _ _ _ _ ζ
  rw[upd_ne _ _ aP];exact h.pK j r k m g ζ
 ·obtain⟨k,m,g,U⟩:=h.sX j ao ζ;exact⟨k,m,g,(jV _ _ _ _ _).2 U⟩
 ·rw[jV] at ζ;exact h.eO j k m g ao ζ
 ·have e:j≠i:=λe=>by rw[e,μ] at ζ;cases ζ
  rw[s4 _ e];exact h.pL j r ζ fI
 ·rw[jV] at ζ;rcases hP r q Χ with⟨rfl,rfl⟩|⟨e,cq⟩
  ·exact absurd ζ (yh _ _ _ _)
  ·exact h.pM j r k m g q cq ζ Ω
 ·rw[jV] at U γ;exact h.wu r j bP k m g ck g' U γ
 ·rw[jV] at U;have aP:r≠s:=λaP=>by rw[aP] at U;exact yh _ _ _ _ U
  rw[upd_ne _ _ aP,qK _ _ aP] at γ;exact h.uK r j k m g q p aQ U γ
 ·simp only[jV];rcases hP r q μ with⟨rfl,rfl⟩|⟨e,cq⟩
  ·exact⟨List.nodup_nil,λk=>⟨λx=>(by cases x),λ⟨j,m,g,x,_⟩=>absurd x (yh _ _ _ _)⟩⟩
  ·exact h.fZ r q cq
 ·simp only[jV];rcases hP r q μ with⟨rfl,rfl⟩|⟨e,cq⟩
  ·exact⟨List.nodup_nil,λk=>⟨λx=>(by cases x),λ⟨j,m,g,x,_⟩=>absurd x (yh _ _ _ _)⟩⟩
  ·exact h.gL r q cq
end
theorem UM (t:Trace) (u:Trace) {k:Nat} (hu:∀op∈u,op.g≠k):Deaf (t++u) k=Deaf t k:=by
 obtain⟨l⟩:=u;rw[Deaf_append]
 induction l generalizing t with
 | nil=>rfl
 | cons y l Α=>
  have Μ:y.g≠k:=hu y η
  have Ζ:deafStep k (Deaf t k) y=Deaf t k:=by
   unfold deafStep;split<;>simp[Μ]
  rw[List.foldl_cons,Ζ];exact Α t (λop Τ=>hu op (by simp at Τ ⊢;exact .inr Τ))
theorem UN {said:Bool} {t:Trace} {y z:MemOp} (h:¬Race said t) (nt:∀op∈(#[y,z]:Trace),op.act.touch?=none):¬Race said (t++#[y,z]):=by
 have e:t++#[y,z]=(t++#[y])++#[z]:=by rw[Array.append_assoc];rfl
 rw[e];refine noRace_append (g:=z.g) (noRace_append (g:=y.g) h (λop Τ=>by simp at Τ;rw[Τ]) λk a _ op Τ b hb _=>?_) (λop Τ=>by simp at Τ;rw[Τ]) λk a _ op Τ b hb _=>?_
 ·simp at Τ;subst Τ;rw[nt op η] at hb;cases hb
 ·simp at Τ;subst Τ;rw[nt op η] at hb;cases hb
section
variable {P:Program} {Q:Value->Prop} {bu:World} {c c':dn} {gs:Array Goroutine} {w w':World} {t:Trace} {i:Nat} {g g':Goroutine} {es:Array Event}
variable {f:Bool×Goroutine×a7->gK (Bool×Goroutine×a7)}
theorem Inv.HA (h:Inv P Q bu c gs w t) (Ω:gs[i]?=some g) (ψ:L' P (i==0) (mD P Q f) g (c.x i)):iQ P Q bu c gs w t i f:=by
 obtain⟨s,sp,n,p,g',ch,n9,n',U,ο,Ι,ax,uG,bf,cD,nv,aM,UO⟩:=ψ;have bd:i<gs.size:=nu Ω;obtain⟨o,Β,ca⟩:=h.bn.rR i s sp U;subst ca;have ei:c.tok i s=.par n (p+1) .add:=ο;have hd:c.deaf i=0:=Ι;have eE:c.rel i=false:=bf;have ξ:=cD w (h.mem.fit (.inl i));have lV:gs.size≠i:=J;let N:=gs.size;let y:MemOp:={g:=i,fn:=g.frame.fn,pos:=g.frame.place,act:=.go gs.size};let z:MemOp:={g:=gs.size,fn:=ch.frame.fn,pos:=g.frame.place,act:=.start};have wI:Deaf t i=0:=by rw[h.b5.hears];exact hd
 have h8:Deaf t gs.size=0:=by
  have:=UM #[] t (k:=gs.size) (λop Τ e=>by
   obtain⟨k,ψ⟩:=Array.mem_iff_getElem?.1 Τ;have:=h.eB.ed k op.g (by simp[Trace.g?,ψ]);omega)
  rw[Array.empty_append] at this;exact this
 let Di:a7:={c.x i with G:=n9,tok:=upd (c.tok i) s (.par n p .add),view:=upd (c.view i) s none}
 let Dj:a7:=⟨n',λ_=>none,upd (λ_=>.nil) s (.ch (n-(p+1)) .idle .work),upd (λ_=>none) s (some o.toSpec),λ_=>none,0,false⟩
 let eU:=upd (cg c.tok i s (.par n p .add)) gs.size (upd (λ_=>.nil) s (.ch (n-(p+1)) .idle .work))
 let c':dn:={c with H:=bV (bV c.H (.inl i) n9) (.inl gs.size) n',aR:=upd c.aR gs.size (λ_=>none),tok:=eU,spec:=upd c.spec gs.size (upd (λ_=>none) s (some o.toSpec)),view:=upd (upd c.view i (upd (c.view i) s none)) gs.size λ_=>none,deaf:=upd c.deaf gs.size 0,rel:=upd c.rel gs.size false,home:=upd c.home gs.size s,T:=upd (upd c.T i (f (i==0,g',Di))) gs.size (f (false,ch,Dj))}
 have UP:=h.bn.fork Β ei
 have er:=runT_crowd_spawn (sl:=none) Ω ξ
 have UQ:((MemOp.ofEvents i g.frame.fn g.frame.place #[]).push {g:=i,fn:=g.frame.fn,pos:=g.frame.place,act:=.go gs.size} |>.push {g:=gs.size,fn:=ch.frame.fn,pos:=g.frame.place,act:=.start})=#[y,z]:=by rw[My];rfl
 have MT:(Sum.inl i:cS)≠.inl gs.size:=λe=>lV (by cases e;rfl)
 have UR:∀r,eU gs.size r≠.nil->r=s:=λr μ=>by
  apply Classical.byContradiction;intro e;apply μ;show upd (cg c.tok i s (.par n p .add)) gs.size (upd (λ_=>.nil) s (.ch (n-(p+1)) .idle .work)) gs.size r=.nil;rw[upd_same,upd_ne _ _ e]
 have Dk:∀j,j≠gs.size->eU j=cg c.tok i s (.par n p .add) j:=λj ζ=>upd_ne _ _ ζ
 have US:∀j r,j≠gs.size->eU j r≠.nil->c.tok j r≠.nil:=λj r ζ μ=>by
  rw[Dk j ζ] at μ;exact Ae ei η j r μ
 have uU:∀j r q fA,eU j r=.par q fA .bH↔c.tok j r=.par q fA .bH:=λj r q fA=>by
  by_cases e:j=gs.size
  ·subst e;rw[h.bn.out gs.size r (Nat.le_refl _)];show upd (cg c.tok i s (.par n p .add)) gs.size (upd (λ_=>.nil) s (.ch (n-(p+1)) .idle .work)) gs.size r=_↔_;rw[upd_same];by_cases aP:r=s
   ·subst aP;rw[upd_same];simp
   ·rw[upd_ne _ _ aP]
  ·rw[Dk j e];exact Dd ei η η j r q fA
 have Hl:∀j r k L g,c.tok j r=.ch k (.dA L) g->eU j r=.ch k (.dA L) g:=λj r k L g ζ=>by
  have e:j≠gs.size:=λe=>by rw[e,h.bn.out _ r (Nat.le_refl _)] at ζ;cases ζ
  rw[Dk j e,fj _ λx=>?_]
  ·exact ζ
  ·obtain⟨rfl,rfl⟩:=x;rw[ei] at ζ;cases ζ
 have fq:∀j,j≠gs.size->c'.rel j=c.rel j:=λj ζ=>upd_ne _ _ ζ
 have Dl:∀j,c'.rel j=true->j≠gs.size:=λj ζ e=>by
  subst e;have:upd c.rel gs.size false gs.size=true:=ζ;rw[upd_same] at this;cases this
 have gn:∀j b v,upd c.aR gs.size (λ_=>none) j b=some v->c.aR j b=some v:=λj b v hv=>by
  by_cases e:j=gs.size
  ·subst e;rw[upd_same] at hv;cases hv
  ·rw[upd_ne _ _ e] at hv;exact hv
 have nt:∀op∈(#[y,z]:Trace),op.act.touch?=none:=λop Τ=>by simp at Τ;rcases Τ with rfl|rfl<;>rfl
 have od:∀op∈(#[y,z]:Trace),∀m,op.act≠.mark m:=λop Τ m=>by simp at Τ;rcases Τ with rfl|rfl<;>simp[y,z]
 have MU:∀k,Knows t i k->Knows (t++#[y,z]) gs.size k:=λk ψ=>Knows.spawn ψ rfl rfl rfl rfl wI h8
 have UT:∀a k,ks c.tok c.O t a k->ks eU c.O (t++#[y,z]) a k:=λa k ψ=>by
  cases a with
  | inl j=>exact Knows.app _ ψ
  | inr b=>
   rcases ψ with⟨p,op,U,γ,ο,Ι⟩|ψ
   ·have ω:=lt_size_of_getElem? U;exact .inl ⟨p,op,by rw[getElem?_append_old ω];exact U,γ,(heard_old ω).2 ο,Ι.app _⟩
   ·refine .inr λbs o' jS hb j ζ=>?_;by_cases e:j=gs.size
    ·subst e;have:=UR bs ζ;subst this;exact MU k (ψ _ o' jS hb i (by rw[ei];simp))
    ·exact(ψ bs o' jS hb j (US j bs e ζ)).app _
 have MV:∀a,dE (t++#[y,z]) (ks eU c.O (t++#[y,z]) a) (c.H a):=λa=>
  (h.b5.perms a).others (UT a) λop Τ x δ=>by rw[nt op Τ] at δ;cases δ
 have hinv:Inv P Q bu c' ((gs.setIfInBounds i g').push ch) w (t++#[y,z]):=by
  have cA:((gs.setIfInBounds i g').push ch).size=gs.size+1:=η;refine⟨by rw[cA];omega,(h.mem.two (nv.l.fits (h.mem.fit (.inl i))) (nv.r.fits (h.mem.fit (.inl i))) h.mem.gl).yf gn,(h.hold.two MT nv.l.rS nv.r.rS nv.apart ⟨λs o ξ=>⟨o,ξ,rfl⟩,λs o ξ=>⟨o,ξ,rfl⟩⟩ λx δ=>by rcases δ with e|e<;>cases e).yf gn,?_,by rw[cA];exact UP,?_,?_,?_,?_⟩
  ·refine⟨λsaid=>UN (h.b5.race said) nt,λop Τ=>?_,λop Τ a=>?_,λa=>?_,λj b v hv k a ψ=>?_,λbs o' b jS hb k a ψ fH=>?_,λj=>?_⟩
   ·rcases Array.mem_append.1 Τ with Τ|Τ
    ·exact h.b5.low op Τ
    ·simp at Τ;rcases Τ with rfl|rfl<;>trivial
   ·rcases Array.mem_append.1 Τ with Τ|Τ
    ·exact h.b5.norel op Τ a
    ·exact od op Τ _
   ·show dE _ _ (bV (bV c.H (.inl i) n9) (.inl gs.size) n' a);by_cases Ε:a=.inl gs.size
    ·subst Ε;rw[dY];exact(((h.b5.perms (.inl i)).others MU λop Τ x δ=>by rw[nt op Τ] at δ;cases δ):dE _ (Knows _ gs.size) _).sub nv.r
    ·rw[bW _ _ Ε];by_cases Ζ:a=.inl i
     ·subst Ζ;rw[dY];exact(MV (.inl i)).sub nv.l
     ·rw[bW _ _ Ζ];exact MV a
   ·have:=gn j b v hv;rcases n6 ψ with h7|⟨_,op,Τ,_,δ⟩
    ·exact h.b5.pG j b v this k a h7
    ·rw[nt op Τ] at δ;cases δ
   ·rcases n6 ψ with h7|⟨_,op,Τ,_,δ⟩
    ·rcases h.b5.cont bs o' b jS hb k a h7 fH with x|⟨x,dw⟩
     ·exact .inl x
     ·obtain⟨op,kv,_⟩:=touch_of h7;exact .inr ⟨x,by rw[g?_old (lt_size_of_getElem? kv)];exact dw⟩
    ·rw[nt op Τ] at δ;cases δ
   ·have Ζ:Deaf (t++#[y,z]) j=Deaf t j:=by
     have e:t++#[y,z]=(t++#[y])++#[z]:=by rw[Array.append_assoc];rfl
     rw[e,Deaf_push,Deaf_push];simp[deafStep,y,z]
    rw[Ζ];by_cases e:j=gs.size
    ·subst e;rw[h8];exact(upd_same ..).symm
    ·rw[h.b5.hears];exact(upd_ne _ _ e).symm
  ·have jE:∀b,bV (bV c.H (.inl i) n9) (.inl gs.size) n' (.inr b)=c.H (.inr b):=λb=>by rw[jD,jD]
   refine⟨λr q m Χ hm b3 jk=>?_,λr q Χ b3=>?_⟩
   ·show q.av q.L (bV (bV c.H (.inl i) n9) (.inl gs.size) n' (.inr m));rw[jE];exact h.eT.qF r q m Χ hm (λj q p x=>b3 j q p ((uU j r q p).2 x)) λj k L g x=>jk j k L g (Hl _ _ _ _ _ x)
   ·show my q.D q.R (bV (bV c.H (.inl i) n9) (.inl gs.size) n' (.inr r));rw[jE];exact h.eT.nn r q Χ (λj q p x=>b3 j q p ((uU j r q p).2 x))
  ·rw[cA];refine⟨λk a ψ=>?_,λj ga ζ=>?_,λj ga ζ b3=>?_,λj ga ζ a b=>?_⟩
   ·obtain⟨op,Τ,h6⟩:=Option.map_eq_some_iff.1 ψ;rcases getElem?_append_cases Τ with⟨_,lT⟩|⟨_,gM⟩
    ·have:=h.eB.ed k a (by simp[Trace.g?,lT,h6]);omega
    ·simp at gM;rcases gM with rfl|rfl
     ·rw[<-h6];show i<gs.size+1;omega
     ·rw[<-h6];show gs.size<gs.size+1;omega
   ·have fe:=Dl j ζ;rw[fq j fe] at ζ;obtain⟨op,a1,bb,cP,gJ,ix⟩:=h.eB.c1 j ga ζ;have ω:=lt_size_of_getElem? a1;refine⟨op,?_,bb,?_,(heard_old ω).2 gJ,λal h7 ε=>?_⟩
    ·show(t++#[y,z])[c.dP j]?=some op;rw[getElem?_append_old ω];exact a1
    ·show op.act=.mark (.releaseMerge ⟨upd c.home gs.size s j,0,none⟩);rw[upd_ne _ _ fe];exact cP
    ·obtain⟨sZ,Τ,h6⟩:=Option.map_eq_some_iff.1 h7;rcases getElem?_append_cases Τ with⟨r5,lT⟩|⟨hle,gM⟩
     ·exact(ix al (by simp[Trace.g?,lT,h6]) ((z' r5).1 ε)).app _
     ·exact absurd ε (yc nt al hle)
   ·have fe:=Dl j ζ;rw[fq j fe] at ζ;obtain⟨q,fA,Χ⟩:=b3;have Aj:c'.home j=c.home j:=upd_ne _ _ fe;rw[Aj] at Χ ⊢;exact(h.eB.c2 j ga ζ ⟨q,fA,(uU _ _ _ _).1 Χ⟩).app _
   ·have fe:=Dl j ζ;rw[fq j fe] at ζ;have Aj:c'.home j=c.home j:=upd_ne _ _ fe;rw[Aj] at a b ⊢;have UU:=Dl _ b;rw[fq _ UU] at b;exact(h.eB.c3 j ga ζ a b).app _
  ·refine⟨λr q ck Χ dx p op ω ν=>?_,λj b v hv op Τ ν=>?_⟩
   ·rcases getElem?_append_cases ω with⟨r5,iP⟩|⟨_,gM⟩
    ·obtain⟨⟨al,Hs,g,ο⟩,Ι⟩:=h.gm.iM r q ck Χ dx p op iP ν;have fe:op.g≠gs.size:=λe=>by rw[e,h.bn.out _ r (Nat.le_refl _)] at ο;cases ο
     refine⟨?_,λμ=>?_⟩
     ·rw[show c'.tok op.g=cg c.tok i s (.par n _ .add) op.g from Dk _ fe];exact Af ei (λ_ _ _ e=>by cases e) _ _ _ _ _ ο
     ·rw[fq _ fe] at μ;exact(Ι μ).app _
    ·exact absurd ν (od op gM _)
   ·rcases Array.mem_append.1 Τ with Τ|Τ
    ·exact h.gm.wC j b v (gn j b v hv) op Τ ν
    ·exact od op Τ _ ν
  ·intro j b hb;by_cases e:j=gs.size
   ·subst e;rw[Array.getElem?_push] at hb;simp at hb;subst hb;refine⟨ch,?_,.inl rfl⟩;have δ:c'.x gs.size=Dj:=by simp[c',Dj,eU,dn.x,upd_same]
    have Ν:c'.T gs.size=f (false,ch,Dj):=upd_same ..
    have hm:(gs.size==0)=false:=by rw[beq_eq_false_iff_ne];exact Nat.ne_of_gt h.pos
    rw[δ,Ν,hm];exact UO
   ·have ec:(gs.setIfInBounds i g')[j]?=some b:=by
     rw[Array.getElem?_push] at hb;simpa[e] using hb
    by_cases Ζ:j=i
    ·subst Ζ;rw[Array.getElem?_setIfInBounds_self_of_lt bd] at ec;cases ec;refine⟨g',?_,.inl rfl⟩;have δ:c'.x j=Di:=by simp[c',Di,eU,dn.x,upd_same,upd_ne _ _ e,wF,bW _ _ MT]
     have Ν:c'.T j=f (j==0,g',Di):=by show upd (upd c.T j _) gs.size _ j=_;rw[upd_ne _ _ e,upd_same]
     rw[δ,Ν];exact aM
    ·rw[Array.getElem?_setIfInBounds_ne (Ne.symm Ζ)] at ec;obtain⟨cN,Hd,iS⟩:=h.wD j b ec;have iy:(Sum.inl j:cS)≠.inl gs.size:=λx=>e (by cases x;rfl);have gD:(Sum.inl j:cS)≠.inl i:=λx=>Ζ (by cases x;rfl);have δ:c'.x j=c.x j:=by simp[c',eU,dn.x,upd_ne _ _ e,upd_ne _ _ Ζ,s4 _ Ζ,bW _ _ iy,bW _ _ gD]
     have Ν:c'.T j=c.T j:=by show upd (upd c.T i _) gs.size _ j=_;rw[upd_ne _ _ e,upd_ne _ _ Ζ]
     have Υ:c'.tok j=c.tok j:=congrArg a7.tok δ;refine⟨cN,by rw[δ,Ν];exact Hd,?_⟩;rw[Υ];exact iS
 refine λsl=>⟨c',_,w,_,runT_crowd_spawn Ω ξ,?_,.inr (.inl ⟨η,_,_,rfl⟩)⟩;rw[UQ];exact hinv
end
theorem UW (sp:Spec):c7 (aW.new sp)=0:=by simp[c7,aW.new]
theorem UX (sp:Spec):mwd (aW.new sp)=0:=by simp[mwd,aW.new]
section
variable {P:Program} {Q:Value->Prop} {bu:World} {c c':dn} {gs:Array Goroutine} {w w':World} {t:Trace} {i:Nat} {g g':Goroutine} {es:Array Event}
variable {f:Bool×Goroutine×a7->gK (Bool×Goroutine×a7)}
theorem Inv.seen (h:Inv P Q bu c gs w t) (Ω:gs[i]?=some g)
  (mem:hO c'.H c'.aR c'.O bu w) (hold:ji c'.H c'.aR c'.O bu.heap.size) (b5:jB c'.H c'.aR c'.tok c'.O c'.bC c'.deaf w.heap.size t)
  (bn:e9 gs.size c'.tok c'.spec c'.view c'.rel c'.O c'.bC c'.home) (eT:x9 c'.H c'.tok c'.O) (eB:wB gs.size c'.tok c'.rel c'.bC c'.home c'.dP t) (gm:x' c'.aR c'.tok c'.O c'.rel c'.dP t)
  (Hk:Rec P Q c' i g) (δ:∀j,j≠i->c'.x j=c.x j/\c'.T j=c.T j) (dN:∀s o,c.O s=some o->c'.O s=some o):Inv P Q bu c' gs w t:=by
 refine⟨h.pos,mem,hold,b5,bn,eT,eB,gm,λj b hb=>?_⟩;by_cases e:j=i
 ·subst e;rw[Ω] at hb;cases hb;exact Hk
 ·obtain⟨cN,U,γ⟩:=h.wD j b hb;obtain⟨Ζ,Ε⟩:=δ j e;have Υ:c'.tok j=c.tok j:=congrArg a7.tok Ζ;refine⟨cN,by rw[Ζ,Ε];exact U,γ.imp id λ⟨a1,bb,s,o,cP,gJ,ix⟩=>⟨a1,bb,s,o,dN s o cP,by rw[Υ];exact gJ,by rw[Υ];exact ix⟩⟩
theorem Inv.UY (h:Inv P Q bu c gs w t) (Ω:gs[i]?=some g) {b:Nat} {cs:Array Value} {ty:TypeId} (hb:c.aR i b=some (cs,ty)) {dw:a7}
  (iv:dw={c.x i with aR:=upd (c.aR i) b none,G:=⟨λag o=>if ag=b then(cs[o]?).map (·,true) else(c.H (.inl i)).aS ag o,λag=>if ag=b then some (ty,cs.size) else(c.H (.inl i)).row ag,(c.H (.inl i)).obj⟩}) (aM:mD P Q f (i==0) g dw):Dc P Q bu c gs w t i f:=by
 let G':Γ:=⟨λag o=>if ag=b then(cs[o]?).map (·,true) else(c.H (.inl i)).aS ag o,λag=>if ag=b then some (ty,cs.size) else(c.H (.inl i)).row ag,(c.H (.inl i)).obj⟩;obtain⟨f1,f2,f3⟩:=h.hold.fresh i b _ hb;have MW:=h.mem.ni i b cs ty hb;have Dm:∀ag o,ag≠b->G'.aS ag o=(c.H (.inl i)).aS ag o:=λag o e=>by simp[G',e]
 have UZ:∀o,G'.aS b o=(cs[o]?).map (·,true):=λo=>by simp[G']
 have MX:∀ag o,ag≠b->(G'.has ag o↔(c.H (.inl i)).has ag o):=λag o e=>by unfold Γ.has;rw[Dm ag o e]
 have MY:∀ag o,ag≠b->(G'.owns ag o↔(c.H (.inl i)).owns ag o):=λag o e=>by unfold Γ.owns;rw[Dm ag o e]
 have U0:∀ag,G'.fx ag↔(c.H (.inl i)).fx ag:=λag=>Iff.rfl
 have MZ:∀ag,ag≠b->(c.H (.inl i)).off ag->G'.off ag:=λag e Β=>⟨λo a5=>Β.1 o ((MX ag o e).1 a5),Β.2⟩
 let c':dn:={c with H:=bV c.H (.inl i) G',aR:=upd c.aR i (upd (c.aR i) b none),T:=upd c.T i (f (i==0,g,dw))}
 have gn:∀j ag v,upd c.aR i (upd (c.aR i) b none) j ag=some v->c.aR j ag=some v/\ag≠b:=λj ag v hv=>by
  by_cases e:j=i
  ·subst e;rw[upd_same] at hv;by_cases aP:ag=b
   ·subst aP;rw[upd_same] at hv;cases hv
   ·rw[upd_ne _ _ aP] at hv;exact⟨hv,aP⟩
  ·rw[upd_ne _ _ e] at hv;exact⟨hv,λaP=>by rw[aP,f3 j e] at hv;cases hv⟩
 have U1:∀s o ag,c.O s=some o->eN s o.toSpec ag->ag≠b:=λs o ag ξ ec e=>by
  have:=(h.hold.lx s o ag ξ ec).2.2 i;rw[e,hb] at this;cases this
 have ap:∀k,k≠.inl i->Apart G' (c.H k):=λk ψ=>by
  have a:=h.hold.apart _ _ (Ne.symm ψ);refine⟨λag o x y=>?_,λag o x y=>?_,λag x y=>a.obj ag x y⟩
  ·by_cases e:ag=b
   ·subst e;exact(f2 k).1 o y
   ·exact a.aS ag o ((MY ag o e).1 x) y
  ·by_cases e:ag=b
   ·subst e;exact(f2 k).1 o ⟨_,x.choose_spec⟩
   ·exact a.rJ ag o x ((MX ag o e).1 y)
 have oX:c'.x i=dw:=by rw[iv];simp[c',G',dn.x,upd_same]
 refine⟨c',h.seen (c':=c') Ω ⟨λk=>?_,λj ag cs' kq hv=>h.mem.ni j ag cs' kq (gn j ag _ hv).1,h.mem.gl,h.mem.keep⟩
  ⟨λk l iA=>?_,λk ag o Β=>?_,λk ag Β=>?_,λj ag v hv=>?_,λs o ag ξ ec=>?_,h.hold.lP,h.hold.qE,λag ec=>?_⟩ ⟨h.b5.race,h.b5.low,h.b5.norel,λk=>?_,λj ag v hv=>h.b5.pG j ag v (gn j ag v hv).1,h.b5.cont,h.b5.hears⟩ h.bn (h.eT.Ab λag=>jD c.H i G' ag) h.eB
  ⟨h.gm.iM,λj ag v hv=>h.gm.wC j ag v (gn j ag v hv).1⟩ ⟨g,?_,.inl rfl⟩ (λj ζ=>⟨?_,upd_ne _ _ ζ⟩) λ_ _ a=>a,_,rfl⟩
 ·show Fits (bV c.H (.inl i) G' k) w;by_cases e:k=.inl i
  ·subst e;rw[dY];have eI:=h.mem.fit (.inl i);refine⟨λag o v p ε=>?_,λag t' jT μ=>?_,eI.obj⟩
   ·by_cases aP:ag=b
    ·subst aP;rw[UZ] at ε;cases δ:cs[o]? with
     | none=>rw[δ] at ε;cases ε
     | some fG=>rw[δ] at ε;cases ε;exact oN MW δ
    ·rw[Dm ag o aP] at ε;exact eI.aS ag o v p ε
   ·by_cases aP:ag=b
    ·subst aP;simp[G'] at μ;obtain⟨rfl,rfl⟩:=μ;exact⟨cs,MW,rfl⟩
    ·simp[G',aP] at μ;exact eI.row ag t' jT μ
  ·rw[bW _ _ e];exact h.mem.fit k
 ·show Apart (bV c.H (.inl i) G' k) (bV c.H (.inl i) G' l);by_cases e:k=.inl i
  ·subst e;rw[dY,bW _ _ (Ne.symm iA)];exact ap l (Ne.symm iA)
  ·rw[bW _ _ e];by_cases aP:l=.inl i
   ·subst aP;rw[dY];exact(ap k e).symm
   ·rw[bW _ _ aP];exact h.hold.apart k l iA
 ·replace Β:(bV c.H (.inl i) G' k).owns ag o:=Β
  by_cases e:k=.inl i
  ·subst e;rw[dY] at Β;by_cases aP:ag=b
   ·subst aP;exact f1
   ·exact h.hold.high _ _ _ ((MY ag o aP).1 Β)
  ·rw[bW _ _ e] at Β;exact h.hold.high _ _ _ Β
 ·replace Β:(bV c.H (.inl i) G' k).fx ag:=Β
  by_cases e:k=.inl i
  ·subst e;rw[dY] at Β;exact h.hold.oT _ _ ((U0 ag).1 Β)
  ·rw[bW _ _ e] at Β;exact h.hold.oT _ _ Β
 ·obtain⟨mC,bx⟩:=gn j ag v hv;obtain⟨a1,bb,cP⟩:=h.hold.fresh j ag v mC;refine⟨a1,λk=>?_,λbP aI=>?_⟩
  ·show(bV c.H (.inl i) G' k).off ag;by_cases e:k=.inl i
   ·subst e;rw[dY];exact MZ ag bx (bb _)
   ·rw[bW _ _ e];exact bb k
  ·cases δ:c'.aR bP ag with
   | none=>rfl
   | some fG=>have:=(gn bP ag fG δ).1;rw[cP bP aI] at this;cases this
 ·obtain⟨a1,bb,cP⟩:=h.hold.lx s o ag ξ ec;have bx:=U1 s o ag ξ ec;refine⟨a1,λk=>?_,λbP=>?_⟩
  ·show(bV c.H (.inl i) G' k).off ag;by_cases e:k=.inl i
   ·subst e;rw[dY];exact MZ ag bx (bb _)
   ·rw[bW _ _ e];exact bb k
  ·cases δ:c'.aR bP ag with
   | none=>rfl
   | some fG=>have:=(gn bP ag fG δ).1;rw[cP bP] at this;cases this
 ·show bV c.H (.inl i) G' (.inr ag)=Γ.empty;rw[jD];exact h.hold.eT ag ec
 ·show dE t (ks c.tok c.O t k) (bV c.H (.inl i) G' k);by_cases e:k=.inl i
  ·subst e;rw[dY];have ω:=h.b5.perms (.inl i);refine⟨λag o v p ε k a ν π hw=>?_,ω.obj⟩;by_cases aP:ag=b
   ·exfalso;refine h.b5.pG i b _ hb k a ν ?_;rw[π];exact aP
   ·rw[Dm ag o aP] at ε;exact ω.aS ag o v p ε k a ν π hw
  ·rw[bW _ _ e];exact h.b5.perms k
 ·rw[oX];show kr P Q (upd c.T i (f (i==0,g,dw)) i) _ _ _;rw[upd_same];exact aM
 ·have gD:(Sum.inl j:cS)≠.inl i:=λx=>ζ (by cases x;rfl);simp[c',dn.x,upd_ne _ _ ζ,bW _ _ gD]
theorem Inv.less (h:Inv P Q bu c gs w t) (Ω:gs[i]?=some g) {G':Γ} (ξ:Sub G' (c.H (.inl i))) (aM:mD P Q f (i==0) g {c.x i with G:=G'}):Dc P Q bu c gs w t i f:=by
 let dw:a7:={c.x i with G:=G'}
 let c':dn:={c with H:=bV c.H (.inl i) G',T:=upd c.T i (f (i==0,g,dw))}
 have oX:c'.x i=dw:=by simp[c',dw,dn.x]
 have U2:upd c.aR i (c.aR i)=c.aR:=Da rfl
 have hm:=h.mem.own h.hold i (fV.refl _ _ w) (ξ.fits (h.mem.fit (.inl i))) (h.mem.ni i) rfl
 have a5:=h.hold.own h.mem h.mem.keep.size i (G':=G') (V':=c.aR i) ⟨λb o v p ε=>.inr (let ⟨fY,ao,ω⟩:=ξ.aS b o v p ε;⟨v,fY,ao,ω⟩),λb hb=>.inr (ξ.fx hb)⟩ (λb x δ=>.inl δ);rw[U2] at hm a5;refine⟨c',h.seen (c':=c') Ω hm a5 ⟨h.b5.race,h.b5.low,h.b5.norel,λk=>?_,h.b5.pG,h.b5.cont,h.b5.hears⟩ h.bn (h.eT.Ab λag=>jD c.H i G' ag) h.eB h.gm ⟨g,?_,.inl rfl⟩ (λj ζ=>⟨?_,upd_ne _ _ ζ⟩) λ_ _ a=>a,_,rfl⟩
 ·show dE t (ks c.tok c.O t k) (bV c.H (.inl i) G' k);by_cases e:k=.inl i
  ·subst e;rw[dY];exact(h.b5.perms (.inl i)).sub ξ
  ·rw[bW _ _ e];exact h.b5.perms k
 ·rw[oX];show kr P Q (upd c.T i (f (i==0,g,dw)) i) _ _ _;rw[upd_same];exact aM
 ·have gD:(Sum.inl j:cS)≠.inl i:=λx=>ζ (by cases x;rfl);simp[c',dn.x,bW _ _ gD]
theorem Inv.group (h:Inv P Q bu c gs w t) (Ω:gs[i]?=some g) {s:Nat} {sp:Spec} {ty:TypeId} {G' E:Γ} (ξ:c.aR i s=some (#[.int .u64 0,.int .u32 0],ty)) (fQ:∀m,sp.a4=some m->m≠s/\∃kq,c.aR i m=some (#[.int .i32 0,.int .u32 0],kq))
  (eE:c.rel i=false) (ca:Split (c.H (.inl i)) G' E) (cV:sp.a4≠none->sp.av [] E) {dw:a7}
  (iv:dw={c.x i with G:=G',aR:=λb=>if b=s\/sp.a4=some b then none else c.aR i b,tok:=upd (c.tok i) s (.par 0 0 .add),spec:=upd (c.spec i) s (some sp),view:=upd (c.view i) s none}) (aM:mD P Q f (i==0) g dw):Dc P Q bu c gs w t i f:=by
 have bd:i<gs.size:=nu Ω
 have Dn:c.O s=none:=by
  cases δ:c.O s with
  | none=>rfl
  | some o=>have:=(h.hold.lx s o s δ (.inl rfl)).2.2 i;rw[ξ] at this;cases this
 have hy:∀b,eN s sp b->∃v,c.aR i b=some v:=λb hb=>by
  rcases hb with rfl|hb
  ·exact⟨_,ξ⟩
  ·obtain⟨_,kq,U⟩:=fQ b hb;exact⟨_,U⟩
 have nx:∀r o b,c.O r=some o->eN r o.toSpec b->¬eN s sp b:=λr o b μ hb ec=>by
  obtain⟨v,hv⟩:=hy b ec;have:=(h.hold.lx r o b μ hb).2.2 i;rw[hv] at this;cases this
 have kX:∀r o,c.O r=some o->r≠s:=λr o μ e=>by rw[e,Dn] at μ;cases μ
 let V':Nat->Option (Array Value×TypeId):=λb=>if b=s\/sp.a4=some b then none else c.aR i b
 let O':=upd c.O s (some (aW.new sp))
 have gn:∀j b v,upd c.aR i V' j b=some v->c.aR j b=some v/\¬eN s sp b:=λj b v hv=>by
  by_cases e:j=i
  ·subst e;rw[upd_same] at hv;by_cases aP:b=s\/sp.a4=some b
   ·simp[V',aP] at hv
   ·simp[V',aP] at hv;exact⟨hv,aP⟩
  ·rw[upd_ne _ _ e] at hv;refine⟨hv,λhb=>?_⟩;obtain⟨fG,mC⟩:=hy b hb;have:=(h.hold.fresh i b fG mC).2.2 j e;rw[this] at hv;cases hv
 have M0:∀j b,c.aR j b=none->upd c.aR i V' j b=none:=λj b e=>by
  cases δ:upd c.aR i V' j b with
  | none=>rfl
  | some v=>have:=(gn j b v δ).1;rw[e] at this;cases this
 have U3:∀j b,eN s sp b->upd c.aR i V' j b=none:=λj b hb=>by
  cases δ:upd c.aR i V' j b with
  | none=>rfl
  | some v=>exact absurd hb (gn j b v δ).2
 have hP:∀r q,O' r=some q->(r=s/\q=aW.new sp)\/(r≠s/\c.O r=some q):=λr q Χ=>by
  by_cases e:r=s
  ·subst e;rw[show O' r=some (aW.new sp) from upd_same ..] at Χ;cases Χ;exact .inl ⟨rfl,rfl⟩
  ·rw[show O' r=c.O r from upd_ne _ _ e] at Χ;exact .inr ⟨e,Χ⟩
 have holdA:ji c.H (upd c.aR i V') O' bu.heap.size:=by
  refine⟨h.hold.apart,h.hold.high,h.hold.oT,λj b v hv=>?_,λr o b μ hb=>?_,λr r' o o' b μ fI hb ec=>?_,λr o m μ hm=>?_,λb hb=>h.hold.eT b λr o μ hi=>hb r o (by rw[show O' r=c.O r from upd_ne _ _ (kX r o μ)];exact μ) hi⟩
  ·obtain⟨a1,bb,cP⟩:=h.hold.fresh j b v (gn j b v hv).1;exact⟨a1,bb,λbP aI=>M0 bP b (cP bP aI)⟩
  ·rcases hP r o μ with⟨rfl,rfl⟩|⟨e,fI⟩
   ·obtain⟨v,hv⟩:=hy b hb;obtain⟨a1,bb,_⟩:=h.hold.fresh i b v hv;exact⟨a1,bb,λj=>U3 j b hb⟩
   ·obtain⟨a1,bb,cP⟩:=h.hold.lx r o b fI hb;exact⟨a1,bb,λj=>M0 j b (cP j)⟩
  ·rcases hP r o μ with⟨rfl,rfl⟩|⟨e,ny⟩<;>rcases hP r' o' fI with⟨rfl,rfl⟩|⟨aP,yi⟩
   ·rfl
   ·exact absurd hb (nx r' o' b yi ec)
   ·exact absurd ec (nx r o b ny hb)
   ·exact h.hold.lP r r' o o' b ny yi hb ec
  ·rcases hP r o μ with⟨rfl,rfl⟩|⟨e,fI⟩
   ·exact(fQ m hm).1
   ·exact h.hold.qE r o m fI hm
 have M1:O' s=some (aW.new sp):=upd_same ..
 have M3:c.H (.inr s)=Γ.empty:=h.hold.eT s λr o μ hi=>nx r o s μ hi (.inl rfl)
 have np:∀r q,O' r=some q->At r q w:=λr q Χ=>by
  rcases hP r q Χ with⟨rfl,rfl⟩|⟨_,cq⟩
  ·refine⟨⟨ty,?_⟩,λm hm=>let ⟨_,kq,hv⟩:=fQ m hm;⟨kq,?_⟩⟩
   ·rw[UW];exact h.mem.ni i r _ _ ξ
   ·rw[UX];exact h.mem.ni i m _ _ hv
  ·exact h.mem.gl _ _ cq
 obtain⟨bN,kz,jX,Ht,lU,Hu,Hv,Hw⟩:∃bN:cS->Γ,bN (.inl i)=G'/\(∀j,j≠i->bN (.inl j)=c.H (.inl j))/\(∀b,¬eN s sp b->bN (.inr b)=c.H (.inr b))/\(bN (.inr s)=Γ.empty/\∀m,sp.a4=some m->bN (.inr m)=E)/\
   ji bN (upd c.aR i V') O' bu.heap.size/\hO bN (upd c.aR i V') O' bu w/\∀a,dE t (ks (cg c.tok i s (.par 0 0 .add)) O' t a) (bN a):=by
  have yg:=h.b5.perms (.inl i)
  have M4:∀a,(∀b,a=.inr b->¬eN s sp b)->dE t (ks (cg c.tok i s (.par 0 0 .add)) O' t a) (c.H a):=λa ν=>by
   refine(h.b5.perms a).mono λk ψ=>?_;cases a with
   | inl j=>exact ψ
   | inr b=>
    refine ψ.imp id λψ r o μ hb j ζ=>?_;rcases hP r o μ with⟨rfl,rfl⟩|⟨e,fI⟩
    ·exact absurd hb (ν b rfl)
    ·rw[fj _ (λx=>e x.2)] at ζ;exact ψ r o fI hb j ζ
  have M5:hO c.H (upd c.aR i V') c.O bu w:=h.mem.yf λj b v hv=>(gn j b v hv).1
  have iy:(Sum.inl i:cS)≠.inr s:=η;cases hm:sp.a4 with
  | none=>
   refine⟨bV (bV c.H (.inl i) G') (.inr s) Γ.empty,?_,λj ζ=>?_,λb hb=>?_,⟨dY ..,λm e=>(by cases e)⟩,?_,M5.two (ca.l.fits (h.mem.fit (.inl i))) (wy w) np,λa=>?_⟩
   ·rw[bW _ _ iy,dY]
   ·rw[bW _ _ η,bW _ _ (λe=>ζ (by cases e;rfl))]
   ·have:(Sum.inr b:cS)≠.inr s:=λe=>hb (by cases e;exact .inl rfl);rw[bW _ _ this,jD]
   ·exact holdA.two iy ca.l.rS (Sub.empty _) (Apart.uM _) ⟨λs o ξ=>⟨o,ξ,rfl⟩,λs o ξ=>⟨o,ξ,rfl⟩⟩ λx δ=>by
     rcases δ with e|e
     ·cases e;exact⟨s,_,M1,.inl rfl⟩
     ·cases e
   ·by_cases Ε:a=.inr s
    ·subst Ε;rw[dY];exact dE.empty
    ·rw[bW _ _ Ε];by_cases Ζ:a=.inl i
     ·subst Ζ;rw[dY];exact yg.sub ca.l
     ·rw[bW _ _ Ζ];refine M4 a λb e hb=>?_;subst e;rcases hb with rfl|hb
      ·exact Ε rfl
      ·rw[hm] at hb;cases hb
  | some m=>
   have s7:=(fQ m hm).1
   have gD:(Sum.inl i:cS)≠.inr m:=η;refine⟨bV (bV c.H (.inl i) G') (.inr m) E,?_,λj ζ=>?_,λb hb=>?_,⟨?_,λck e=>?_⟩,?_,M5.two (ca.l.fits (h.mem.fit (.inl i))) (ca.r.fits (h.mem.fit (.inl i))) np,λa=>?_⟩
   ·rw[bW _ _ gD,dY]
   ·rw[bW _ _ η,bW _ _ (λe=>ζ (by cases e;rfl))]
   ·have:(Sum.inr b:cS)≠.inr m:=λe=>hb (by cases e;exact .inr hm);rw[bW _ _ this,jD]
   ·have:(Sum.inr s:cS)≠.inr m:=λe=>s7 (by cases e;rfl);rw[bW _ _ this,jD];exact M3
   ·cases e;rw[dY]
   ·exact holdA.two gD ca.l.rS ca.r.rS ca.apart ⟨λs o ξ=>⟨o,ξ,rfl⟩,λs o ξ=>⟨o,ξ,rfl⟩⟩ λx δ=>by
     rcases δ with e|e
     ·cases e;exact⟨s,_,M1,.inr hm⟩
     ·cases e
   ·by_cases Ε:a=.inr m
    ·subst Ε;rw[dY];refine(yg.sub ca.r).mono λk ψ=>.inr λr o μ hb j ζ=>?_;rcases hP r o μ with⟨rfl,rfl⟩|⟨e,fI⟩
     ·by_cases e:j=i
      ·subst e;exact ψ
      ·rw[s4 _ e,h.bn.bare r Dn j] at ζ;exact absurd rfl ζ
     ·exact absurd (.inr hm) (nx r o m fI hb)
    ·rw[bW _ _ Ε];by_cases Ζ:a=.inl i
     ·subst Ζ;rw[dY];exact yg.sub ca.l
     ·rw[bW _ _ Ζ];by_cases a8:a=.inr s
      ·subst a8;rw[M3];exact dE.empty
      ·refine M4 a λb e hb=>?_;subst e;rcases hb with rfl|hb
       ·exact a8 rfl
       ·rw[hm] at hb;cases hb;exact Ε rfl
 let c':dn:={c with H:=bN,aR:=upd c.aR i V',tok:=cg c.tok i s (.par 0 0 .add),spec:=upd c.spec i (upd (c.spec i) s (some sp)),view:=upd c.view i (upd (c.view i) s none),O:=O',bC:=upd c.bC s i,T:=upd c.T i (f (i==0,g,dw))}
 have oX:c'.x i=dw:=by rw[iv];simp[c',V',dn.x,upd_same,wF,kz]
 have qK:∀j r,r≠s->cg c.tok i s (.par 0 0 .add) j r=c.tok j r:=λj r μ=>fj _ λx=>μ x.2
 have s0:∀j,j≠0->c.rel j=true->c.home j≠s:=λj ao ζ e=>by
  obtain⟨op,a1,bb,_⟩:=h.eB.c1 j ao ζ;have fe:=h.eB.ed (c.dP j) j (by simp[Trace.g?,a1,bb]);obtain⟨k,m,g,ψ⟩:=h.bn.sX j ao fe;rw[e,h.bn.bare s Dn j] at ψ;cases ψ
 refine⟨c',h.seen (c':=c') Ω Hv Hu ⟨h.b5.race,h.b5.low,h.b5.norel,Hw,λj b v hv=>h.b5.pG j b v (gn j b v hv).1,λr o b μ hb k a ν fH=>?_,h.b5.hears⟩ (h.bn.UL Dn bd eE sp) ⟨λr q m Χ hm b3 jk=>?_,λr q Χ b3=>?_⟩
  ⟨h.eB.ed,h.eB.c1,λj ao ζ b3=>?_,λj ao ζ a b=>?_⟩ ⟨λr q m Χ hm p op ω ν=>?_,λj b v hv=>h.gm.wC j b v (gn j b v hv).1⟩ ⟨g,?_,.inl rfl⟩ (λj ζ=>⟨?_,upd_ne _ _ ζ⟩) (λr o μ=>?_),_,rfl⟩
 ·rcases hP r o μ with⟨rfl,rfl⟩|⟨e,fI⟩
  ·obtain⟨v,hv⟩:=hy b hb;exact absurd fH (h.b5.pG i b v hv k a ν)
  ·have:=h.b5.cont r o b fI hb k a ν fH
   show _\/(_/\_=some (upd c.bC s i r));rw[upd_ne _ _ e];exact this
 ·rcases hP r q Χ with⟨rfl,rfl⟩|⟨e,cq⟩
  ·show sp.av [] (bN (.inr m));rw[lU.2 m hm];exact cV (by have:sp.a4=some m:=hm;rw[this];simp)
  ·show q.av q.L (bN (.inr m));rw[Ht m (nx r q m cq (.inr hm))];exact h.eT.qF r q m cq hm (λj jW p x=>b3 j jW p (by show cg c.tok i s _ j r=_;rw[qK j r e];exact x)) λj k L g x=>jk j k L g (by show cg c.tok i s _ j r=_;rw[qK j r e];exact x)
 ·rcases hP r q Χ with⟨rfl,rfl⟩|⟨e,cq⟩
  ·show my sp.D [] (bN (.inr r));rw[lU.1];rfl
  ·show my q.D q.R (bN (.inr r));rw[Ht r (nx r q r cq (.inl rfl))];exact h.eT.nn r q cq λj jW p x=>b3 j jW p (by show cg c.tok i s _ j r=_;rw[qK j r e];exact x)
 ·obtain⟨q,p,Χ⟩:=b3;have e:=s0 j ao ζ;have Dp:c'.bC (c.home j)=c.bC (c.home j):=upd_ne _ _ e;show Knows t (c'.bC (c.home j)) (c.dP j);rw[Dp];refine h.eB.c2 j ao ζ ⟨q,p,?_⟩;have:cg c.tok i s (.par 0 0 .add) (c'.bC (c.home j)) (c.home j)=.par q p .bH:=Χ
  rwa [qK _ _ e,Dp] at this
 ·have e:=s0 j ao ζ
  have Dp:c'.bC (c.home j)=c.bC (c.home j):=upd_ne _ _ e
  show Before t (c.dP j) (c.dP (c'.bC (c.home j)))
  have cj:c'.bC (c.home j)≠0:=a
  have ag:c.rel (c'.bC (c.home j))=true:=b;rw[Dp] at cj ag ⊢;exact h.eB.c3 j ao ζ cj ag
 ·rcases hP r q Χ with⟨rfl,rfl⟩|⟨e,cq⟩
  ·obtain⟨v,hv⟩:=hy m (.inr hm);exact absurd ν (h.gm.wC i m v hv op (mem_of_getElem? ω))
  ·obtain⟨⟨k,mu,g,ο⟩,Ι⟩:=h.gm.iM r q m cq hm p op ω ν;exact⟨⟨k,mu,g,by show cg c.tok i s _ _ r=_;rw[qK _ r e];exact ο⟩,Ι⟩
 ·rw[oX];show kr P Q (upd c.T i (f (i==0,g,dw)) i) _ _ _;rw[upd_same];exact aM
 ·simp[c',dn.x,upd_ne _ _ ζ,s4 _ ζ,jX j ζ]
 ·show O' r=some o;rw[show O' r=c.O r from upd_ne _ _ (kX r o μ)];exact μ
theorem Inv.ghost (h:Inv P Q bu c gs w t) (Ω:gs[i]?=some g) (ψ:G3 (i==0) (mD P Q f) g (c.x i)):Dc P Q bu c gs w t i f:=by
 rcases ψ with⟨G',U,γ⟩|⟨b,cs,ty,U,γ⟩|⟨s,sp,ty,G',E,U,ο,Ι,ax,bf,hx⟩
 ·exact h.less Ω U γ
 ·exact h.UY Ω U rfl γ
 ·exact h.group Ω U ο Ι ax bf rfl hx
end
section
variable {P:Program} {Q:Value->Prop} {bu:World} {c c':dn} {gs:Array Goroutine} {w w':World} {t:Trace} {i:Nat} {g g':Goroutine} {es:Array Event}
theorem Inv.step (h:Inv P Q bu c gs w t) (Ω:gs[i]?=some g) (er:g.status=.running):(∃v es,i=0/\stepG P true g w=.ended (.done v) w es/\∀sl w1,Good P (λv w'=>Q v/\fV (λ_ _=>False) (λ_=>False) bu w') (crowd gs w1 sl) (.done v) w (t++MemOp.ofEvents 0 g.frame.fn g.frame.place es))\/
  ∃f,c.T i=.node f/\(iQ P Q bu c gs w t i f\/G3 (i==0) (mD P Q f) g (c.x i)):=by
 obtain⟨cN,μ,ε⟩:=h.wD i g Ω;rcases ε with rfl|⟨_,rfl,_⟩
 ·have main:CX P (i==0) g (c.x i) Q->(∃v es,i=0/\stepG P true g w=.ended (.done v) w es/\∀sl w1,Good P (λv w'=>Q v/\fV (λ_ _=>False) (λ_=>False) bu w') (crowd gs w1 sl) (.done v) w (t++MemOp.ofEvents 0 g.frame.fn g.frame.place es)):=λξ=>by
   rcases ξ with⟨ao,ξ⟩|⟨_,ξ⟩
   ·have e:i=0:=by simpa using ao
    subst e;obtain⟨v,es,U,γ⟩:=h.Mv Ω ξ none w;refine⟨v,es,rfl,U,λsl w1=>?_⟩;obtain⟨fG,es',yj,h4⟩:=h.Mv Ω ξ sl w1;rw[U] at yj;cases yj;exact h4
   ·rw[ξ.2.2.1] at er;cases er
  cases Ν:c.T i with
  | leaf=>rw[Ν] at μ;exact .inl (main μ.2)
  | node f=>
   have fI:=μ;rw[Ν] at μ;rcases μ.2 with ξ|ψ
   ·exact .inl (main ξ)
   ·refine .inr ⟨f,rfl,?_⟩;rcases ψ with ψ|⟨HB,ψ⟩
    ·exact .inl (h.quits Ω ψ)
    ·rcases ψ with ψ|ψ|ψ|ψ|ψ|ψ|ψ|ψ|ψ|ψ
     ·exact .inl (h.G8 Ω ψ)
     ·exact .inl (h.Ug Ω ψ)
     ·exact .inl (h.Uh Ω ψ)
     ·exact .inl (h.atom Ω HB fI ψ)
     ·exact .inl (h.De Ω ψ)
     ·exact .inl (h.Hp Ω ψ)
     ·exact .inl (h.Hq Ω ψ)
     ·exact .inl (h.Df Ω ψ)
     ·exact .inl (h.HA Ω ψ)
     ·exact .inr ψ
 ·cases er
theorem Inv.U4 (h:Inv P Q bu c gs w t):∀g∈gs,Go.Conc.awake g:=λg Ω=>by
 obtain⟨j,ζ⟩:=Array.mem_iff_getElem?.1 Ω;intro t' Υ;rcases h.stat ζ with e|⟨_,e,_⟩|⟨e,_⟩<;>rw[e] at Υ<;>cases Υ
theorem Inv.comes:∀(L:List (gK (Bool×Goroutine×a7))) (k:Nat) (c:dn) (kx:List Nat) (gs:Array Goroutine) (w:World) (t:Trace) (sl:Option (Nat×Nat)),kx.map c.T=L->Ord kx gs.size->ya gs=k->Inv P Q bu c gs w t->Comes P Q bu (crowd gs w sl) t:=by
 intro L
 induction L using (n8.wf (B:=Bool×Goroutine×a7)).induction with
 | _ L HC=>
  intro k
  induction k using Nat.strongRecOn with
  | _ k s8=>
   intro c kx gs w t sl ad dN ψ h;subst ad ψ;obtain⟨i,g,d,Ak,Ω,er,cD⟩:=crowd_pick (P:=P) (w:=w) (sl:=sl) h.U4 h.awake;have dh:=h.at d;have bd:i<gs.size:=nu Ω;rcases dh.step Ω er with⟨v,es,rfl,U,γ⟩|⟨f,Ν,HD⟩
   ·have μ:=runT_many_ended (sl:=Ak) Ω (by simpa using U);rw[μ] at cD;exact Comes.last cD (γ sl w)
   ·rcases HD with HD|U5
    ·obtain⟨c',rY,w',u,μ,dW,hR⟩:=HD Ak;rw[μ] at cD;refine Comes.next cD ?_;rcases hR with⟨cA,kk,rV⟩|⟨cA,kk,HE,rV⟩|⟨cA,rV,aN⟩
     ·exact HC _ (by rw[rV];exact dN.one bd Ν kk) _ c' kx rY w' _ Ak rfl (by rw[cA];exact dN) rfl dW
     ·obtain⟨C',U6,U7⟩:=dN.two bd Ν kk HE;exact HC _ (by rw[rV];exact U7) _ c' C' rY w' _ Ak rfl (by rw[cA];exact U6) rfl dW
     ·exact s8 _ aN c' kx rY w' _ Ak (by rw[rV]) (by rw[cA];exact dN) rfl dW
    ·
     obtain⟨c',dW,kk,rV⟩:=h.ghost (f:=f) Ω U5;exact HC _ (by rw[rV];exact dN.one bd Ν kk) _ c' kx gs w t sl rfl dN rfl dW
end
def Γ.mE (w:World):Γ:=
 ⟨λb o=>match w.heap[b]? with|some (.cells c _ _)=>(c[o]?).map (·,false)|_=>none,
  λb=>match w.heap[b]? with|some (.cells c t ep)=>if ep=(0,0) then some (t,c.size) else none|_=>none,λ_=>none⟩
theorem Γ.U8 (w:World):Fits (Γ.mE w) w:=by
 refine⟨λb o v p h=>?_,λb t n h=>?_,λb x h=>(by cases h)⟩
 ·simp only[Γ.mE] at h;cases hb:w.heap[b]? with
  | none=>rw[hb] at h;cases h
  | some x=>
   rw[hb] at h;cases x with
   | cells c t ep=>
    simp only at h;cases ε:c[o]? with
    | none=>rw[ε] at h;cases h
    | some fG=>rw[ε] at h;cases h;exact oN hb ε
   | _=>cases h
 ·simp only[Γ.mE] at h;cases hb:w.heap[b]? with
  | none=>rw[hb] at h;cases h
  | some x=>
   rw[hb] at h;cases x with
   | cells c t' ep=>
    simp only at h;split at h
    ·rename_i e;cases h;exact⟨c,by rw[e],rfl⟩
    ·cases h
   | _=>cases h
theorem Γ.U9 (w:World) (b o:Nat):¬(Γ.mE w).owns b o:=λ⟨v,h⟩=>by
 simp only[Γ.mE] at h;cases hb:w.heap[b]? with
 | none=>rw[hb] at h;cases h
 | some x=>
  rw[hb] at h;cases x with
  | cells c t ep=>
   simp only at h;cases ε:c[o]? with
   | none=>rw[ε] at h;cases h
   | some fG=>rw[ε] at h;cases h
  | _=>cases h
def a7.start (w:World):a7:=⟨Γ.mE w,λ_=>none,λ_=>.nil,λ_=>none,λ_=>none,0,false⟩
theorem Goes.comes {P:Program} {Q:Value->Prop} {g:Goroutine} {w:World} (h:Goes P Q true g (a7.start w)):Comes P Q w (solo g w) #[]:=by
 obtain⟨T,Ν⟩:=h;let c:dn:={H:=bV (λ_=>Γ.empty) (.inl 0) (Γ.mE w),aR:=λ_ _=>none,tok:=λ_ _=>.nil,spec:=λ_ _=>none,view:=λ_ _=>none,deaf:=λ_=>0,rel:=λ_=>false,T:=λ_=>T,O:=λ_=>none,bC:=λ_=>0,home:=λ_=>0,dP:=λ_=>0};have δ:c.x 0=a7.start w:=by simp[c,dn.x,a7.start]
 have Δ:∀k,k≠.inl 0->c.H k=Γ.empty:=λk ψ=>bW (λ_=>Γ.empty) (Γ.mE w) ψ
 have s9:c.H (.inl 0)=Γ.mE w:=dY (λ_=>Γ.empty) (.inl 0) (Γ.mE w)
 have HF:∀k b o,¬(c.H k).owns b o:=λk b o Β=>by
  by_cases e:k=.inl 0
  ·subst e;rw[s9] at Β;exact Γ.U9 w b o Β
  ·rw[Δ k e] at Β;obtain⟨v,hv⟩:=Β;cases hv
 have M6:∀k b,¬(c.H k).fx b:=λk b Β=>by
  by_cases e:k=.inl 0
  ·subst e;rw[s9] at Β;obtain⟨v,hv⟩:=Β;cases hv
  ·rw[Δ k e] at Β;obtain⟨v,hv⟩:=Β;cases hv
 have kν:∀i:Nat,(#[]:Trace)[i]?=none:=λi=>η
 have cA:(#[g]:Array Goroutine).size=1:=rfl
 have inv:Inv P Q w c #[g] w #[]:=by
  refine⟨η,⟨λk=>?_,λj b c t hb=>(by cases hb),λs o ξ=>(by cases ξ),fV.refl _ _ _⟩,
   ⟨λk l _=>⟨λb o Β=>absurd Β (HF k b o),λb o Β=>absurd Β (HF l b o),λb Β=>absurd Β (M6 k b)⟩,λk b o Β=>absurd Β (HF k b o),λk b Β=>absurd Β (M6 k b),λj b v hv=>(by cases hv),λs o b ξ=>(by cases ξ),λs bs o o' b ξ=>(by cases ξ),λs o m ξ=>(by cases ξ),λb _=>Δ _ η⟩,
   ⟨λsaid ⟨i,j,_,⟨a,b,ν,_⟩,_⟩=>(by simp[Trace.act?] at ν),λop Τ=>(by simp at Τ),λop Τ=>(by simp at Τ),λk=>⟨λb o v p _ i a ν=>(by simp[touchAt,Trace.act?] at ν),λb _ i a ν=>(by simp[touchAt,Trace.act?] at ν)⟩,λj b v hv=>(by cases hv),λs o b ξ=>(by cases ξ),λj=>rfl⟩,
   ?_,⟨λs o m ξ=>(by cases ξ),λs o ξ=>(by cases ξ)⟩,⟨λk a ψ=>(by simp[Trace.g?] at ψ),λj _ ζ=>(by cases ζ),λj _ ζ=>(by cases ζ),λj _ ζ=>(by cases ζ)⟩,⟨λs o m ξ=>(by cases ξ),λj b v hv=>(by cases hv)⟩,λj b hb=>?_⟩
  ·by_cases e:k=.inl 0
   ·subst e;rw[s9];exact Γ.U8 w
   ·rw[Δ k e];exact wy w
  ·exact⟨λs o ξ=>(by cases ξ),λs _ j=>rfl,λj s _=>rfl,λj s sp ξ=>(by cases ξ),λj s φ o ξ=>(by cases ξ),λj s k L g o ξ=>(by cases ξ),λj s m p aQ ξ=>(by cases ξ),λj s k m g ξ=>(by cases ξ),λj ao ζ=>(by rw[cA] at ζ;omega),λj k m g _ ξ=>(by cases ξ),rfl,λj s ξ=>(by cases ξ),λj s k m g o ξ=>(by cases ξ),λs j bP k m g ck g' ξ=>(by cases ξ),λs j k m g q p aQ ξ=>(by cases ξ),λs o ξ=>(by cases ξ),λs o ξ=>(by cases ξ)⟩
  ·have ζ:j=0:=by have:=nu hb;rw[cA] at this;omega
   subst ζ;simp at hb;subst hb;exact⟨g,by rw[δ];exact Ν,.inl rfl⟩
 rw[solo_eq_crowd];exact Inv.comes _ _ c [0] #[g] w #[] none rfl ⟨η,λi=>η⟩ rfl inv
end Go.TL
