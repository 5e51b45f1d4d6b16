import Derived.Test.YtlabjopijpkiaaaGreatQAD
set_option maxHeartbeats 16000000
set_option maxRecDepth 20000
set_option linter.unusedSectionVars false
set_option linter.unusedSimpArgs false
set_option linter.unusedVariables false
namespace Go.TL
open Go.Conc
open Go.ConcM (OsLater)
open Go.ConcN (sumTo upd sumTo_upd upd_ne upd_same sumTo_congr le_sumTo)
open Go.ConcR (mk)
structure vH (H:cw→ψ) (tok:Nat→Nat→Tok) (O:Nat→Option aK):Prop where
 oU:∀s o m,O s=some o→o.aQ=some m→(∀i q p,tok i s≠.par q p .bw)→(∀i k L g,tok i s≠.ch k (.c5 L) g)→o.aG o.L (H (.inr m))
 lB:∀s o,O s=some o→(∀i q p,tok i s≠.par q p .bw)→kM o.D o.ab (H (.inr s))
structure tW (n:Nat) (tok:Nat→Nat→Tok) (rel:Nat→Bool) (bs home dk:Nat→Nat) (t:Trace):Prop where
 dr:∀k g,t.g? k=some g→g<n
 c1:∀i,i≠0→rel i=true→∃op,t[dk i]?=some op∧op.g=i∧op.act=.mark (.releaseMerge ⟨home i,0,none⟩)∧t.heard (dk i)∧∀k,t.g? k=some i→t.counts k→Before t k (dk i)
 c2:∀i,i≠0→rel i=true→(∃q p,tok (bs (home i)) (home i)=.par q p .bw)→Knows t (bs (home i)) (dk i)
 c3:∀i,i≠0→rel i=true→bs (home i)≠0→rel (bs (home i))=true→Before t (dk i) (dk (bs (home i)))
structure vI (aC:Nat→Nat→Option (Array Value×TypeId)) (tok:Nat→Nat→Tok) (O:Nat→Option aK) (rel:Nat→Bool) (dk:Nat→Nat) (t:Trace):Prop where
 iv:∀s o m,O s=some o→o.aQ=some m→∀p op,t[p]?=some op→op.act=.mark (.releaseMerge ⟨m,0,none⟩)→(∃k mu g,tok op.g s=.ch k mu g)∧(rel op.g=true→Before t p (dk op.g))
 tX:∀i b v,aC i b=some v→∀op∈t,op.act≠.mark (.releaseMerge ⟨b,0,none⟩)
def Rec (P:Program) (Q:Value→Prop) (c:cS) (i:Nat) (g:Goroutine):Prop:=
 ∃cH,iT P Q (c.T i) (i==0) cH (c.x i)∧(g=cH∨(h1 cH∧g={cH with status:=.blocked}∧∃s o,c.O s=some o∧jr o (c.tok i s)∧∀bj,bj≠s→ml (c.tok i bj)))
structure Inv (P:Program) (Q:Value→Prop) (bl:World) (c:cS) (gs:Array Goroutine) (w:World) (t:Trace):Prop where
 pos:0<gs.size
 mem:gI c.H c.aC c.O bl w
 hold:hL c.H c.aC c.O bl.heap.size
 bM:h2 c.H c.aC c.tok c.O c.bs c.deaf w.heap.size t
 ba:ev gs.size c.tok c.spec c.view c.rel c.O c.bs c.home
 ed:vH c.H c.tok c.O
 dN:tW gs.size c.tok c.rel c.bs c.home c.dk t
 fN:vI c.aC c.tok c.O c.rel c.dk t
 tY:∀i g,gs[i]?=some g→Rec P Q c i g
theorem yb {t u:Trace} {k:Nat} (h:k<t.size):(t++u).counts k↔t.counts k:=by
 unfold Trace.counts;rw[act?_old h,heard_old h]
theorem tW.app {n:Nat} {tok ee:Nat→Nat→Tok} {rel:Nat→Bool} {bs home dk:Nat→Nat} {t u:Trace} (h:tW n tok rel bs home dk t) {i:Nat} (hi:i<n) (hu:∀op∈u,op.g=i)
  (η:rel i=true→∀k,t.size≤k→¬(t++u).counts k) (υ:∀s q p,(∃j,ee j s=.par q p .bw)→∃j,tok j s=.par q p .bw) (yc:∀j s q p,ee j s=.par q p .bw→tok j s=.par q p .bw):tW n ee rel bs home dk (t++u):=by
 refine⟨fun k g Τ=>?_,fun j ae ε=>?_,fun j ae ε bY=>?_,fun j ae ε R γ=>(h.c3 j ae ε R γ).app u⟩
 ·obtain⟨op,Β,gX⟩:=Option.map_eq_some_iff.1 Τ;rcases getElem?_append_cases Β with⟨_,iX⟩|⟨_,fO⟩
  ·exact h.dr k g (by simp[Trace.g?,iX,gX])
  ·rw[←gX,hu op fO];exact hi
 ·obtain⟨op,R,γ,ο,Ι,ay⟩:=h.c1 j ae ε;have χ:=lt_size_of_getElem? R;refine⟨op,by rw[getElem?_append_old χ];exact R,γ,ο,(heard_old χ).2 Ι,fun k Τ nZ=>?_⟩;obtain⟨q3,Β,gX⟩:=Option.map_eq_some_iff.1 Τ;rcases getElem?_append_cases Β with⟨aE,iX⟩|⟨hle,fO⟩
  ·exact(ay k (by simp[Trace.g?,iX,gX]) ((yb aE).1 nZ)).app u
  ·have e:j=i:=by rw[←gX,hu q3 fO]
   subst e;exact absurd nZ (η ε k hle)
 ·obtain⟨q,p,Υ⟩:=bY;exact(h.c2 j ae ε ⟨q,p,yc _ _ _ _ Υ⟩).app u
section
variable {P:Program} {Q:Value→Prop} {bl:World} {c:cS} {gs:Array Goroutine} {w:World} {t:Trace}
theorem Inv.stat (h:Inv P Q bl c gs w t) {i:Nat} {g:Goroutine} (Τ:gs[i]?=some g):g.status=.running∨(i≠0∧g.status=.finished∧c.rel i=true∧∀s,Gone (c.tok i s))∨(g.status=.blocked∧∃s o,c.O s=some o∧jr o (c.tok i s)∧∀bj,bj≠s→ml (c.tok i bj)):=by
 obtain⟨cH,κ,η⟩:=h.tY i g Τ;rcases η with rfl|⟨_,rfl,hw⟩
 ·cases Ζ:c.T i with
  | leaf=>
   rw[Ζ] at κ;rcases κ.2 with⟨_,R⟩|⟨ae,R,γ,ο,_⟩
   ·exact .inl R.1.1
   ·exact .inr (.inl ⟨by rintro rfl;simp at ae,ο,R,γ⟩)
  | node f=>
   rw[Ζ] at κ;rcases κ.2 with(⟨_,R⟩|⟨ae,R,γ,ο,_⟩)|R
   ·exact .inl R.1.1
   ·exact .inr (.inl ⟨by rintro rfl;simp at ae,ο,R,γ⟩)
   ·rcases R with⟨_,γ,_⟩|⟨γ,_⟩
    ·exact .inl γ
    ·exact .inl γ.1
 ·exact .inr (.inr ⟨rfl,hw⟩)
theorem QO {t:Tok} (h:nQ t):∃k m g,t=.ch k m g∧¬ml t∧(∀o,¬jr o t)∧m≠.done∧m≠.idle:=by
 cases t with
 | nil=>exact h.elim
 | par=>exact h.elim
 | ch k m g=>
  refine⟨k,m,g,rfl,?_⟩;cases m with
  | act b=>cases b<;>first|exact h.elim|simp[ml,jr]
  | _=>first|exact h.elim|simp[ml,jr]
theorem Inv.awake (h:Inv P Q bl c gs w t):∃(i:Nat) (g:Goroutine),gs[i]?=some g∧g.status=.running:=by
 apply Classical.byContradiction;intro QP;have hs:∀i,i<gs.size→(c.rel i=true∧∀s,Gone (c.tok i s))∨∃s o,c.O s=some o∧jr o (c.tok i s)∧∀bj,bj≠s→ml (c.tok i bj):=fun i hi=>by
  have Τ:gs[i]?=some gs[i]:=eY hi;rcases h.stat Τ with R|⟨_,_,R⟩|⟨_,R⟩
  ·exact absurd ⟨i,_,Τ,R⟩ QP
  ·exact .inl R
  ·exact .inr R
 have up:∀i s o n p,c.O s=some o→c.tok i s=.par n p .w3→o.cz=0→∃j bj o' iq eT,i<j∧j<gs.size∧c.O bj=some o'∧c.tok j bj=.par iq eT .w3∧o'.cz=0:=fun i s o n p ξ Μ ae=>by
  have bb:i<gs.size:=h.ba.lt (s:=s) (by rw[Μ];simp);obtain⟨j,ε,cg⟩:=Qv (h.ba.bf s o ξ).2 (i:=i) bb Μ ae;have lC:pV (c.tok j s):=cg;have n0:∃k m g,c.tok j s=.ch k m g∧g≠.gone:=by
   cases δ:c.tok j s with
   | nil=>rw[δ] at lC;exact lC.elim
   | par=>rw[δ] at lC;exact lC.elim
   | ch k m g=>rw[δ] at lC;exact⟨k,m,g,rfl,by rintro rfl;exact lC⟩
  obtain⟨k,m,g,δ,Τ⟩:=n0;obtain⟨_,q4,aE⟩:=h.ba.nW j s k m g δ;have hi:=h.ba.par i s n p _ Μ;rcases hs j ε with⟨_,R⟩|⟨bj,o',im,hw,eκ⟩
  ·have:=R s;rw[δ] at this;cases g<;>first|exact absurd rfl Τ|exact this.elim
  ·by_cases e:bj=s
   ·subst e;rw[ξ] at im;cases im;rw[δ] at hw;have hm:m=.q∧o.cR=0:=by cases m<;>simp_all [jr]
    obtain⟨rfl,QQ⟩:=hm;have Υ:0<aY gs.size (fun a=>c.tok a bj) kG:=by
     have:=e9 (fun a=>c.tok a bj) kG ε;simp only[δ,kG,xP] at this;omega
    obtain⟨a,μ,hb⟩:=Qs (h.ba.bf bj o ξ).1 Υ QQ;obtain⟨Ω,bW,g',g8,bI,dc,fB,lD⟩:=QO hb;have AW:c.tok a bj=.ch Ω bW g':=g8;exfalso;rcases hs a μ with⟨_,R⟩|⟨s2,ix,dI,h3,AX⟩
    ·have q5:=R bj;rw[AW] at q5;have:g'≠.work:=by rintro rfl;exact q5
     rcases h.ba.nY a bj Ω bW g' o ξ AW this with e|⟨e,_⟩
     ·exact fB e
     ·exact lD e
    ·by_cases Δ:s2=bj
     ·subst Δ;exact dc _ h3
     ·exact bI (AX bj (Ne.symm Δ))
   ·cases Ο:c.tok j bj with
    | nil=>rw[Ο] at hw;exact hw.elim
    | ch Ω bW g'=>exact absurd ((h.ba.nW j bj Ω bW g' Ο).2.1.symm.trans q4) e
    | par iq eT EN=>
     rw[Ο] at hw;cases EN<;>first|exact hw.elim|exact⟨j,bj,o',iq,eT,by omega,ε,im,Ο,hw⟩
 have top:∀d i s o n p,gs.size-i=d→i<gs.size→c.O s=some o→c.tok i s=.par n p .w3→o.cz=0→False:=fun d=>by
  induction d using Nat.strongRecOn with
  | _ d Γ=>
   intro i s o n p hd hi ξ Μ ae;obtain⟨j,bj,o',iq,eT,R,γ,ο,Ι,ay⟩:=up i s o n p ξ Μ ae;exact Γ (gs.size-j) (by omega) j bj o' iq eT rfl γ ο Ι ay
 rcases hs 0 h.pos with⟨R,_⟩|⟨s,o,ξ,hw,_⟩
 ·rw[h.ba.sn] at R;cases R
 ·cases Ο:c.tok 0 s with
  | nil=>rw[Ο] at hw;exact hw.elim
  | ch k m g=>exact(h.ba.nW 0 s k m g Ο).1 rfl
  | par n p aB=>
   rw[Ο] at hw;cases aB<;>first|exact hw.elim|exact top _ 0 s o n p rfl h.pos ξ Ο hw
theorem Rec.woken {c':cS} {i j:Nat} {g g' b:Goroutine} {w':World} (h:Rec P Q c j b) (δ:c'.x j=c.x j) (Ζ:c'.T j=c.T j)
  (hw:(mayWake P g=true∧h1 g')∨∀s o,c.O s=some o→jr o (c.tok j s)→∃o',c'.O s=some o'∧jr o' (c.tok j s)):Rec P Q c' j (Go.Conc.woken P g g' w' b):=by
 have dy:c'.tok j=c.tok j:=congrArg aR.tok δ;obtain⟨cH,κ,η⟩:=h;rcases η with rfl|⟨dD,rfl,s,o,ξ,p0,cg⟩
 ·have ξ:b.status=.running∨b.status=.finished:=by
   cases p1:c.T j with
   | leaf=>
    rw[p1] at κ;rcases κ.2 with⟨_,R⟩|⟨_,_,_,ο,_⟩
    ·exact .inl R.1.1
    ·exact .inr ο
   | node f=>
    rw[p1] at κ;rcases κ.2 with(⟨_,R⟩|⟨_,_,_,ο,_⟩)|R
    ·exact .inl R.1.1
    ·exact .inr ο
    ·rcases R with⟨_,γ,_⟩|⟨γ,_⟩
     ·exact .inl γ
     ·exact .inl γ.1
  have:Go.Conc.woken P g g' w' b=b:=by
   unfold Go.Conc.woken;split
   ·exact again_running _ ξ
   ·rfl
  rw[this];exact⟨b,by rw[δ,Ζ];exact κ,.inl rfl⟩
 ·unfold Go.Conc.woken;split
  ·rename_i AY;refine⟨cH,by rw[δ,Ζ];exact κ,.inl ?_⟩;obtain⟨r1,r2⟩:=dD;obtain⟨ao,bw,st,eμ,of⟩:=cH;simp only at r1 r2;subst r1 r2;rfl
  ·rename_i AY;rcases hw with⟨R,γ⟩|hw
   ·exfalso;apply AY;simp[R,γ.1]
   ·obtain⟨o',R,γ⟩:=hw s o ξ p0;exact⟨cH,by rw[δ,Ζ];exact κ,.inr ⟨dD,rfl,s,o',R,by rw[dy];exact γ,by rw[dy];exact cg⟩⟩
end
section
variable {P:Program} {Q:Value→Prop} {bl:World} {c:cS} {gs:Array Goroutine} {w:World} {t:Trace}
theorem Inv.at (h:Inv P Q bl c gs w t) (d:Nat):Inv P Q bl c gs (w.at d) t:=⟨h.pos,h.mem.at d,h.hold,h.bM,h.ba,h.ed,h.dN,h.fN,h.tY⟩
theorem Inv.gone (h:Inv P Q bl c gs w t) (ae:∀s,fC (c.tok 0 s)):∀j,j≠0→j<gs.size→c.rel j=true∧(∀s,Gone (c.tok j s))∧Knows t 0 (c.dk j):=by
 have QR:∀t:Tok,fC t→Gone t:=fun t Μ=>by cases t with
  | nil=>trivial
  | par _ _ aB=>cases aB<;>first|exact Μ.elim|trivial
  | ch=>exact Μ.elim
 intro j
 induction j using Nat.strongRecOn with
 | _ j Γ=>
  intro fi eI;obtain⟨k,m,g,Μ⟩:=h.ba.q1 j fi eI;obtain⟨_,_,aE⟩:=h.ba.nW j _ k m g Μ;cases Β:c.O (c.home j) with
  | none=>have:=h.ba.bare _ Β j;rw[Μ] at this;cases this
  | some o=>
  have Η:=h.ba.bf _ o Β;obtain⟨i0,kO,χ⟩:=AH (φ:=eC) (N:=gs.size) (τ:=fun a=>c.tok a (c.home j)) (by rw[Η.2.m1];exact Nat.one_pos);have yc:∃q p aB,c.tok i0 (c.home j)=.par q p aB:=by
   cases δ:c.tok i0 (c.home j) with
   | par q p aB=>exact⟨q,p,aB,rfl⟩
   | nil=>simp[δ,eC] at χ
   | ch=>simp[δ,eC] at χ
  obtain⟨q,p,aB,δ⟩:=yc;have cA:=h.ba.par i0 _ q p aB δ;subst cA;have bY:aB=.bw∧(c.bs (c.home j)≠0→c.rel (c.bs (c.home j))=true∧Knows t 0 (c.dk (c.bs (c.home j)))):=by
   by_cases e:c.bs (c.home j)=0
   ·have:=ae (c.home j);rw[←e,δ] at this;refine⟨by cases aB<;>first|exact this.elim|rfl,fun x=>absurd e x⟩
   ·obtain⟨r1,r2,r3⟩:=Γ _ aE e kO;have:=r2 (c.home j);rw[δ] at this;exact⟨by cases aB<;>first|exact this.elim|rfl,fun _=>⟨r1,r3⟩⟩
  obtain⟨rfl,fF⟩:=bY;have sx:aY gs.size (fun a=>c.tok a (c.home j)) hK=1:=by
   rw[oQ (φ:=hK) (fun t Μ=>by cases t<;>simp_all [eC,hK]) Η.2.m1 kO (by rw[δ];rfl),δ];rfl
  obtain⟨f1,f2,f3,f4,f5,f6⟩:=Η.2.Jl sx;have AZ:=Η.2.Et;have l1:=e9 (fun a=>c.tok a (c.home j)) ir eI;have l2:=e9 (fun a=>c.tok a (c.home j)) jo eI;have nN:=e9 (fun a=>c.tok a (c.home j)) jq eI;simp only[Μ,ir,jo,jq] at l1 l2 nN;have Τ:g=.gone:=by
   cases g with
   | gone=>rfl
   | work=>simp only[qY] at l1;omega
   | rel=>simp only[qY] at l1;omega
   | l2=>simp only[tD] at l2;omega
   | g9=>simp only[tE] at nN;omega
  subst Τ;have dQ:c.rel j=true:=(h.ba.gJ j k m _ fi Μ).2 (by simp);refine⟨dQ,fun s=>?_,?_⟩
  ·by_cases e:s=c.home j
   ·subst e;rw[Μ];trivial
   ·exact QR _ (h.ba.nX j s dQ e)
  ·have υ:=h.dN.c2 j fi dQ ⟨q,p,δ⟩;by_cases e:c.bs (c.home j)=0
   ·rw[e] at υ;exact υ
   ·obtain⟨r1,r2⟩:=fF e;exact Knows.of_before (h.dN.c3 j fi dQ e r1) r2
theorem QS {o:aK} {x:Tok} (h:Gone x) (R:∀k m g,x=.ch k m g→m≠.q):¬jr o x:=by
 cases x with
 | nil=>exact id
 | par _ _ aB=>cases aB<;>first|exact h.elim|exact id
 | ch k m g=>cases m<;>first|exact absurd rfl (R _ _ _ rfl)|exact id
theorem Inv.JX (h:Inv P Q bl c gs w t) {g:Goroutine} (Τ:gs[0]?=some g) (ξ:JC P g (c.x 0) Q) (sl:Option (Nat×Nat)) (w1:World) :
  ∃v es,stepG P true g w=.ended (.done v) w es∧Good P (fun v w'=>Q v∧fe (fun _ _=>False) (fun _=>False) bl w') (crowd gs w1 sl) (.done v) w (t++MemOp.ofEvents 0 g.frame.fn g.frame.place es):=by
 obtain⟨_,cM,hd,sx⟩:=ξ;obtain⟨v,es,R,γ,ο⟩:=sx w (h.mem.fit (.inl 0));refine⟨v,es,R,v,rfl,⟨ο,h.mem.keep⟩,?_⟩;have tZ:=h.gone cM;have JY:=h.bM.own (w':=w) h.mem h.hold 0 (G':=c.H (.inl 0)) (V':=c.aC 0) (es:=es) (fn:=g.frame.fn) (pos:=g.frame.place) (Nat.le_refl _)
  ⟨fun b o v p η=>.inr ⟨v,p,η,id⟩,fun b hb=>.inr hb⟩ (fun b x δ=>.inl δ) γ (fun b x δ hle=>by
   have:=ff (h.mem.ly 0 b x.1 x.2 δ);omega)
 have quit:∀j x,j≠0→gs[j]?=some x→∃n,QuitsD P n (c.deaf j) x:=fun j x ε δ=>by
  have eI:=(Array.getElem?_eq_some_iff.1 δ).1;obtain⟨r1,r2,_⟩:=tZ j ε eI;obtain⟨cH,κ,η⟩:=h.tY j x δ;have Υ:∃n,QuitsD P n (c.deaf j) cH:=by
   cases Ζ:c.T j with
   | leaf=>rw[Ζ] at κ;exact κ.1 r1 r2
   | node f=>rw[Ζ] at κ;exact κ.1 r1 r2
  rcases η with rfl|⟨_,_,s,o,ξ,hw,_⟩
  ·exact Υ
  ·refine absurd hw (QS (r2 s) fun k m g e hm=>?_);subst hm;have p5:g≠.work:=by rintro rfl;have:=r2 s;rw[e] at this;exact this
   rcases h.ba.nY j s k _ g o ξ e p5 with x|⟨x,_⟩<;>cases x
 refine⟨JY.race,fun k g' υ bu η=>?_,⟨fun x δ=>?_,rfl⟩,fun j x δ ε=>?_⟩
 ·obtain⟨op,Β,gX⟩:=Option.map_eq_some_iff.1 υ;rcases getElem?_append_cases Β with⟨aE,iX⟩|⟨_,fO⟩
  ·have gY:t.g? k=some g':=by simp[Trace.g?,iX,gX]
   have QT:=h.dN.dr k g' gY;obtain⟨r1,_,r3⟩:=tZ g' bu QT;obtain⟨q3,Ε,Δ,a4,cu,eR⟩:=h.dN.c1 g' bu r1;obtain⟨q,z,yd,sy,EW⟩:=Knows.of_before (eR k gY ((yb aE).1 η)) r3;refine⟨q,by simp[Trace.g?,getElem?_append_old (lt_size_of_getElem? yd),yd,sy],?_⟩;rcases EW with rfl|EW
   ·exfalso;simp[Trace.g?,yd,sy] at gY;exact bu gY.symm
   ·exact hb_app _ EW
  ·obtain⟨e,_,rfl⟩:=Go.Conc.mem_ofEvents fO;exact absurd gX.symm bu
 ·obtain⟨j,ε⟩:=List.mem_iff_getElem?.1 δ;rw[List.getElem?_drop] at ε;obtain⟨n,Υ⟩:=quit (1+j) x (by omega) (by simpa[crowd] using ε);exact⟨n,Υ.leaves⟩
 ·obtain⟨n,Υ⟩:=quit j x ε δ;refine⟨n,?_⟩;have e:(t++MemOp.ofEvents 0 g.frame.fn g.frame.place es).deaf j (t++MemOp.ofEvents 0 g.frame.fn g.frame.place es).size=c.deaf j:=JY.hears j;rw[e];exact Υ.hears _
def Comes (P:Program) (Q:Value→Prop) (bl:World) (m:Machine) (t:Trace):Prop:=
 ∃N last o w' t',runNT P (N+1) m t=(.ended o w',t')∧runN P N m=.next last∧step P last=.ended o w'∧Good P (fun v w'=>Q v∧fe (fun _ _=>False) (fun _=>False) bl w') last o w' t'
theorem Comes.next {m bW:Machine} {u:Trace} (ξ:stepT P m=(.next bW,u)) (h:Comes P Q bl bW (t++u)):Comes P Q bl m t:=by
 obtain⟨n,last,o,w,t',R,γ,ο,Ι⟩:=h;exact⟨n+1,last,o,w,t',by rw[runNT_succ_next ξ];exact R,by rw[runN_succ_next ξ];exact γ,ο,Ι⟩
theorem Comes.last {m:Machine} {u:Trace} {o:Outcome} {w:World} (ξ:stepT P m=(.ended o w,u)) (Τ:Good P (fun v w'=>Q v∧fe (fun _ _=>False) (fun _=>False) bl w') m o w (t++u)):Comes P Q bl m t:=
 ⟨0,m,o,w,t++u,by simp[runNT,ξ],rfl,by simp[step,ξ],Τ⟩
def vJ (gs:Array Goroutine):Nat:=(gs.toList.filter fun g=>decide (g.status=.running)).length
structure Ord (iY:List Nat) (n:Nat):Prop where
 nodup:iY.Nodup
 mem:∀i,i∈iY↔i<n
theorem Ord.part {iY:List Nat} {n i:Nat} (h:Ord iY n) (hi:i<n):∃a b,iY=a++i::b∧i∉a∧i∉b:=by
 obtain⟨a,b,rfl⟩:=List.append_of_mem ((h.mem i).2 hi);have:=h.nodup;rw[List.nodup_append] at this;obtain⟨_,γ,ο⟩:=this;rw[List.nodup_cons] at γ;exact⟨a,b,rfl,fun μ=>ο i μ i (by simp) rfl,γ.1⟩
theorem vK {B:Type} {T:Nat→B} {i:Nat} {x:B} {l:List Nat} (h:i∉l):l.map (upd T i x)=l.map T:=by
 apply List.map_congr_left;intro j ε;exact upd_ne _ _ (fun e=>h (e▸ε))
theorem Ord.one {B:Type} {iY:List Nat} {n i:Nat} (h:Ord iY n) (hi:i<n) {T:Nat→fL B} {f:B→fL B} (Ζ:T i=.node f) (k:B):mh (iY.map (upd T i (f k))) (iY.map T):=by
 obtain⟨a,b,rfl,μ,hb⟩:=h.part hi;simp only[List.map_append,List.map_cons,vK μ,vK hb,upd_same,Ζ];exact .one _ _ _ _
theorem Ord.two {B:Type} {iY:List Nat} {n i:Nat} (h:Ord iY n) (hi:i<n) {T:Nat→fL B} {f:B→fL B} (Ζ:T i=.node f) (k Ω:B) :
  ∃A0,Ord A0 (n+1)∧mh (A0.map (upd (upd T i (f k)) n (f Ω))) (iY.map T):=by
 have m4:n∉iY:=fun δ=>by have:=(h.mem n).1 δ;omega
 obtain⟨a,b,rfl,μ,hb⟩:=h.part hi;have lE:n∉a:=fun δ=>m4 (by simp[δ]);have JZ:n∉b:=fun δ=>m4 (by simp[δ]);refine⟨a++i::n::b,⟨?_,fun j=>?_⟩,?_⟩
 ·have:=h.nodup;rw[List.nodup_append] at this ⊢;obtain⟨R,γ,ο⟩:=this;rw[List.nodup_cons] at γ;refine⟨R,?_,fun x δ y Ο=>?_⟩
  ·rw[List.nodup_cons,List.nodup_cons];exact⟨by simp;exact⟨by omega,γ.1⟩,JZ,γ.2⟩
  ·simp at Ο;rcases Ο with rfl|rfl|Ο
   ·exact ο x δ _ (by simp)
   ·rintro rfl;exact lE δ
   ·exact ο x δ y (by simp[Ο])
 ·have:=h.mem j;simp only[List.mem_append,List.mem_cons] at this ⊢;constructor
  ·rintro(δ|rfl|rfl|δ)
   ·have:=this.1 (.inl δ);omega
   ·omega
   ·omega
   ·have:=this.1 (.inr (.inr δ));omega
  ·intro δ;by_cases e:j=n
   ·exact .inr (.inr (.inl e))
   ·rcases this.2 (by omega) with δ|rfl|δ
    ·exact .inl δ
    ·exact .inr (.inl rfl)
    ·exact .inr (.inr (.inr δ))
 ·have bb:i≠n:=by omega
  simp only[List.map_append,List.map_cons,vK lE,vK JZ,vK μ,vK hb,upd_same,upd_ne _ _ bb,Ζ];exact .two _ _ _ _ _
end
theorem A1 {B:Type} {f:Nat→B} {k:Nat} {x:B} (h:f k=x):upd f k x=f:=by
 funext j
 by_cases e:j=k
 ·subst e;rw[upd_same,h]
 ·rw[upd_ne _ _ e]
theorem h4 (H:cw→ψ) (i:Nat) (G:ψ) (b:Nat):bF H (.inl i) G (.inr b)=H (.inr b):=bG H G (by simp)
theorem ua (tok:Nat→Nat→Tok) (i s:Nat) (t:Tok):bT tok i s t i=upd (tok i) s t:=by unfold bT;rw[upd_same]
theorem q6 {tok:Nat→Nat→Tok} {i s j:Nat} (t:Tok) (h:j≠i):bT tok i s t j=tok j:=by unfold bT;rw[upd_ne _ _ h]
theorem lF {B:Type} {a:Array B} {k:Nat} {x:B} (h:a[k]?=some x):k<a.size:=(Array.getElem?_eq_some_iff.1 h).1
theorem ofEvents_g {i:Nat} {fn:FuncId} {pos:String} {es:Array Event}:∀op∈MemOp.ofEvents i fn pos es,op.g=i:=fun op Κ=>by obtain⟨e,_,rfl⟩:=Go.Conc.mem_ofEvents Κ;rfl
theorem J0 {i:Nat} {fn:FuncId} {pos:String}:MemOp.ofEvents i fn pos #[]=#[]:=by rw[ofEvents_eq];simp
theorem QU (t:Trace) (i:Nat) (fn:FuncId) (pos:String) (es:Array Event) {j:Nat} (ε:j≤es.size):(t++MemOp.ofEvents i fn pos es).deaf i (t.size+j)=deafBehind (Deaf t i) (es.extract 0 j):=by
 have e:t++MemOp.ofEvents i fn pos es=(t++MemOp.ofEvents i fn pos (es.extract 0 j))++MemOp.ofEvents i fn pos (es.extract j es.size):=by
  rw[Array.append_assoc];congr 1;rw[ofEvents_eq,ofEvents_eq,ofEvents_eq,←Array.map_append];congr 1;simp only[Array.extract_append_extract];rw[show max j es.size=es.size by omega];simp
 have cd:(t++MemOp.ofEvents i fn pos (es.extract 0 j)).size=t.size+j:=by rw[Array.size_append,ofEvents_eq];simp;omega
 rw[e,deaf_old (by omega),←cd];exact Deaf_own t i fn pos _
theorem EX {t u:Trace} {k:Nat} (υ:t.size≤k) (η:(t++u).counts k):∃op,u[k-t.size]?=some op∧(t++u)[k]?=some op∧∃x,op.act.touch?=some x∧x.loc.isMemory=true∧(x.kind≠.atomic∨(t++u).heard k):=by
 obtain⟨x,R,γ,ο⟩:=η;obtain⟨op,Β,δ⟩:=touch_of (t:=t++u) (i:=k) R;exact⟨op,by rw[Array.getElem?_append_right υ] at Β;exact Β,Β,x,δ,γ,ο⟩
theorem vL {t u:Trace} (h:∀op∈u,op.act.touch?=none):∀k,t.size≤k→¬(t++u).counts k:=fun k υ η=>by
 obtain⟨op,R,_,x,ο,_⟩:=EX υ η;rw[h op (mem_of_getElem? R)] at ο;cases ο
theorem QV {t:Trace} {i:Nat} {fn:FuncId} {pos:String} {es:Array Event} (h:∀e∈es,AK e):∀k,t.size≤k→¬(t++MemOp.ofEvents i fn pos es).counts k:=fun k υ η=>by
 obtain⟨op,R,_,x,ο,Ι,_⟩:=EX υ η;obtain⟨e,he,rfl⟩:=Go.Conc.mem_ofEvents (mem_of_getElem? R);obtain⟨loc,wr,nT⟩:=e;rcases h _ he with ω|ω<;>simp only at ω<;>subst ω<;>simp[MemAct.ofEvent,MemAct.touch?] at ο;subst ο;simp[Loc.isMemory] at Ι
theorem A2 {s d i:Nat} {sp:Spec} {es:Array Event} {fn:FuncId} {pos:String} (h:nR s sp d es) {op:MemOp} (Β:op∈MemOp.ofEvents i fn pos es) :
  (op.act=.mark .disable∨op.act=.mark .enable)∨∃b off wr,op.act=.access ⟨.cell ⟨b,off,none⟩,wr,true⟩∧dW s sp b:=by
 obtain⟨e,he,rfl⟩:=Go.Conc.mem_ofEvents Β;obtain⟨j,ε⟩:=Array.mem_iff_getElem?.1 he;obtain⟨loc,wr,nT⟩:=e;rcases h.2 j _ ε with ω|ω|⟨b,off,QW,ω,hb,_⟩
 ·simp only at ω;subst ω;exact .inl (.inl rfl)
 ·simp only at ω;subst ω;exact .inl (.inr rfl)
 ·cases ω;exact .inr ⟨b,off,_,rfl,hb⟩
theorem QX {t:Trace} {s i:Nat} {sp:Spec} {fn:FuncId} {pos:String} {es:Array Event} (h:nR s sp (Deaf t i) es):∀k,t.size≤k→¬(t++MemOp.ofEvents i fn pos es).counts k:=fun k υ η=>by
 obtain⟨op,R,γ,x,ο,Ι,ay⟩:=EX υ η;rw[ofEvents_eq,Array.getElem?_map] at R;obtain⟨e,he,rfl⟩:=Option.map_eq_some_iff.1 R;have aE:k-t.size<es.size:=lF he;obtain⟨loc,wr,nT⟩:=e;rcases h.2 _ _ he with ω|ω|⟨b,off,QW,ω,hb,hd⟩
 ·simp only at ω;subst ω;simp[MemAct.ofEvent,MemAct.touch?] at ο
 ·simp only at ω;subst ω;simp[MemAct.ofEvent,MemAct.touch?] at ο
 ·cases ω;simp[MemAct.ofEvent,MemAct.touch?] at ο;subst ο;rcases ay with ay|⟨g,Τ,Ν⟩
  ·exact ay rfl
  ·simp[Trace.g?,γ] at Τ;subst Τ;have:=QU t i fn pos es (Nat.le_of_lt aE);rw[show t.size+(k-t.size)=k by omega] at this;rw[this] at Ν;omega
section
variable {P:Program} {Q:Value→Prop} {bl:World} {c c':cS} {gs:Array Goroutine} {w w':World} {t:Trace} {i:Nat} {g g':Goroutine} {es:Array Event}
theorem Inv.low (h:Inv P Q bl c gs w t) {s b:Nat} {o:aK} (ξ:c.O s=some o) (hb:dW s o.toSpec b):b<w.heap.size:=by
 obtain⟨⟨ty,R⟩,γ⟩:=h.mem.ft s o ξ;rcases hb with rfl|hb
 ·exact ff R
 ·obtain⟨iS,ο⟩:=γ b hb;exact ff ο
theorem Inv.obj (h:Inv P Q bl c gs w t) {s:Nat} (Μ:c.tok i s≠.nil):∃o,c.O s=some o:=by
 cases ξ:c.O s with
 | none=>exact absurd (h.ba.bare s ξ i) Μ
 | some o=>exact⟨o,rfl⟩
theorem h2.grow {H:cw→ψ} {aC:Nat→Nat→Option (Array Value×TypeId)} {tok:Nat→Nat→Tok} {O:Nat→Option aK} {bs deaf:Nat→Nat} {N eJ:Nat} (h:h2 H aC tok O bs deaf N t) (cm:N≤eJ):h2 H aC tok O bs deaf eJ t:=
 ⟨h.race,fun op Κ=>MemAct.low_mono cm (h.low op Κ),h.norel,h.perms,h.nS,h.cont,h.hears⟩
theorem vI.app {aC oV:Nat→Nat→Option (Array Value×TypeId)} {tok ee:Nat→Nat→Tok} {O O':Nat→Option aK} {rel:Nat→Bool} {dk:Nat→Nat} {u:Trace} {N:Nat} (h:vI aC tok O rel dk t) (sm:∀op∈t,op.act.low N)
  (hu:∀op∈u,∀b,op.act≠.mark (.releaseMerge ⟨b,0,none⟩)) (hv:∀j b v,oV j b=some v→(∃eZ,aC j b=some eZ)∨N≤b) (cN:∀s o',O' s=some o'→∃o,O s=some o∧o.aQ=o'.aQ)
  (Μ:∀j s k mu g,tok j s=.ch k mu g→∃k mu g,ee j s=.ch k mu g):vI oV ee O' rel dk (t++u):=by
 refine⟨fun s o' m ξ hm p op χ Β=>?_,fun j b v hb op Κ Β=>?_⟩
 ·obtain⟨o,R,γ⟩:=cN s o' ξ;rcases getElem?_append_cases χ with⟨_,fP⟩|⟨_,fO⟩
  ·obtain⟨⟨k,mu,g,ο⟩,Ι⟩:=h.iv s o m R (by rw[γ];exact hm) p op fP Β;exact⟨Μ _ _ _ _ _ ο,fun κ=>(Ι κ).app u⟩
  ·exact absurd Β (hu op fO m)
 ·rcases Array.mem_append.1 Κ with j4|j4
  ·rcases hv j b v hb with⟨eZ,kP⟩|hle
   ·exact h.tX j b eZ kP op j4 Β
   ·have:=sm op j4;rw[Β] at this;simp only[MemAct.low] at this;omega
  ·exact hu op j4 b Β
theorem vH.ye {H H':cw→ψ} {tok:Nat→Nat→Tok} {O:Nat→Option aK} (h:vH H tok O) (Α:∀b,H' (.inr b)=H (.inr b)):vH H' tok O:=
 ⟨fun s o m a b d e=>by rw[Α];exact h.oU s o m a b d e,fun s o a b=>by rw[Α];exact h.lB s o a b⟩
theorem Inv.laid (h:Inv P Q bl c gs w t) (Τ:gs[i]?=some g) {u:Trace}
  (mem:gI c'.H c'.aC c'.O bl w') (hold:hL c'.H c'.aC c'.O bl.heap.size) (bM:h2 c'.H c'.aC c'.tok c'.O c'.bs c'.deaf w'.heap.size (t++u))
  (ba:ev gs.size c'.tok c'.spec c'.view c'.rel c'.O c'.bs c'.home) (ed:vH c'.H c'.tok c'.O) (dN:tW gs.size c'.tok c'.rel c'.bs c'.home c'.dk (t++u)) (fN:vI c'.aC c'.tok c'.O c'.rel c'.dk (t++u))
  (EY:Rec P Q c' i g') (δ:∀j,j≠i→c'.x j=c.x j∧c'.T j=c.T j)
  (hw:(mayWake P g=true∧h1 g')∨∀j s o,j≠i→c.O s=some o→jr o (c.tok j s)→∃o',c'.O s=some o'∧jr o' (c.tok j s)) :
  Inv P Q bl c' ((gs.map (woken P g g' w')).setIfInBounds i g') w' (t++u):=by
 have cd:((gs.map (woken P g g' w')).setIfInBounds i g').size=gs.size:=by simp
 have bb:i<gs.size:=lF Τ;refine⟨by rw[cd];exact h.pos,mem,hold,bM,by rw[cd];exact ba,ed,by rw[cd];exact dN,fN,fun j b hb=>?_⟩;by_cases e:j=i
 ·subst e;rw[Array.getElem?_setIfInBounds_self_of_lt (by simpa using bb)] at hb;cases hb;exact EY
 ·rw[Array.getElem?_setIfInBounds_ne (Ne.symm e),Array.getElem?_map] at hb;obtain⟨cU,R,rfl⟩:=Option.map_eq_some_iff.1 hb;exact(h.tY j cU R).woken (i:=0) (δ j e).1 (δ j e).2 (hw.imp id fun hw s o ξ p0=>hw j s o e ξ p0)
def ht (P:Program) (Q:Value→Prop) (bl:World) (c:cS) (gs:Array Goroutine) (w:World) (t:Trace) (i:Nat) (f:Bool×Goroutine×aR→fL (Bool×Goroutine×aR)):Prop:=
 ∀sl,∃c' p6 w' u,runT P (crowd gs w sl) i=(.next (crowd p6 w' sl),u)∧Inv P Q bl c' p6 w' (t++u)∧
  ((p6.size=gs.size∧∃k,c'.T=upd c.T i (f k))∨(p6.size=gs.size+1∧∃k Ω,c'.T=upd (upd c.T i (f k)) gs.size (f Ω))∨(p6.size=gs.size∧c'.T=c.T∧vJ p6<vJ gs))
def A3 (P:Program) (Q:Value→Prop) (bl:World) (c:cS) (gs:Array Goroutine) (w:World) (t:Trace) (i:Nat) (f:Bool×Goroutine×aR→fL (Bool×Goroutine×aR)):Prop:=
 ∃c',Inv P Q bl c' gs w t∧∃k,c'.T=upd c.T i (f k)
abbrev kQ (P:Program) (Q:Value→Prop) (f:Bool×Goroutine×aR→fL (Bool×Goroutine×aR)):xY:=fun tN g' cZ=>iT P Q (f (tN,g',cZ)) tN g' cZ
theorem ht.go {f:Bool×Goroutine×aR→fL (Bool×Goroutine×aR)} (Τ:gs[i]?=some g) (ξ:stepG P (i==0) g w=.go g' w' es)
  (h:Inv P Q bl c' ((gs.map (woken P g g' w')).setIfInBounds i g') w' (t++MemOp.ofEvents i g.frame.fn g.frame.place es)) (k:Bool×Goroutine×aR) (Ζ:c'.T=upd c.T i (f k)):ht P Q bl c gs w t i f:=
 fun _=>⟨c',_,w',_,runT_crowd_go Τ ξ,h,.inl ⟨by simp,k,Ζ⟩⟩
variable {f:Bool×Goroutine×aR→fL (Bool×Goroutine×aR)}
theorem Inv.EJ (h:Inv P Q bl c gs w t) (Τ:gs[i]?=some g) (υ:Jt P (i==0) (kQ P Q f) g (c.x i)):ht P Q bl c gs w t i f:=by
 have hw:=υ w (h.mem.fit (.inl i)) (h.mem.ly i);cases ξ:stepG P (i==0) g w with
 | go g' w' es=>
  rw[ξ] at hw;obtain⟨G',V',κ,sz,Ρ,bR,sA,pW,fD,EK,a8⟩:=hw;have bb:i<gs.size:=lF Τ;have J1:∀e∈es,gT (c.H (.inl i)) w.heap.size w'.heap.size e:=fun e he=>by
   have:=fD e he;split at this
   ·exact this.EJ
   ·exact this
  have δ:∀j,j≠i→({c with H:=bF c.H (.inl i) G',aC:=upd c.aC i V',T:=upd c.T i (f (i==0,g',{c.x i with G:=G',aC:=V'}))}:cS).x j=c.x j:=fun j ε=>by
   have:(Sum.inl j:cw)≠.inl i:=fun e=>ε (by cases e;rfl);simp[cS.x,bG _ _ this,upd_ne _ _ ε]
  refine ht.go (c':={c with H:=bF c.H (.inl i) G',aC:=upd c.aC i V',T:=upd c.T i (f (i==0,g',{c.x i with G:=G',aC:=V'}))}) Τ ξ ?_ _ rfl;refine h.laid Τ (h.mem.own h.hold i sz Ρ bR rfl) (h.hold.own h.mem h.mem.keep.size i sA pW) (h.bM.own h.mem h.hold i sz.size sA pW J1 EK) h.ba ?_ ?_ ?_ ?_ (fun j ε=>⟨δ j ε,upd_ne _ _ ε⟩) (.inr fun j s o _ a b=>⟨o,a,b⟩)
  ·exact h.ed.ye fun b=>h4 c.H i G' b
  ·refine h.dN.app bb ofEvents_g (fun dQ=>QV fun e he=>?_) (fun _ _ _ x=>x) (fun _ _ _ _ x=>x);have:=fD e he;have e2:(c.x i).rel=true:=dQ;simpa only[e2,if_true] using this
  ·refine h.fN.app h.bM.low (fun op Κ b hb=>?_) (fun j b v hv=>?_) (fun s o' ξ=>⟨o',ξ,rfl⟩) (fun j s k mu g e=>⟨k,mu,g,e⟩)
   ·obtain⟨e,he,rfl⟩:=Go.Conc.mem_ofEvents Κ;have dm:=J1 e he;obtain⟨loc,wr,nT⟩:=e;cases loc with
    | mark m=>simp only[gT] at dm;subst dm;simp[MemAct.ofEvent] at hb
    | obj r=>cases wr<;>cases nT<;>simp[MemAct.ofEvent] at hb
    | _=>simp[MemAct.ofEvent] at hb
   ·replace hv:upd c.aC i V' j b=some v:=hv
    by_cases ε:j=i
    ·subst ε;rw[upd_same] at hv;exact(pW b v hv).imp (fun x=>⟨v,x⟩) (fun x=>x.1)
    ·rw[upd_ne _ _ ε] at hv;exact .inl ⟨v,hv⟩
  ·refine⟨g',?_,.inl rfl⟩;have e:({c with H:=bF c.H (.inl i) G',aC:=upd c.aC i V',T:=upd c.T i (f (i==0,g',{c.x i with G:=G',aC:=V'}))}:cS).x i={c.x i with G:=G',aC:=V'}:=by
    simp[cS.x,upd_same]
   rw[e];show iT P Q (upd c.T i (f (i==0,g',{c.x i with G:=G',aC:=V'})) i) _ _ _;rw[upd_same];exact a8
 | _=>rw[ξ] at hw;exact hw.elim
theorem gI.ye {H:cw→ψ} {aC:Nat→Nat→Option (Array Value×TypeId)} {O O':Nat→Option aK} (h:gI H aC O bl w) (e:O'=O):gI H aC O' bl w:=e▸h
theorem Inv.marked (h:Inv P Q bl c gs w t) (Τ:gs[i]?=some g) {m:Mark} (hm:m=.disable∨m=.enable) {d:Nat} (hd:d=deafBehind (c.deaf i) #[Go.ConcR.mk m]) (ξ:stepG P (i==0) g w=.go g' w #[Go.ConcR.mk m])
  (a8:kQ P Q f (i==0) g' {c.x i with deaf:=d}):ht P Q bl c gs w t i f:=by
 have bb:i<gs.size:=lF Τ
 have nt:∀op∈MemOp.ofEvents i g.frame.fn g.frame.place #[Go.ConcR.mk m],op.act.touch?=none:=fun op Κ=>by
  obtain⟨e,he,rfl⟩:=Go.Conc.mem_ofEvents Κ;simp at he;subst he;rcases hm with rfl|rfl<;>rfl
 have lE:∀op∈MemOp.ofEvents i g.frame.fn g.frame.place #[Go.ConcR.mk m],op.act=.mark .disable∨op.act=.mark .enable:=fun op Κ=>by
  obtain⟨e,he,rfl⟩:=Go.Conc.mem_ofEvents Κ;simp at he;subst he;rcases hm with rfl|rfl
  ·exact .inl rfl
  ·exact .inr rfl
 refine ht.go (c':={c with deaf:=upd c.deaf i d,T:=upd c.T i (f (i==0,g',{c.x i with deaf:=d}))}) Τ ξ ?_ _ rfl;refine h.laid Τ h.mem h.hold ?_ h.ba h.ed ?_ ?_ ⟨g',?_,.inl rfl⟩ (fun j ε=>⟨by simp[cS.x,upd_ne _ _ ε],upd_ne _ _ ε⟩) (.inr fun j s o _ a b=>⟨o,a,b⟩)
 ·refine h.bM.ext h.hold i ofEvents_g (fun op Κ=>?_) (fun op Κ a μ=>?_) (fun op Κ b hb=>?_) (fun j=>?_)
  ·rcases lE op Κ with e|e<;>rw[e]<;>trivial
  ·rcases lE op Κ with e|e<;>rw[e] at μ<;>cases μ
  ·rw[nt op Κ] at hb;cases hb
  ·by_cases e:j=i
   ·subst e;rw[Deaf_own,h.bM.hears,hd];exact(upd_same ..).symm
   ·rw[Deaf_other t (Ne.symm e) _ ofEvents_g,h.bM.hears];exact(upd_ne _ _ e).symm
 ·exact h.dN.app bb ofEvents_g (fun _=>vL nt) (fun _ _ _ x=>x) (fun _ _ _ _ x=>x)
 ·refine h.fN.app h.bM.low (fun op Κ b hb=>?_) (fun j b v hv=>.inl ⟨v,hv⟩) (fun s o' ξ=>⟨o',ξ,rfl⟩) (fun j s k mu g e=>⟨k,mu,g,e⟩);rcases lE op Κ with e|e<;>rw[e] at hb<;>cases hb
 ·have e:({c with deaf:=upd c.deaf i d,T:=upd c.T i (f (i==0,g',{c.x i with deaf:=d}))}:cS).x i={c.x i with deaf:=d}:=by
   simp[cS.x,upd_same]
  rw[e];show iT P Q (upd c.T i (f (i==0,g',{c.x i with deaf:=d})) i) _ _ _;rw[upd_same];exact a8
theorem Inv.QY (h:Inv P Q bl c gs w t) (Τ:gs[i]?=some g) (υ:Ju P (i==0) (kQ P Q f) g (c.x i)):ht P Q bl c gs w t i f:=by
 obtain⟨g',_,υ|⟨_,υ⟩⟩:=υ
 ·obtain⟨R,γ⟩:=υ w (h.mem.fit (.inl i));exact h.marked Τ (.inl rfl) (by rfl) R γ
 ·obtain⟨R,γ⟩:=υ w (h.mem.fit (.inl i));exact h.marked Τ (.inr rfl) (by rfl) R γ
theorem Inv.QZ (h:Inv P Q bl c gs w t) (Τ:gs[i]?=some g) (υ:Jv P (i==0) (kQ P Q f) g (c.x i)):ht P Q bl c gs w t i f:=by
 obtain⟨s,n,p,aB,g',off,wr,R,γ,gV,ο,Ι⟩:=υ;have bb:i<gs.size:=lF Τ;obtain⟨ξ,a8⟩:=Ι w (h.mem.fit (.inl i));have dy:c.tok i s=.par n p aB:=R;obtain⟨o,Β⟩:=h.obj (i:=i) (s:=s) (by rw[dy];simp);have dQ:c.rel i=false:=gV;have lE:∀op∈MemOp.ofEvents i g.frame.fn g.frame.place #[Go.ConcR.mk (if wr then .write ⟨s,off,none⟩ else .read ⟨s,off,none⟩)],op.act=.mark (if wr then .write ⟨s,off,none⟩ else .read ⟨s,off,none⟩):=fun op Κ=>by
  obtain⟨e,he,rfl⟩:=Go.Conc.mem_ofEvents Κ;simp at he;subst he;rfl
 refine ht.go (c':={c with T:=upd c.T i (f (i==0,g',c.x i))}) Τ ξ ?_ _ rfl;refine h.laid Τ h.mem h.hold ?_ h.ba h.ed ?_ ?_ ⟨g',?_,.inl rfl⟩ (fun j ε=>⟨rfl,upd_ne _ _ ε⟩) (.inr fun j s o _ a b=>⟨o,a,b⟩)
 ·refine h.bM.ext h.hold i ofEvents_g (fun op Κ=>?_) (fun op Κ a μ=>?_) (fun op Κ b hb=>?_) (fun j=>?_)
  ·rw[lE op Κ];have:=h.low Β (.inl rfl);cases wr<;>exact this
  ·rw[lE op Κ] at μ;cases wr<;>cases μ
  ·rw[lE op Κ] at hb;refine⟨s,o,s,off,Β,.inl rfl,?_⟩;cases wr<;>simp[MemAct.touch?] at hb<;>subst hb<;>exact⟨rfl,.inr ⟨rfl,h.ba.par i s n p aB dy⟩⟩
  ·by_cases e:j=i
   ·subst e;rw[Deaf_own,h.bM.hears];cases wr<;>rfl
   ·rw[Deaf_other t (Ne.symm e) _ ofEvents_g,h.bM.hears]
 ·exact h.dN.app bb ofEvents_g (fun δ=>by rw[dQ] at δ;cases δ) (fun _ _ _ x=>x) (fun _ _ _ _ x=>x)
 ·refine h.fN.app h.bM.low (fun op Κ b hb=>?_) (fun j b v hv=>.inl ⟨v,hv⟩) (fun s o' ξ=>⟨o',ξ,rfl⟩) (fun j s k mu g e=>⟨k,mu,g,e⟩);rw[lE op Κ] at hb;cases wr<;>cases hb
 ·show iT P Q (upd c.T i (f (i==0,g',c.x i)) i) _ _ _;rw[upd_same];exact a8
theorem Inv.quits (h:Inv P Q bl c gs w t) (Τ:gs[i]?=some g) (υ:JB P (i==0) (kQ P Q f) g (c.x i)):ht P Q bl c gs w t i f:=by
 obtain⟨n1,κ,dQ,tZ,g',es,hm,ξ,a8⟩:=υ;have bb:i<gs.size:=lF Τ;have nt:∀op∈MemOp.ofEvents i g.frame.fn g.frame.place es,op.act.touch?=none:=fun op Κ=>by
  obtain⟨e,he,rfl⟩:=Go.Conc.mem_ofEvents Κ;exact touch_mute (hm e he)
 have lE:∀op∈MemOp.ofEvents i g.frame.fn g.frame.place es,op.act=.mark .disable∨op.act=.mark .enable:=fun op Κ=>by
  obtain⟨⟨loc,wr,nT⟩,he,rfl⟩:=Go.Conc.mem_ofEvents Κ;have:=hm _ he;cases loc<;>simp[Event.mute] at this;rename_i m;cases m<;>simp_all [MemAct.ofEvent]
 refine ht.go (c':={c with deaf:=upd c.deaf i (deafBehind (c.deaf i) es),T:=upd c.T i (f (i==0,g',{c.x i with deaf:=deafBehind (c.x i).deaf es}))}) Τ (by rw[n1];exact ξ w) ?_ _ rfl;refine h.laid Τ h.mem h.hold ?_ h.ba h.ed ?_ ?_ ⟨g',?_,.inl rfl⟩ (fun j ε=>⟨by simp[cS.x,upd_ne _ _ ε],upd_ne _ _ ε⟩) (.inr fun j s o _ a b=>⟨o,a,b⟩)
 ·refine h.bM.ext h.hold i ofEvents_g (fun op Κ=>?_) (fun op Κ a μ=>?_) (fun op Κ b hb=>?_) (fun j=>?_)
  ·rcases lE op Κ with e|e<;>rw[e]<;>trivial
  ·rcases lE op Κ with e|e<;>rw[e] at μ<;>cases μ
  ·rw[nt op Κ] at hb;cases hb
  ·by_cases e:j=i
   ·subst e;rw[Deaf_own,h.bM.hears];exact(upd_same ..).symm
   ·rw[Deaf_other t (Ne.symm e) _ ofEvents_g,h.bM.hears];exact(upd_ne _ _ e).symm
 ·exact h.dN.app bb ofEvents_g (fun _=>vL nt) (fun _ _ _ x=>x) (fun _ _ _ _ x=>x)
 ·refine h.fN.app h.bM.low (fun op Κ b hb=>?_) (fun j b v hv=>.inl ⟨v,hv⟩) (fun s o' ξ=>⟨o',ξ,rfl⟩) (fun j s k mu g e=>⟨k,mu,g,e⟩);rcases lE op Κ with e|e<;>rw[e] at hb<;>cases hb
 ·have e:({c with deaf:=upd c.deaf i (deafBehind (c.deaf i) es),T:=upd c.T i (f (i==0,g',{c.x i with deaf:=deafBehind (c.x i).deaf es}))}:cS).x i={c.x i with deaf:=deafBehind (c.x i).deaf es}:=by
   simp[cS.x,upd_same]
  rw[e];show iT P Q (upd c.T i (f (i==0,g',{c.x i with deaf:=deafBehind (c.x i).deaf es})) i) _ _ _;rw[upd_same];exact a8
end
end Go.TL
