import Derived.Test.YtlabjopijpkiaaaGreatSAD
set_option maxHeartbeats 16000000
set_option maxRecDepth 20000
set_option linter.unusedSectionVars false
set_option linter.unusedSimpArgs false
set_option linter.unusedVariables false
namespace Go.TL
open Go.Conc
open Go.ConcM (OsLater)
open Go.ConcN (sumTo upd sumTo_upd upd_ne upd_same sumTo_congr le_sumTo)
theorem Mn:∀(q:Nat) (l:List Nat),l.Nodup->(∀x∈l,x<q)->l.length<=q:=by
 intro q
 induction q with
 | zero=>intro l _ h;cases l with
  | nil=>simp
  | cons a l=>exact absurd (h a (by simp)) (by omega)
 | succ q Δ=>
  intro l Η h;have:=Δ (l.erase q) (Η.erase q) (λx U=>by
   have J:=(Η.mem_erase_iff).1 U
   have:=h x J.2
   have:=J.1;omega)
  by_cases Ρ:q∈l
  ·have:=List.length_erase_of_mem Ρ;omega
  ·rw[List.erase_of_not_mem Ρ] at this;omega
theorem Uf (l:List Nat) (q:Nat) (Η:l.Nodup) (h:∀x∈l,x<q) (ω:l.length=q):∀k,k<q->k∈l:=λk χ=>by
 apply Classical.byContradiction;intro iT;have:=Mn q (k::l) (List.nodup_cons.2 ⟨iT,Η⟩) (λx U=>by
  rcases List.mem_cons.1 U with rfl|U
  ·exact χ
  ·exact h x U)
 simp at this;omega
section
variable {n:Nat} {tok:Nat->Nat->Tok} {spec:Nat->Nat->Option Spec} {view:Nat->Nat->Option (Nat×aN)} {rel:Nat->Bool} {O:Nat->Option aN} {bx home:Nat->Nat} {s i:Nat} {o:aN}
theorem eD.fin (h:eD n tok spec view rel O bx home) (ο:O s=some o) {j q p:Nat} {aE:r7} (Ο:tok j s=.par q p aE) (he:h6 (.par q p aE)=1):p=0/\o.cnt=0/\∀a k m g,tok a s=.ch k m g->g=.gone:=by
 have ε:j<n:=h.lt (s:=s) (by rw[Ο];simp)
 have Η:=(h.bg s o ο).2
 have tF:a8 n (λa=>tok a s) h6=1:=by
  rw[pI (φ:=h6) (λt Ο=>by cases t<;>simp_all [eJ,h6]) Η.nW ε (by rw[Ο];rfl),Ο,he]
 have jψ:a8 n (λa=>tok a s) hc=p:=by
  rw[pI (φ:=hc) (λt Ο=>by cases t<;>simp_all [eJ,hc]) Η.nW ε (by rw[Ο];rfl),Ο];rfl
 obtain⟨f1,f2,f3,f4,f5,f6⟩:=Η.LC tF;refine⟨by omega,f4,λa k m g ξ=>?_⟩;have GF:a<n:=h.lt (s:=s) (by rw[ξ];simp);have Cc:=Η.F';have l1:=fh (λa=>tok a s) iO GF;have l2:=fh (λa=>tok a s) jU GF;have oJ:=fh (λa=>tok a s) jV GF;simp only[ξ,iO,jU,jV] at l1 l2 oJ;cases g with
 | gone=>rfl
 | work=>simp only[r8] at l1;omega
 | rel=>simp only[r8] at l1;omega
 | l2=>simp only[u9] at l2;omega
 | hz=>simp only[u'] at oJ;omega
theorem eD.Mo (h:eD n tok spec view rel O bx home) (ο:O s=some o) {k:Nat} {m:lr} {g:ts} (Ο:tok i s=.ch k m g) (Υ:g≠.gone):∀j q p,tok j s≠.par q p .bA:=λj q p ε=>
 Υ ((h.fin ο ε rfl).2.2 i k m g Ο)
theorem eD.only (h:eD n tok spec view rel O bx home) (ο:O s=some o) (Ο:h4 (tok i s)=1):∀j k L g,tok j s=.ch k (.dc L) g->j=i:=λj k L g ε=>by
 apply Classical.byContradiction;intro bz;have br:i<n:=h.lt (s:=s) (by intro e;rw[e] at Ο;cases Ο);have eO:j<n:=h.lt (s:=s) (by rw[ε];simp);have Ζ:=gq (λa=>tok a s) .nil h4 br;have Ε:=fh (upd (λa=>tok a s) i .nil) h4 eO;rw[upd_ne _ _ bz] at Ε;have vx:h4 .nil=0:=rfl;have qY:h4 (tok j s)=1:=by rw[ε];rfl
 simp only[Ο,vx] at Ζ;simp only[qY] at Ε;have:=(h.bg s o ο).1.LA;have:=(h.bg s o ο).1.f1;omega
def q0 (tok:Nat->Nat->Tok) (s:Nat):Nat->List Nat
 | 0=>[]
 | n+1=>match tok n s with
  | .ch k _ _=>k::q0 tok s n
  | _=>q0 tok s n
theorem zo (tok:Nat->Nat->Tok) (s:Nat):∀n k,k∈q0 tok s n↔∃j m g,j<n/\tok j s=.ch k m g
 | 0,k=>by simp[q0]
 | n+1,k=>by
  have Δ:=zo tok s n k
  have old:(∃j m g,j<n/\tok j s=.ch k m g)->∃j m g,j<n+1/\tok j s=.ch k m g:=λ⟨j,m,g,J,γ⟩=>⟨j,m,g,by omega,γ⟩
  have split:(∃j m g,j<n+1/\tok j s=.ch k m g)->(∃j m g,j<n/\tok j s=.ch k m g)\/∃m g,tok n s=.ch k m g:=λ⟨j,m,g,J,γ⟩=>by
   by_cases e:j=n
   ·subst e;exact .inr ⟨m,g,γ⟩
   ·exact .inl ⟨j,m,g,by omega,γ⟩
  unfold q0;cases U:tok n s with
  | nil=>exact Δ.trans ⟨old,λh=>(split h).elim id λ⟨m,g,e⟩=>by rw[U] at e;cases e⟩
  | par=>exact Δ.trans ⟨old,λh=>(split h).elim id λ⟨m,g,e⟩=>by rw[U] at e;cases e⟩
  | ch ab b0 g'=>
   rw[List.mem_cons,Δ];constructor
   ·rintro(rfl|h)
    ·exact⟨n,b0,g',by omega,U⟩
    ·exact old h
   ·intro h;rcases split h with h|⟨m,g,e⟩
    ·exact .inr h
    ·rw[U] at e;cases e;exact .inl rfl
theorem Mp (tok:Nat->Nat->Tok) (s:Nat):∀n,(q0 tok s n).length=a8 n (λa=>tok a s) ly
 | 0=>rfl
 | n+1=>by
  have Δ:=Mp tok s n;rw[vg];unfold q0;cases U:tok n s<;>simp[ly,Δ]
theorem Mq (ω:∀j bH k m g b0 g',tok j s=.ch k m g->tok bH s=.ch k b0 g'->j=bH):∀n,(q0 tok s n).Nodup
 | 0=>List.nodup_nil
 | n+1=>by
  have Δ:=Mq ω n;unfold q0;cases U:tok n s with
  | nil=>exact Δ
  | par=>exact Δ
  | ch k m g=>
   refine List.nodup_cons.2 ⟨λh=>?_,Δ⟩;obtain⟨j,b0,g',J,γ⟩:=(zo tok s n k).1 h;have:=ω j n k b0 g' m g γ U;omega
theorem eD.full (h:eD n tok spec view rel O bx home) (ο:O s=some o) {q:Nat} {aE:r7} (Ο:tok i s=.par q 0 aE) (mf:aE=.l'\/aE=.w4) :
  o.Ω.Perm (List.range q)/\(o.aT≠none->o.L.Perm (List.range q))/\∀a k m g,tok a s=.ch k m g->g=.gone:=by
 have br:i<n:=h.lt (s:=s) (by rw[Ο];simp)
 have he:h6 (.par q 0 aE)=1:=by rcases mf with rfl|rfl<;>rfl
 obtain⟨_,_,sf⟩:=h.fin ο Ο he;have Η:=(h.bg s o ο).2;have b8:a8 n (λa=>tok a s) h5=q:=by
  rw[pI (φ:=h5) (λt Ο=>by cases t<;>simp_all [eJ,h5]) Η.nW br (by rw[Ο];rfl),Ο];rfl
 have dA:a8 n (λa=>tok a s) hc=0:=by
  rw[pI (φ:=hc) (λt Ο=>by cases t<;>simp_all [eJ,hc]) Η.nW br (by rw[Ο];rfl),Ο];rfl
 have jω:=Η.LB
 have xn:=h.par i s q 0 aE Ο;subst xn;have Ug:=Mq (tok:=tok) (s:=s) (λj bH k m g b0 g' J γ=>h.vl s j bH k m g b0 g' J γ) n;have lt:∀k∈q0 tok s n,k<q:=λk χ=>by
  obtain⟨j,m,g,_,ε⟩:=(zo tok s n k).1 χ;have:=h.tA s j k m g q 0 aE ε Ο;omega
 have full:=Uf _ q Ug lt (by rw[Mp];omega);obtain⟨eQ,gg⟩:=h.gf s o ο;obtain⟨Uh,lm⟩:=h.ft s o ο;refine⟨(List.perm_ext_iff_of_nodup eQ List.nodup_range).2 λk=>?_,λfi=>(List.perm_ext_iff_of_nodup Uh List.nodup_range).2 λk=>?_,sf⟩
 ·rw[gg,List.mem_range];constructor
  ·rintro⟨j,m,g,ε,_⟩;have:=h.tA s j k m g q 0 aE ε Ο;omega
  ·intro χ;obtain⟨j,m,g,_,ε⟩:=(zo tok s n k).1 (full k χ);exact⟨j,m,g,ε,by rw[sf j k m g ε];simp⟩
 ·rw[lm,List.mem_range];constructor
  ·rintro⟨j,m,g,ε,_⟩;have:=h.tA s j k m g q 0 aE ε Ο;omega
  ·intro χ;obtain⟨j,m,g,_,ε⟩:=(zo tok s n k).1 (full k χ);refine⟨j,m,g,ε,?_⟩;rcases h.oU j s k m g o ο ε (by rw[sf j k m g ε];simp) with rfl|⟨_,e⟩
   ·trivial
   ·exact absurd e fi
end
section
variable {H H':cB->Α} {aF pN:Nat->Nat->Option (Array Value×TypeId)} {tok ei:Nat->Nat->Tok} {O O':Nat->Option aN} {bx:Nat->Nat} {deaf:Nat->Nat} {N hg:Nat} {t:Trace} {bt w w':World} {i:Nat} {y:MemOp} {b s:Nat} {o:aN}
theorem ofEvents_one {fn:FuncId} {pos:String} {e:Event}:MemOp.ofEvents i fn pos #[e]=#[{g:=i,fn,pos,act:=.ofEvent e}]:=by rw[ofEvents_eq];simp
theorem iw.word (h:iw H aF tok O bx deaf N t) (Ξ:y.g=i) (ξ:y.act=.mark (.acquire ⟨b,0,none⟩)\/y.act=.mark (.releaseMerge ⟨b,0,none⟩)) (hb:b<N) (cI:mg O O') (hv:∀j b v,pN j b=some v->aF j b=some v)
  (ψ:∀k,df (t++#[y]) (jr ei O' (t++#[y]) k) (H' k)):iw H' pN ei O' bx deaf N (t++#[y]):=by
 have nt:y.act.touch?=none:=by rcases ξ with e|e<;>rw[e]<;>rfl
 have old:∀k a,touchAt (t++#[y]) k=some a->touchAt t k=some a/\k<t.size:=λk a χ=>by
  obtain⟨x,U,tr⟩:=touch_of χ;rcases getElem?_append_cases U with⟨aD,hy⟩|⟨_,gh⟩
  ·exact⟨by rw[touchAt_of hy];exact tr,aD⟩
  ·simp at gh;subst gh;rw[nt] at tr;cases tr
 refine⟨λsaid=>noRace_append (g:=i) (h.race said) (λop Ν=>by simp at Ν;subst Ν;exact Ξ) (λk a _ op Ν c ζ _=>by simp at Ν;subst Ν;rw[nt] at ζ;cases ζ),λop Ν=>?_,λop Ν a=>?_,ψ,λj c v ζ k a χ=>h.oO j c v (hv j c v ζ) k a (old k a χ).1,λs o' c ο ζ k a χ e9=>?_,λj=>?_⟩
 ·rcases Array.mem_append.1 Ν with Ν|Ν
  ·exact h.low op Ν
  ·simp at Ν;subst Ν;rcases ξ with e|e<;>rw[e]<;>exact hb
 ·rcases Array.mem_append.1 Ν with Ν|Ν
  ·exact h.norel op Ν a
  ·simp at Ν;subst Ν;rcases ξ with e|e<;>rw[e]<;>simp
 ·obtain⟨lB,J,γ⟩:=cI.1 s o' ο;obtain⟨π,Μ⟩:=old k a χ;rcases h.cont s lB c J (by rw[γ];exact ζ) k a π e9 with x|⟨x,c8⟩
  ·exact .inl x
  ·exact .inr ⟨x,by rw[g?_old Μ];exact c8⟩
 ·rw[Deaf_push,<-h.hears j];rcases ξ with e|e<;>simp[deafStep,e]
theorem iw.xo (h:iw H aF tok O bx deaf N t) (k:cB) (nt:y.act.touch?=none) (cI:mg O O') (dE:∀i s,ei i s≠.nil->tok i s≠.nil):df (t++#[y]) (jr ei O' (t++#[y]) k) (H k):=
 (h.perms k).others (λ_ χ=>B6 cI.1 dE (Gn _ χ)) λop Ν a ξ=>by simp at Ν;subst Ν;rw[nt] at ξ;cases ξ
theorem Knows.marked {p:Nat} {op:MemOp} (J:t[p]?=some op) (γ:op.act=.mark (.releaseMerge ⟨b,0,none⟩)) (π:t.heard p) (dZ:∀op∈t,∀a,op.act≠.mark (.release a)) (Υ:y.g=i) (Ξ:y.act=.mark (.acquire ⟨b,0,none⟩)) (hd:Deaf t i=0):Knows (t++#[y]) i p:=by
 have ju:(t++#[y])[t.size]?=some y:=by simp
 have zh:(t++#[y]).heard t.size:=⟨i,by simp[Trace.g?,Υ],by rw[deaf_old (Nat.le_refl _)];exact hd⟩
 have ψ:=lt_size_of_getElem? J;refine⟨t.size,y,ju,Υ,.inr (.single (.inr ⟨.marked (a:=⟨b,0,none⟩) ψ (.inr ?_) ?_ ?_,(heard_old ψ).2 π,zh⟩))⟩
 ·rw[act?_old ψ,act?_of J,γ]
 ·rw[act?_of ju,Ξ]
 ·intro ab hB dW jv;rw[act?_old dW] at jv;obtain⟨sd,jw,h8⟩:=Option.map_eq_some_iff.1 jv;exact dZ sd (mem_of_getElem? jw) _ h8
theorem df.ng {jm:Nat->Prop} {G:Α} (h:df t jm G) (nt:y.act.touch?=none) (χ:∀k,jm k->Knows (t++#[y]) i k):df (t++#[y]) (Knows (t++#[y]) i) G:=
 h.others χ λop Ν a ξ=>by simp at Ν;subst Ν;rw[nt] at ξ;cases ξ
theorem Sub.empty (G:Α):Sub Α.empty G:=⟨λ_ _ _ _ h=>(by cases h),λ_ _ h=>(by cases h),λ_ _ h=>(by cases h)⟩
theorem Sub.both {A B aH:Α} (h:Sub A aH) (k:Sub B aH):Sub (join A B) aH:=by
 refine⟨λb o v p ζ=>?_,λb x μ=>?_,λb x hv=>?_⟩
 ·simp only[join] at ζ;cases Υ:A.aG b o with
  | none=>rw[Υ] at ζ;exact k.aG b o v p ζ
  | some z=>rw[Υ] at ζ;cases ζ;exact h.aG b o v p Υ
 ·simp only[join] at μ;cases Υ:A.row b with
  | none=>rw[Υ] at μ;exact k.row b x μ
  | some z=>rw[Υ] at μ;cases μ;exact h.row b _ Υ
 ·simp only[join] at hv;cases Υ:A.obj b with
  | none=>rw[Υ] at hv;exact k.obj b x hv
  | some z=>rw[Υ] at hv;cases hv;exact h.obj b _ Υ
theorem Sub.Ui {G H:Α} (cU:Fits G w) (Β:Fits H w) (ap:Apart G H):Sub H (join G H):=by
 refine⟨λb o v p ζ=>?_,λb x μ=>?_,λb x hv=>?_⟩
 ·simp only[join];cases Υ:G.aG b o with
  | none=>exact⟨p,ζ,id⟩
  | some z=>
   obtain⟨e8,e2⟩:=z;have Ζ:=cU.aG b o e8 e2 Υ;have Ε:=Β.aG b o v p ζ;rw[Ζ] at Ε;cases Ε;refine⟨e2,rfl,λψ=>?_⟩;subst ψ;exact absurd ⟨_,Υ⟩ (ap.qJ b o ⟨_,ζ⟩)
 ·simp only[join];cases Υ:G.row b with
  | none=>exact μ
  | some z=>
   obtain⟨t1,hD⟩:=z;obtain⟨t2,fV⟩:=x;obtain⟨c1,a1,bl⟩:=cU.row b t1 hD Υ;obtain⟨c2,bG,dj⟩:=Β.row b t2 fV μ;rw[a1] at bG;cases bG;rw[<-bl,<-dj]
 ·simp only[join];cases Υ:G.obj b with
  | none=>exact hv
  | some z=>exact absurd ⟨x,hv⟩ (ap.obj b ⟨z,Υ⟩)
theorem GG (G:Α):join G Α.empty=G:=by
 obtain⟨a,b,c⟩:=G;simp only[join,Α.empty];congr
 ·funext x y;cases a x y<;>rfl
 ·funext x;cases b x<;>rfl
 ·funext x;cases c x<;>rfl
theorem gZ.xp (h:gZ H aF O bt w) (hv:∀j b v,pN j b=some v->aF j b=some v):gZ H pN O bt w:=⟨h.fit,λj b c t hb=>h.me j b c t (hv j b _ hb),h.fD,h.keep⟩
theorem h7.xp (h:h7 H aF O hg) (hv:∀j b v,pN j b=some v->aF j b=some v):h7 H pN O hg:=by
 have Mr:∀j b,aF j b=none->pN j b=none:=λj b e=>by
  cases U:pN j b with
  | none=>rfl
  | some v=>rw[hv j b v U] at e;cases e
 exact⟨h.apart,h.high,h.n0,λj b v hb=>let ⟨a1,bl,cz⟩:=h.fresh j b v (hv j b v hb);⟨a1,bl,λk χ=>Mr k b (cz k χ)⟩,λs o b ο hb=>let ⟨a1,bl,cz⟩:=h.kp s o b ο hb;⟨a1,bl,λk=>Mr k b (cz k)⟩,h.kF,h.pL,h.eh⟩
theorem kq {o':aN} (Γ:O s=some o) {r:Nat} {q:aN} (h:upd O s (some o') r=some q):(r=s/\q=o')\/(r≠s/\O r=some q):=by
 by_cases e:r=s
 ·subst e;rw[upd_same] at h;cases h;exact .inl ⟨rfl,rfl⟩
 ·rw[upd_ne _ _ e] at h;exact .inr ⟨e,h⟩
theorem Ch {a b:Tok} (Ο:tok i s=a) (ξ:∀q p,a≠.par q p .bA) (hb:∀q p,b≠.par q p .bA) (j r q p:Nat):bY tok i s b j r=.par q p .bA↔tok j r=.par q p .bA:=by
 by_cases e:j=i/\r=s
 ·obtain⟨rfl,rfl⟩:=e;rw[e1,Ο];exact⟨λx=>absurd x (hb q p),λx=>absurd x (ξ q p)⟩
 ·rw[eM _ e]
theorem zp {a b:Tok} (Ο:tok i s=a) (ξ:a≠.nil) (j r:Nat) (h:bY tok i s b j r≠.nil):tok j r≠.nil:=by
 by_cases e:j=i/\r=s
 ·obtain⟨rfl,rfl⟩:=e;rw[Ο];exact ξ
 ·rw[eM _ e] at h;exact h
theorem zq {a b:Tok} (Ο:tok i s=a) (hb:∀k m g,a=.ch k m g->∃k m g,b=.ch k m g) (j r k:Nat) (m:lr) (g:ts) (h:tok j r=.ch k m g):∃k m g,bY tok i s b j r=.ch k m g:=by
 by_cases e:j=i/\r=s
 ·obtain⟨rfl,rfl⟩:=e;rw[e1];exact hb k m g (Ο▸h)
 ·rw[eM _ e];exact⟨k,m,g,h⟩
end
section
variable {P:Program} {Q:Value->Prop} {bt:World} {c c':cY} {gs:Array Goroutine} {w w':World} {t:Trace} {i:Nat} {g g':Goroutine} {es:Array Event}
variable {f:Bool×Goroutine×aV->gd (Bool×Goroutine×aV)}
theorem Inv.Ci (h:Inv P Q bt c gs w t) (Υ:gs[i]?=some g) (χ:LO P (i==0) (lF P Q f) g (c.x i)):hP P Q bt c gs w t i f:=by
 obtain⟨s,sp,m,k,g',J,γ,π,Μ,aA,bc,cA,GH⟩:=χ;have br:i<gs.size:=mq Υ;obtain⟨o,Γ,bU⟩:=h.bk.qR i s sp J;subst bU;have dE:c.tok i s=.ch k .own .work:=π;have hd:c.deaf i=0:=Μ;have dZ:c.rel i=false:=bc;have ο:=cA w (h.mem.fit (.inl i));have vz:=h.bk.Mo Γ dE (by simp);have c9:=h.eh.pM s o m Γ γ vz (λj ab L g ε=>by
  have:=h.bk.only Γ (i:=i) (by rw[dE];rfl) j ab L g ε;subst this;rw[dE] at ε;cases ε)
 have bb:=GH o.L (c.H (.inr m)) c9 (h.hold.apart _ _ (by simp)) ⟨(h.bk.ft s o Γ).1,λχ=>(by
  obtain⟨j,b0,af,Ζ,Ε⟩:=((h.bk.ft s o Γ).2 k).1 χ;have:=h.bk.vl s j i k b0 af _ _ Ζ dE;subst this;rw[dE] at Ζ;cases Ζ;exact Ε),w,h.mem.fit _,h.mem.fit _⟩
 let c8:aV:={c.x i with G:=join (c.H (.inl i)) (c.H (.inr m)),tok:=upd (c.tok i) s (.ch k (.dc o.L) .work),view:=upd (c.view i) s none}
 let c':cY:={c with H:=bL (bL c.H (.inl i) (join (c.H (.inl i)) (c.H (.inr m)))) (.inr m) Α.empty,tok:=bY c.tok i s (.ch k (.dc o.L) .work),view:=upd c.view i (upd (c.view i) s none),O:=upd c.O s (some o),T:=upd c.T i (f (i==0,g',c8))}
 have cI:=mg.upd (o':=o) Γ rfl
 have bA:=Ch (b:=.ch k (.dc o.L) .work) dE (by simp) (by simp)
 have nil:=zp (b:=.ch k (.dc o.L) .work) dE (by simp)
 have hm:eb s o.toSpec m:=.inr γ;refine hP.go (c':=c') Υ ο ?_ _ rfl;rw[ofEvents_one];have n3:c'.x i=c8:=by
  have:(Sum.inl i:cB)≠.inr m:=by simp
  simp[c',c8,cY.x,upd_same,vy,bM _ _ this]
 refine h.laid (c':=c') Υ (h.mem.two (zi (h.mem.fit _) (h.mem.fit _)) (vo w) λr q Ρ=>?_) ?_ ?_ (h.bk.Ga Γ dE) ⟨λr q b0 Ρ da bP gr=>?_,λr q Ρ bP=>?_⟩
  (h.dX.app br (λop Ν=>by simp at Ν;subst Ν;rfl) (λU=>by rw[dZ] at U;cases U) (λs q p ⟨j,x⟩=>⟨j,(bA j s q p).1 x⟩) (λj s q p x=>(bA j s q p).1 x))
  (h.gg.app h.bQ.low (λop Ν b hb=>by simp at Ν;subst Ν;cases hb) (λj b v hv=>.inl ⟨v,hv⟩) (λr q Ρ=>?_) (λj r ab mu g e=>zq dE (λ_ _ _ _=>⟨_,_,_,rfl⟩) j r ab mu g e))
  ⟨g',?_,.inl rfl⟩ (λj ε=>⟨?_,upd_ne _ _ ε⟩) (.inr λj r q _ a b=>?_)
 ·rcases kq Γ Ρ with⟨rfl,rfl⟩|⟨_,b9⟩
  ·exact h.mem.fD _ _ Γ
  ·exact h.mem.fD _ _ b9
 ·exact h.hold.two (by simp) (Sub.refl _) (Sub.empty _) (Apart.tC _) cI λx U=>by
   rcases U with e|e
   ·cases e;exact⟨s,o,Γ,hm⟩
   ·cases e
 ·refine h.bQ.word (i:=i) rfl (.inl rfl) (h.low Γ hm) cI (λ_ _ _ x=>x) λa=>?_;by_cases Ε:a=.inr m
  ·subst Ε;show df _ _ (bL _ _ _ _);rw[dy];exact df.empty
  ·show df _ _ (bL _ _ _ _);rw[bM _ _ Ε];by_cases Ζ:a=.inl i
   ·subst Ζ;rw[dy];exact((h.bQ.perms (.inl i)).own (λop Ν=>by simp at Ν;subst Ν;rfl)).join ((h.bQ.perms (.inr m)).acquire h.bQ.norel Γ hm (by rw[dE];simp) rfl rfl (by rw[h.bQ.hears];exact hd))
   ·rw[bM _ _ Ζ];exact h.bQ.xo a rfl cI nil
 ·rcases kq Γ Ρ with⟨rfl,rfl⟩|⟨e,b9⟩
  ·exact absurd (e1 ..) (gr i k q.L .work)
  ·have bz:(.inr b0:cB)≠.inr m:=λx=>by cases x;exact e (h.hold.kF r s q o m b9 Γ (.inr da) hm)
   show q.aH q.L (bL (bL c.H _ _) (.inr m) _ (.inr b0));rw[bM _ _ bz,ix];exact h.eh.pM r q b0 b9 da (λj q p x=>bP j q p ((bA j r q p).2 x)) λj k L g x=>gr j k L g (by show bY c.tok i s _ j r=_;rw[eM _ (λy=>e y.2)];exact x)
 ·rcases kq Γ Ρ with⟨rfl,rfl⟩|⟨e,b9⟩
  ·have bz:(.inr r:cB)≠.inr m:=λx=>by cases x;exact h.hold.pL _ q m Γ γ rfl
   show lC q.D q.Ω (bL (bL c.H _ _) (.inr m) _ (.inr r));rw[bM _ _ bz,ix];exact h.eh.mi r q Γ (λj q p x=>bP j q p ((bA j r q p).2 x))
  ·have bz:(.inr r:cB)≠.inr m:=λx=>by cases x;exact e (h.hold.kF m s q o m b9 Γ (.inl rfl) hm)
   show lC q.D q.Ω (bL (bL c.H _ _) (.inr m) _ (.inr r));rw[bM _ _ bz,ix];exact h.eh.mi r q b9 (λj q p x=>bP j q p ((bA j r q p).2 x))
 ·rcases kq Γ Ρ with⟨rfl,rfl⟩|⟨_,b9⟩
  ·exact⟨_,Γ,rfl⟩
  ·exact⟨q,b9,rfl⟩
 ·rw[n3];show jq P Q (upd c.T i (f (i==0,g',c8)) i) _ _ _;rw[upd_same];exact bb
 ·have hD:(Sum.inl j:cB)≠.inr m:=by simp
  have fV:(Sum.inl j:cB)≠.inl i:=λe=>ε (by cases e;rfl);simp[c',cY.x,upd_ne _ _ ε,sg _ ε,bM _ _ hD,bM _ _ fV]
 ·exact⟨q,by show upd c.O s (some o) r=some q;rw[Ce Γ];exact a,b⟩
theorem Inv.GI (h:Inv P Q bt c gs w t) (Υ:gs[i]?=some g) (χ:LP P (i==0) (lF P Q f) g (c.x i)):hP P Q bt c gs w t i f:=by
 obtain⟨s,sp,m,k,L,g',G',E,J,γ,π,Μ,aA,bc,cA,mw,dg,bb⟩:=χ;have br:i<gs.size:=mq Υ;obtain⟨o,Γ,bU⟩:=h.bk.qR i s sp J;subst bU;have dE:c.tok i s=.ch k (.dc L) .work:=π;have hd:c.deaf i=0:=Μ;have dZ:c.rel i=false:=bc;have ο:=cA w (h.mem.fit (.inl i));have aC:o.L=L:=h.bk.dc i s k L .work o Γ dE;let o':aN:={o with L:=o.L++[k]};let c8:aV:={c.x i with G:=G',tok:=upd (c.tok i) s (.ch k .fin .work),view:=upd (c.view i) s none};let c':cY:={c with H:=bL (bL c.H (.inl i) G') (.inr m) E,tok:=bY c.tok i s (.ch k .fin .work),view:=upd c.view i (upd (c.view i) s none),O:=upd c.O s (some o'),T:=upd c.T i (f (i==0,g',c8))};have cI:mg c.O (upd c.O s (some o')):=mg.upd Γ rfl;have bA:=Ch (b:=.ch k .fin .work) dE (by simp) (by simp);have nil:=zp (b:=.ch k .fin .work) dE (by simp);have hm:eb s o.toSpec m:=.inr γ;refine hP.go (c':=c') Υ ο ?_ _ rfl;rw[ofEvents_one];have n3:c'.x i=c8:=by
  have:(Sum.inl i:cB)≠.inr m:=by simp
  simp[c',c8,cY.x,upd_same,vy,bM _ _ this]
 refine h.laid (c':=c') Υ (h.mem.two (mw.l.fits (h.mem.fit (.inl i))) (mw.r.fits (h.mem.fit (.inl i))) λr q Ρ=>?_) ?_ ?_ (h.bk.TQ Γ dE) ⟨λr q b0 Ρ da bP gr=>?_,λr q Ρ bP=>?_⟩
  (h.dX.app br (λop Ν=>by simp at Ν;subst Ν;rfl) (λU=>by rw[dZ] at U;cases U) (λs q p ⟨j,x⟩=>⟨j,(bA j s q p).1 x⟩) (λj s q p x=>(bA j s q p).1 x))
  ⟨λr q b0 Ρ da p op ψ ξ=>?_,λj b v hv op Ν ξ=>?_⟩
  ⟨g',?_,.inl rfl⟩ (λj ε=>⟨?_,upd_ne _ _ ε⟩) (.inr λj r q _ a b=>?_)
 ·rcases kq Γ Ρ with⟨rfl,rfl⟩|⟨_,b9⟩
  ·exact(h.mem.fD r o Γ:At r o w)
  ·exact h.mem.fD _ _ b9
 ·exact h.hold.two (by simp) mw.l.qT mw.r.qT mw.apart cI λx U=>by
   rcases U with e|e
   ·cases e;exact⟨s,o,Γ,hm⟩
   ·cases e
 ·refine h.bQ.word (i:=i) rfl (.inr rfl) (h.low Γ hm) cI (λ_ _ _ x=>x) λa=>?_;by_cases Ε:a=.inr m
  ·subst Ε;show df _ _ (bL _ _ _ _);rw[dy];exact((df.release (h.bQ.perms (.inl i)) rfl rfl (by rw[h.bQ.hears];exact hd)).sub mw.r).mono λ_ x=>B6 cI.1 nil x
  ·show df _ _ (bL _ _ _ _);rw[bM _ _ Ε];by_cases Ζ:a=.inl i
   ·subst Ζ;rw[dy];exact((h.bQ.perms (.inl i)).own (λop Ν=>by simp at Ν;subst Ν;rfl)).sub mw.l
   ·rw[bM _ _ Ζ];exact h.bQ.xo a rfl cI nil
 ·rcases kq Γ Ρ with⟨rfl,rfl⟩|⟨e,b9⟩
  ·have e:b0=m:=by have:o.aT=some b0:=da;rw[γ] at this;cases this;rfl
   subst e;show o.aH (o.L++[k]) (bL (bL c.H _ _) (.inr b0) _ (.inr b0));rw[dy,aC];exact dg
  ·have bz:(.inr b0:cB)≠.inr m:=λx=>by cases x;exact e (h.hold.kF r s q o m b9 Γ (.inr da) hm)
   show q.aH q.L (bL (bL c.H _ _) (.inr m) _ (.inr b0));rw[bM _ _ bz,ix];exact h.eh.pM r q b0 b9 da (λj q p x=>bP j q p ((bA j r q p).2 x)) λj k L g x=>gr j k L g (by show bY c.tok i s _ j r=_;rw[eM _ (λy=>e y.2)];exact x)
 ·rcases kq Γ Ρ with⟨rfl,rfl⟩|⟨e,b9⟩
  ·have bz:(.inr r:cB)≠.inr m:=λx=>by cases x;exact h.hold.pL _ o m Γ γ rfl
   show lC o.D o.Ω (bL (bL c.H _ _) (.inr m) _ (.inr r));rw[bM _ _ bz,ix];exact h.eh.mi r o Γ (λj q p x=>bP j q p ((bA j r q p).2 x))
  ·have bz:(.inr r:cB)≠.inr m:=λx=>by cases x;exact e (h.hold.kF m s q o m b9 Γ (.inl rfl) hm)
   show lC q.D q.Ω (bL (bL c.H _ _) (.inr m) _ (.inr r));rw[bM _ _ bz,ix];exact h.eh.mi r q b9 (λj q p x=>bP j q p ((bA j r q p).2 x))
 ·rcases getElem?_append_cases ψ with⟨_,fX⟩|⟨_,gh⟩
  ·have zr:∀h9,c.O r=some h9->h9.aT=some b0->(∃ab mu g,bY c.tok i s (.ch k .fin .work) op.g r=.ch ab mu g)/\(c.rel op.g=true->Before (t++#[{g:=i,fn:=g.frame.fn,pos:=g.frame.place,act:=MemAct.ofEvent (Go.ConcR.mk (Mark.releaseMerge {block:=m,off:=0}))}]) p (c.dr op.g)):=λh9 Ζ Ε=>by
    obtain⟨⟨ab,mu,g,π⟩,Μ⟩:=h.gg.iQ r h9 b0 Ζ Ε p op fX ξ;exact⟨zq dE (λ_ _ _ _=>⟨_,_,_,rfl⟩) _ _ _ _ _ π,λμ=>(Μ μ).app _⟩
   rcases kq Γ Ρ with⟨rfl,rfl⟩|⟨_,b9⟩
   ·exact zr o Γ da
   ·exact zr q b9 da
  ·simp at gh;subst gh;cases ξ;have:r=s:=by
    rcases kq Γ Ρ with⟨rfl,rfl⟩|⟨_,b9⟩
    ·rfl
    ·exact h.hold.kF r s q o m b9 Γ (.inr da) hm
   subst this;exact⟨⟨k,.fin,.work,e1 ..⟩,λμ=>by
    have:c.rel i=true:=μ;rw[dZ] at this;cases this⟩
 ·rcases Array.mem_append.1 Ν with Ν|Ν
  ·exact h.gg.vu j b v hv op Ν ξ
  ·simp at Ν;subst Ν;cases ξ;have:=(h.hold.kp s o m Γ hm).2.2 j;have lE:c.aF j m=some v:=hv;rw[this] at lE;cases lE
 ·rw[n3];show jq P Q (upd c.T i (f (i==0,g',c8)) i) _ _ _;rw[upd_same];exact bb
 ·have hD:(Sum.inl j:cB)≠.inr m:=by simp
  have fV:(Sum.inl j:cB)≠.inl i:=λe=>ε (by cases e;rfl);simp[c',cY.x,upd_ne _ _ ε,sg _ ε,bM _ _ hD,bM _ _ fV]
 ·by_cases e:r=s
  ·subst e;rw[Γ] at a;cases a;exact⟨o',upd_same ..,b⟩
  ·exact⟨q,by show upd c.O s (some o') r=some q;rw[upd_ne _ _ e];exact a,b⟩
end
section
variable {P:Program} {Q:Value->Prop} {bt:World} {c c':cY} {gs:Array Goroutine} {w w':World} {t:Trace} {i:Nat} {g g':Goroutine} {es:Array Event}
variable {f:Bool×Goroutine×aV->gd (Bool×Goroutine×aV)}
theorem Inv.parent (h:Inv P Q bt c gs w t) {s:Nat} {o:aN} (Γ:c.O s=some o):c.bx s<gs.size/\∃q p aE,c.tok (c.bx s) s=.par q p aE:=by
 obtain⟨i0,iR,ψ⟩:=BU (φ:=eJ) (N:=gs.size) (τ:=λa=>c.tok a s) (by rw[(h.bk.bg s o Γ).2.nW];exact Nat.one_pos);have zl:∃q p aE,c.tok i0 s=.par q p aE:=by
  cases U:c.tok i0 s with
  | par q p aE=>exact⟨q,p,aE,rfl⟩
  | nil=>simp[U,eJ] at ψ
  | ch=>simp[U,eJ] at ψ
 obtain⟨q,p,aE,U⟩:=zl;have cv:=h.bk.par i0 _ q p aE U;subst cv;exact⟨iR,q,p,aE,U⟩
theorem Inv.GJ (h:Inv P Q bt c gs w t) (Υ:gs[i]?=some g) (χ:LQ P (i==0) (lF P Q f) g (c.x i)):hP P Q bt c gs w t i f:=by
 obtain⟨s,sp,k,mu,g',E,J,π,tB,Uj,Μ,aA,bc,cA,jZ,dQ,bb⟩:=χ;have br:i<gs.size:=mq Υ;obtain⟨o,Γ,bU⟩:=h.bk.qR i s sp J;subst bU;have dE:c.tok i s=.ch k mu .work:=π;have hd:c.deaf i=0:=Μ;have dZ:c.rel i=false:=bc;have Ms:∀bq,bq≠s->fU (c.tok i bq):=Uj;have ο:=cA w (h.mem.fit (.inl i));obtain⟨iR,se,aD⟩:=h.bk.oS i s k mu .work dE;have vz:=h.bk.Mo Γ dE (by simp);let y:MemOp:={g:=i,fn:=g.frame.fn,pos:=g.frame.place,act:=MemAct.ofEvent (Go.ConcR.mk (Mark.releaseMerge ⟨s,0,none⟩))};have GK:y.act=.mark (.releaseMerge ⟨s,0,none⟩):=rfl;have ju:(t++#[y])[t.size]?=some y:=by simp
 have Uk:(t++#[y]).heard t.size:=⟨i,by simp[Trace.g?,y],by rw[deaf_old (Nat.le_refl _)];exact(h.bQ.hears i).trans hd⟩
 let o':aN:={o with Ω:=k::o.Ω}
 let c8:aV:={c.x i with G:=Α.empty,aF:=λ_=>none,tok:=upd (c.tok i) s (.ch k mu .rel),view:=upd (c.view i) s none,rel:=true}
 let c':cY:={c with H:=bL (bL c.H (.inl i) Α.empty) (.inr s) (join E (c.H (.inr s))),aF:=upd c.aF i λ_=>none,tok:=bY c.tok i s (.ch k mu .rel),view:=upd c.view i (upd (c.view i) s none),O:=upd c.O s (some o'),rel:=upd c.rel i true,dr:=upd c.dr i t.size,T:=upd c.T i (f (i==0,g',c8))}
 have cI:mg c.O (upd c.O s (some o')):=mg.upd Γ rfl
 have bA:=Ch (b:=.ch k mu .rel) dE (by simp) (by simp)
 have nil:=zp (b:=.ch k mu .rel) dE (by simp)
 have hj:eb s o.toSpec s:=.inl rfl
 have fE:∀j b v,upd c.aF i (λ_=>none) j b=some v->c.aF j b=some v:=λj b v hv=>by
  by_cases e:j=i
  ·subst e;rw[upd_same] at hv;cases hv
  ·rw[upd_ne _ _ e] at hv;exact hv
 have iy:=h.hold.apart (.inl i) (.inr s) (by simp)
 have hSub:Sub (join E (c.H (.inr s))) (join (c.H (.inl i)) (c.H (.inr s))):=Sub.both (Sub.qT jZ) (Sub.Ui (h.mem.fit _) (h.mem.fit _) iy)
 have Mt:∀j r ab L g,c.tok j r=.ch ab (.dc L) g->bY c.tok i s (.ch k mu .rel) j r=.ch ab (.dc L) g:=λj r ab L g ε=>by
  rw[eM _ (λe=>?_)]
  ·exact ε
  ·obtain⟨rfl,rfl⟩:=e;rw[dE] at ε;rcases tB with rfl|⟨rfl,_⟩<;>cases ε
 have sc:∀j,j≠i->∀r,bY c.tok i s (.ch k mu .rel) j r=c.tok j r:=λj ε r=>eM _ λe=>ε e.1;refine hP.go (c':=c') Υ ο ?_ _ rfl;rw[ofEvents_one];have n3:c'.x i=c8:=by
  have:(Sum.inl i:cB)≠.inr s:=by simp
  simp[c',c8,cY.x,upd_same,vy,bM _ _ this]
 have Ul:vr gs.size c'.tok c'.rel c'.bx c'.home c'.dr (t++#[y]):=by
  refine⟨λab g' gM=>?_,λj fv ε=>?_,λj fv ε bP=>?_,λj fv ε q1 bC=>?_⟩
  ·obtain⟨op,Ν,hh⟩:=Option.map_eq_some_iff.1 gM;rcases getElem?_append_cases Ν with⟨_,kI⟩|⟨_,gh⟩
   ·exact h.dX.dD ab g' (by simp[Trace.g?,kI,hh])
   ·simp at gh;subst gh;rw[<-hh];exact br
  ·by_cases e:j=i
   ·subst e;have Ζ:c'.dr j=t.size:=upd_same ..;rw[Ζ];refine⟨y,ju,rfl,by rw[GK];show _=MemAct.mark (.releaseMerge ⟨c.home j,0,none⟩);rw[se],Uk,λab gM ζ=>?_⟩;obtain⟨op,Ν,hh⟩:=Option.map_eq_some_iff.1 gM;rcases getElem?_append_cases Ν with⟨q2,kI⟩|⟨hle,gh⟩
    ·exact .inr (hb_po q2 Ν ju hh)
    ·exact absurd ζ (xm (u:=#[y]) (λop Ν=>by simp at Ν;subst Ν;rfl) ab hle)
   ·have bp:c.rel j=true:=by have:upd c.rel i true j=true:=ε;rwa [upd_ne _ _ e] at this
    have Ζ:c'.dr j=c.dr j:=upd_ne _ _ e;rw[Ζ];obtain⟨op,a1,bl,cz,gb,hA⟩:=h.dX.c1 j fv bp;have ψ:=lt_size_of_getElem? a1;refine⟨op,by rw[getElem?_append_old ψ];exact a1,bl,cz,(heard_old ψ).2 gb,λab gM ζ=>?_⟩;obtain⟨sd,Ν,hh⟩:=Option.map_eq_some_iff.1 gM;rcases getElem?_append_cases Ν with⟨q2,kI⟩|⟨hle,gh⟩
    ·exact(hA ab (by simp[Trace.g?,kI,hh]) ((zk q2).1 ζ)).app _
    ·exact absurd ζ (xm (u:=#[y]) (λop Ν=>by simp at Ν;subst Ν;rfl) ab hle)
  ·obtain⟨q,p,Ρ⟩:=bP;have b9:c.tok (c.bx (c.home j)) (c.home j)=.par q p .bA:=(bA _ _ q p).1 Ρ;by_cases e:j=i
   ·subst e;rw[se] at b9;exact absurd b9 (vz _ q p)
   ·have bp:c.rel j=true:=by have:upd c.rel i true j=true:=ε;rwa [upd_ne _ _ e] at this
    have Ζ:c'.dr j=c.dr j:=upd_ne _ _ e;rw[Ζ];exact(h.dX.c2 j fv bp ⟨q,p,b9⟩).app _
  ·by_cases e:j=i
   ·subst e;exfalso;have Um:c.bx s≠0:=by rw[<-se];exact q1
    have bz:c.bx s≠j:=by omega
    have zs:c.rel (c.bx s)=true:=by
     have:upd c.rel j true (c.bx (c.home j))=true:=bC;rw[se,upd_ne _ _ bz] at this;exact this
    obtain⟨_,q,p,aE,sh⟩:=h.parent Γ;have cH:fU (c.tok (c.bx s) s):=by
     by_cases Ε:s=c.home (c.bx s)
     ·obtain⟨cC,ej,af,dW⟩:=h.bk.sb (c.bx s) Um (by omega);rw[<-Ε,sh] at dW;cases dW
     ·exact h.bk.oT _ s zs Ε
    rw[sh] at cH;cases aE<;>first|exact cH.elim|exact vz _ _ _ sh
   ·have bp:c.rel j=true:=by have:upd c.rel i true j=true:=ε;rwa [upd_ne _ _ e] at this
    have Ζ:c'.dr j=c.dr j:=upd_ne _ _ e;rw[Ζ];by_cases Ε:c.bx (c.home j)=i
    ·have aY:c'.dr (c.bx (c.home j))=t.size:=by rw[Ε];exact upd_same ..
     show Before _ _ (c'.dr (c.bx (c.home j)));rw[aY];obtain⟨op,a1,_⟩:=h.dX.c1 j fv bp;have eO:j<gs.size:=by
      obtain⟨op,a1,bl,_⟩:=h.dX.c1 j fv bp;exact h.dX.dD (c.dr j) j (by simp[Trace.g?,a1,bl])
     obtain⟨cC,ej,af,dW⟩:=h.bk.sb j fv eO;obtain⟨hN,vA⟩:=h.obj (i:=j) (s:=c.home j) (by rw[dW];simp);obtain⟨_,q,p,aE,sh⟩:=h.parent vA;rw[Ε] at sh;have bz:c.home j≠s:=λcy=>by rw[cy,dE] at sh;cases sh
     have cH:=Ms _ bz;rw[sh] at cH;have mf:aE=.bA:=by cases aE<;>first|exact cH.elim|rfl
     subst mf;have Mu:=h.dX.c2 j fv bp ⟨q,p,by rw[Ε];exact sh⟩;rw[Ε] at Mu;exact .inr (Mu.hb_new (u:=#[y]) (Nat.le_refl _) ju rfl)
    ·have aY:c'.dr (c.bx (c.home j))=c.dr (c.bx (c.home j)):=upd_ne _ _ Ε
     show Before _ _ (c'.dr (c.bx (c.home j)));rw[aY];refine(h.dX.c3 j fv bp q1 ?_).app _;have:upd c.rel i true (c.bx (c.home j))=true:=bC
     rwa [upd_ne _ _ Ε] at this
 refine h.laid (c':=c') Υ ((h.mem.two (vo w) (zi (jZ.fits (h.mem.fit (.inl i))) (h.mem.fit _)) λr q Ρ=>?_).xp fE) ((h.hold.two (by simp) (Sub.empty _) hSub (Apart.tC _).symm cI λx U=>?_).xp fE) ?_ (h.bk.TR Γ dE tB Ms) ⟨λr q b0 Ρ da bP gr=>?_,λr q Ρ bP=>?_⟩
  Ul ⟨λr q b0 Ρ da p op ψ ξ=>?_,λj b v hv op Ν ξ=>?_⟩
  ⟨g',?_,.inl rfl⟩ (λj ε=>⟨?_,upd_ne _ _ ε⟩) (.inr λj r q _ a b=>?_)
 ·rcases kq Γ Ρ with⟨rfl,rfl⟩|⟨_,b9⟩
  ·exact(h.mem.fD r o Γ:At r o w)
  ·exact h.mem.fD _ _ b9
 ·rcases U with e|e
  ·cases e;exact⟨s,o,Γ,hj⟩
  ·cases e
 ·refine h.bQ.word (i:=i) rfl (.inr rfl) (h.low Γ hj) cI fE λa=>?_;by_cases Ε:a=.inr s
  ·subst Ε;show df _ _ (bL _ _ _ _);rw[dy];exact(((df.release (h.bQ.perms (.inl i)) rfl rfl (by rw[h.bQ.hears];exact hd)).sub jZ).mono λ_ x=>B6 cI.1 nil x).join (h.bQ.xo (.inr s) rfl cI nil)
  ·show df _ _ (bL _ _ _ _);rw[bM _ _ Ε];by_cases Ζ:a=.inl i
   ·subst Ζ;rw[dy];exact df.empty
   ·rw[bM _ _ Ζ];exact h.bQ.xo a rfl cI nil
 ·rcases kq Γ Ρ with⟨rfl,rfl⟩|⟨e,b9⟩
  ·have bz:(.inr b0:cB)≠.inr r:=λx=>by cases x;exact h.hold.pL _ o _ Γ da rfl
   show o.aH o.L (bL (bL c.H _ _) (.inr r) _ (.inr b0));rw[bM _ _ bz,ix];exact h.eh.pM r o b0 Γ da (λj q p x=>bP j q p ((bA j r q p).2 x)) λj k L g x=>gr j k L g (Mt _ _ _ _ _ x)
  ·have bz:(.inr b0:cB)≠.inr s:=λx=>e (h.hold.kF r s q o b0 b9 Γ (.inr da) (by cases x;exact hj))
   show q.aH q.L (bL (bL c.H _ _) (.inr s) _ (.inr b0));rw[bM _ _ bz,ix];exact h.eh.pM r q b0 b9 da (λj q p x=>bP j q p ((bA j r q p).2 x)) λj k L g x=>gr j k L g (Mt _ _ _ _ _ x)
 ·rcases kq Γ Ρ with⟨rfl,rfl⟩|⟨e,b9⟩
  ·show lC o.D (k::o.Ω) (bL (bL c.H _ _) (.inr r) _ (.inr r));rw[dy];exact⟨E,c.H (.inr r),dQ,h.eh.mi r o Γ (λj q p x=>bP j q p ((bA j r q p).2 x)),iy.sub jZ (Sub.refl _),rfl⟩
  ·have bz:(.inr r:cB)≠.inr s:=λx=>by cases x;exact e rfl
   show lC q.D q.Ω (bL (bL c.H _ _) (.inr s) _ (.inr r));rw[bM _ _ bz,ix];exact h.eh.mi r q b9 (λj q p x=>bP j q p ((bA j r q p).2 x))
 ·rcases getElem?_append_cases ψ with⟨q2,fX⟩|⟨_,gh⟩
  ·have zr:∀h9,c.O r=some h9->h9.aT=some b0->(∃ab GL g,bY c.tok i s (.ch k mu .rel) op.g r=.ch ab GL g)/\(c'.rel op.g=true->Before (t++#[y]) p (c'.dr op.g)):=λh9 Ζ Ε=>by
    obtain⟨⟨ab,GL,g,π⟩,Μ⟩:=h.gg.iQ r h9 b0 Ζ Ε p op fX ξ;refine⟨zq dE (λ_ _ _ _=>⟨_,_,_,rfl⟩) _ _ _ _ _ π,λμ=>?_⟩;by_cases e:op.g=i
    ·have Ζ:c'.dr op.g=t.size:=by rw[e];exact upd_same ..
     rw[Ζ];exact .inr (hb_po q2 ψ ju e)
    ·have Ζ:c'.dr op.g=c.dr op.g:=upd_ne _ _ e
     have Ε:c.rel op.g=true:=by have:upd c.rel i true op.g=true:=μ;rwa [upd_ne _ _ e] at this
     rw[Ζ];exact(Μ Ε).app _
   rcases kq Γ Ρ with⟨rfl,rfl⟩|⟨_,b9⟩
   ·exact zr o Γ da
   ·exact zr q b9 da
  ·simp at gh;subst gh;cases ξ;exfalso;rcases kq Γ Ρ with⟨rfl,rfl⟩|⟨e,b9⟩
   ·exact h.hold.pL _ o _ Γ da rfl
   ·exact e (h.hold.kF r s q o s b9 Γ (.inr da) hj)
 ·have lE:=fE j b v hv;rcases Array.mem_append.1 Ν with Ν|Ν
  ·exact h.gg.vu j b v lE op Ν ξ
  ·simp at Ν;subst Ν;cases ξ;have:=(h.hold.kp s o s Γ hj).2.2 j;rw[this] at lE;cases lE
 ·rw[n3];show jq P Q (upd c.T i (f (i==0,g',c8)) i) _ _ _;rw[upd_same];exact bb
 ·have hD:(Sum.inl j:cB)≠.inr s:=by simp
  have fV:(Sum.inl j:cB)≠.inl i:=λe=>ε (by cases e;rfl);simp[c',cY.x,upd_ne _ _ ε,sg _ ε,bM _ _ hD,bM _ _ fV]
 ·by_cases e:r=s
  ·subst e;rw[Γ] at a;cases a;exact⟨o',upd_same ..,b⟩
  ·exact⟨q,by show upd c.O s (some o') r=some q;rw[upd_ne _ _ e];exact a,b⟩
theorem Inv.Cj (h:Inv P Q bt c gs w t) (Υ:gs[i]?=some g) (χ:LR P (i==0) (lF P Q f) g (c.x i)):hP P Q bt c gs w t i f:=by
 obtain⟨s,sp,n,aE,g',J,π,mf,Μ,aA,bc,cA,GH⟩:=χ;have br:i<gs.size:=mq Υ;obtain⟨o,Γ,bU⟩:=h.bk.qR i s sp J;subst bU;have dE:c.tok i s=.par n 0 aE:=π;have hd:c.deaf i=0:=Μ;have dZ:c.rel i=false:=bc;have ο:=cA w (h.mem.fit (.inl i));have q1:=h.bk.par i s n 0 aE dE;obtain⟨Mv,lG,sf⟩:=h.bk.full Γ dE mf;have hj:eb s o.toSpec s:=.inl rfl;have vz:∀j q p,c.tok j s≠.par q p .bA:=λj q p ε=>by
  have e:=h.bk.par j s q p .bA ε;rw[<-q1] at e;subst e;rw[dE] at ε;rcases mf with rfl|rfl<;>cases ε
 let y:MemOp:={g:=i,fn:=g.frame.fn,pos:=g.frame.place,act:=MemAct.ofEvent (Go.ConcR.mk (Mark.acquire ⟨s,0,none⟩))}
 have GK:y.act=.mark (.acquire ⟨s,0,none⟩):=rfl
 have vB:Deaf t i=0:=by rw[h.bQ.hears];exact hd
 have cI:mg c.O (upd c.O s (some o)):=mg.upd Γ rfl
 have nil:=zp (b:=.par n 0 .bA) dE (by simp)
 have Mw:∀j,(∃k m g,c.tok j s=.ch k m g)->j≠0/\c.home j=s/\c.rel j=true/\Knows (t++#[y]) i (c.dr j):=λj ⟨k,m,g,ε⟩=>by
  obtain⟨a1,bl,_⟩:=h.bk.oS j s k m g ε;have cz:c.rel j=true:=(h.bk.g0 j k m g a1 (by rw[bl];exact ε)).2 (by rw[sf j k m g ε];simp);obtain⟨op,bG,dj,fT,mm,_⟩:=h.dX.c1 j a1 cz;rw[bl] at fT;exact⟨a1,bl,cz,Knows.marked bG fT mm h.bQ.norel rfl GK vB⟩
 have Un:=h.eh.mi s o Γ vz;obtain⟨bN,eu,Uo,Up,Uq,Ur,Us,jy,iU,GM,kJ,GN,GO,GP⟩:∃(bN:cB->Α) (eu:Α),Fits eu w/\(o.aT≠none->o.aH o.L eu)/\(o.aT=none->eu=Α.empty)/\Apart (c.H (.inl i)) eu/\Apart (c.H (.inr s)) eu/\
   bN (.inl i)=join (join (c.H (.inl i)) (c.H (.inr s))) eu/\(∀j,j≠i->bN (.inl j)=c.H (.inl j))/\(∀m,o.aT=some m->bN (.inr m)=Α.empty)/\(∀b,b≠s->o.aT≠some b->bN (.inr b)=c.H (.inr b))/\
   h7 bN c.aF (upd c.O s (some o)) bt.heap.size/\gZ bN c.aF (upd c.O s (some o)) bt w/\∀a,df (t++#[y]) (jr (bY c.tok i s (.par n 0 .bA)) (upd c.O s (some o)) (t++#[y]) a) (bN a):=by
  have mj:∀r q,upd c.O s (some o) r=some q->At r q w:=λr q Ρ=>by
   rcases kq Γ Ρ with⟨rfl,rfl⟩|⟨_,b9⟩
   ·exact h.mem.fD _ _ Γ
   ·exact h.mem.fD _ _ b9
  have xq:df (t++#[y]) (Knows (t++#[y]) i) (join (c.H (.inl i)) (c.H (.inr s))):=
   ((h.bQ.perms (.inl i)).own (λop Ν=>by simp at Ν;subst Ν;rfl)).join ((h.bQ.perms (.inr s)).acquire h.bQ.norel Γ hj (by rw[dE];simp) rfl rfl vB)
  have Mx:h7 (bL (bL c.H (.inl i) (join (c.H (.inl i)) (c.H (.inr s)))) (.inr s) Α.empty) c.aF (upd c.O s (some o)) bt.heap.size:=
   h.hold.two (by simp) (Sub.refl _) (Sub.empty _) (Apart.tC _) cI λx U=>by
    rcases U with e|e
    ·cases e;exact⟨s,o,Γ,hj⟩
    ·cases e
  have My:gZ (bL (bL c.H (.inl i) (join (c.H (.inl i)) (c.H (.inr s)))) (.inr s) Α.empty) c.aF (upd c.O s (some o)) bt w:=h.mem.two (zi (h.mem.fit _) (h.mem.fit _)) (vo w) mj
  have pO:(Sum.inl i:cB)≠.inr s:=by simp
  cases fi:o.aT with
  | none=>
   refine⟨bL (bL c.H (.inl i) (join (c.H (.inl i)) (c.H (.inr s)))) (.inr s) Α.empty,Α.empty,vo w,λx=>absurd rfl x,λ_=>rfl,Apart.tC _,Apart.tC _,?_,λj ε=>?_,λm hm=>(by cases hm),λb hb _=>?_,Mx,My,λa=>?_⟩
   ·rw[bM _ _ pO,dy,GG]
   ·have fV:(Sum.inl j:cB)≠.inl i:=λe=>ε (by cases e;rfl);rw[bM _ _ (by simp),bM _ _ fV]
   ·have fV:(Sum.inr b:cB)≠.inr s:=λe=>hb (by cases e;rfl);rw[bM _ _ fV,ix]
   ·by_cases Ε:a=.inr s
    ·subst Ε;rw[dy];exact df.empty
    ·rw[bM _ _ Ε];by_cases Ζ:a=.inl i
     ·subst Ζ;rw[dy];exact xq
     ·rw[bM _ _ Ζ];exact h.bQ.xo a rfl cI nil
  | some m=>
   have hm:eb s o.toSpec m:=.inr fi
   have si:m≠s:=h.hold.pL s o m Γ fi
   have sj:(Sum.inr m:cB)≠.inr s:=λe=>si (by cases e;rfl)
   have Mz:(Sum.inl i:cB)≠.inr m:=by simp
   have Ut:∀j k L g,c.tok j s≠.ch k (.dc L) g:=λj k L g ε=>by
    rcases h.bk.oU j s k _ g o Γ ε (by rw[sf j k _ g ε];simp) with e|⟨e,_⟩<;>cases e
   have Uu:=h.eh.pM s o m Γ fi vz Ut
   have Uv:Apart (c.H (.inr s)) (c.H (.inr m)):=h.hold.apart _ _ (Ne.symm sj)
   have Uw:Apart (c.H (.inl i)) (c.H (.inr m)):=h.hold.apart _ _ Mz
   have eR:bL (bL c.H (.inl i) (join (c.H (.inl i)) (c.H (.inr s)))) (.inr s) Α.empty (.inl i)=join (c.H (.inl i)) (c.H (.inr s)):=by rw[bM _ _ pO,dy]
   have ew:bL (bL c.H (.inl i) (join (c.H (.inl i)) (c.H (.inr s)))) (.inr s) Α.empty (.inr m)=c.H (.inr m):=by rw[bM _ _ sj,ix]
   have Ux:=Mx.two (a:=.inl i) (b:=.inr m) (A:=join (join (c.H (.inl i)) (c.H (.inr s))) (c.H (.inr m))) (B:=Α.empty) (O':=upd c.O s (some o)) (by simp) (by rw[eR,ew];exact Sub.refl _) (Sub.empty _) (Apart.tC _) ⟨λs o' ο=>⟨o',ο,rfl⟩,λs o' ο=>⟨o',ο,rfl⟩⟩ λx U=>by
    rcases U with e|e
    ·cases e;exact⟨s,o,upd_same ..,hm⟩
    ·cases e
   have Uy:=My.two (a:=.inl i) (b:=.inr m) (A:=join (join (c.H (.inl i)) (c.H (.inr s))) (c.H (.inr m))) (B:=Α.empty) (O':=upd c.O s (some o)) (zi (zi (h.mem.fit _) (h.mem.fit _)) (h.mem.fit _)) (vo w) mj;refine⟨_,c.H (.inr m),h.mem.fit _,λ_=>Uu,λx=>(by cases x),Uw,Uv,?_,λj ε=>?_,λb0 da=>?_,λb hb db=>?_,Ux,Uy,λa=>?_⟩
   ·rw[bM _ _ Mz,dy]
   ·have fV:(Sum.inl j:cB)≠.inl i:=λe=>ε (by cases e;rfl);rw[bM _ _ (by simp),bM _ _ fV,bM _ _ (by simp),bM _ _ fV]
   ·cases da;rw[dy]
   ·have fV:(Sum.inr b:cB)≠.inr s:=λe=>hb (by cases e;rfl)
    have Ck:(Sum.inr b:cB)≠.inr m:=λe=>db (by cases e;rfl);rw[bM _ _ Ck,ix,bM _ _ fV,ix]
   ·by_cases aY:a=.inr m
    ·subst aY;rw[dy];exact df.empty
    ·rw[bM _ _ aY];by_cases Ζ:a=.inl i
     ·subst Ζ;rw[dy];refine xq.join ((h.bQ.perms (.inr m)).ng rfl λk χ=>?_);rcases χ with⟨p,op,a1,bl,cz,gb⟩|χ
      ·obtain⟨ml,dj⟩:=h.gg.iQ s o m Γ fi p op a1 bl;obtain⟨_,_,c3,c4⟩:=Mw op.g ml;have hb:=(dj c3).app #[y];refine Knows.of_before ?_ c4;rcases hb with e|hb
       ·rw[<-e];exact gb.app _
       ·exact .inr ((gb.app #[y]).hb hb)
      ·exact(χ s o Γ hm i (by rw[dE];simp)).app _
     ·rw[bM _ _ Ζ];by_cases Ε:a=.inr s
      ·subst Ε;rw[dy];exact df.empty
      ·rw[bM _ _ Ε,bM _ _ Ζ];exact h.bQ.xo a rfl cI nil
 have Uz:Apart (c.H (.inl i)) (c.H (.inr s)):=h.hold.apart _ _ (by simp)
 have bb:=GH o.Ω o.L (c.H (.inr s)) eu Mv Un (λx=>⟨lG x,Up x⟩) Uq Uz Ur Us ⟨w,h.mem.fit _,h.mem.fit _,Uo⟩
 let c8:aV:={c.x i with G:=join (join (c.H (.inl i)) (c.H (.inr s))) eu,tok:=upd (c.tok i) s (.par n 0 .bA),view:=upd (c.view i) s none}
 let c':cY:={c with H:=bN,tok:=bY c.tok i s (.par n 0 .bA),view:=upd c.view i (upd (c.view i) s none),O:=upd c.O s (some o),T:=upd c.T i (f (i==0,g',c8))}
 have n3:c'.x i=c8:=by simp[c',c8,cY.x,upd_same,vy,jy]
 have sc:∀j r,¬(j=i/\r=s)->bY c.tok i s (.par n 0 .bA) j r=c.tok j r:=λj r e=>eM _ e
 have MA:∀r q b,c.O r=some q->r≠s->eb r q.toSpec b->b≠s/\o.aT≠some b:=λr q b Ρ μ hb=>⟨λe=>μ (h.hold.kF r s q o b Ρ Γ hb (.inl e)),λe=>μ (h.hold.kF r s q o b Ρ Γ hb (.inr e))⟩;refine hP.go (c':=c') Υ ο ?_ _ rfl;rw[ofEvents_one];refine h.laid (c':=c') Υ GO GN (h.bQ.word (i:=i) rfl (.inl rfl) (h.low Γ hj) cI (λ_ _ _ x=>x) GP) (h.bk.gtake Γ dE mf) ⟨λr q b0 Ρ da bP gr=>?_,λr q Ρ bP=>?_⟩ ?_
  (h.gg.app h.bQ.low (λop Ν b hb=>by simp at Ν;subst Ν;cases hb) (λj b v hv=>.inl ⟨v,hv⟩) (λr q Ρ=>?_) (λj r ab mu g e=>zq dE (λk m g e=>?_) j r ab mu g e))
  ⟨g',?_,.inl rfl⟩ (λj ε=>⟨?_,upd_ne _ _ ε⟩) (.inr λj r q _ a b=>?_)
 ·rcases kq Γ Ρ with⟨rfl,rfl⟩|⟨e,b9⟩
  ·exact absurd (e1 ..) (bP i n 0)
  ·obtain⟨Ζ,Ε⟩:=MA r q b0 b9 e (.inr da);show q.aH q.L (bN (.inr b0));rw[kJ b0 Ζ Ε];exact h.eh.pM r q b0 b9 da (λj q p x=>bP j q p (by show bY c.tok i s _ j r=_;rw[sc j r (λy=>e y.2)];exact x)) λj k L g x=>gr j k L g (by show bY c.tok i s _ j r=_;rw[sc j r (λy=>e y.2)];exact x)
 ·rcases kq Γ Ρ with⟨rfl,rfl⟩|⟨e,b9⟩
  ·exact absurd (e1 ..) (bP i n 0)
  ·obtain⟨Ζ,Ε⟩:=MA r q r b9 e (.inl rfl);show lC q.D q.Ω (bN (.inr r));rw[kJ r Ζ Ε];exact h.eh.mi r q b9 (λj q p x=>bP j q p (by show bY c.tok i s _ j r=_;rw[sc j r (λy=>e y.2)];exact x))
 ·refine⟨λab g' gM=>?_,λj fv ε=>?_,λj fv ε bP=>?_,λj fv ε a b=>(h.dX.c3 j fv ε a b).app _⟩
  ·obtain⟨op,Ν,hh⟩:=Option.map_eq_some_iff.1 gM;rcases getElem?_append_cases Ν with⟨_,kI⟩|⟨_,gh⟩
   ·exact h.dX.dD ab g' (by simp[Trace.g?,kI,hh])
   ·simp at gh;subst gh;rw[<-hh];exact br
  ·obtain⟨op,a1,bl,cz,gb,hA⟩:=h.dX.c1 j fv ε;have ψ:=lt_size_of_getElem? a1;refine⟨op,by rw[getElem?_append_old ψ];exact a1,bl,cz,(heard_old ψ).2 gb,λab gM ζ=>?_⟩;obtain⟨sd,Ν,hh⟩:=Option.map_eq_some_iff.1 gM;rcases getElem?_append_cases Ν with⟨q2,kI⟩|⟨hle,gh⟩
   ·exact(hA ab (by simp[Trace.g?,kI,hh]) ((zk q2).1 ζ)).app _
   ·exact absurd ζ (xm (u:=#[y]) (λop Ν=>by simp at Ν;subst Ν;rfl) ab hle)
  ·obtain⟨q,p,Ρ⟩:=bP;by_cases e:c.bx (c.home j)=i/\c.home j=s
   ·obtain⟨Ζ,Ε⟩:=e;show Knows _ (c.bx (c.home j)) (c.dr j);rw[Ζ];have eO:j<gs.size:=by
     obtain⟨op,a1,bl,_⟩:=h.dX.c1 j fv ε;exact h.dX.dD (c.dr j) j (by simp[Trace.g?,a1,bl])
    obtain⟨cC,ej,af,dW⟩:=h.bk.sb j fv eO;rw[Ε] at dW;exact(Mw j ⟨cC,ej,af,dW⟩).2.2.2
   ·refine(h.dX.c2 j fv ε ⟨q,p,?_⟩).app _;have:bY c.tok i s (.par n 0 .bA) (c.bx (c.home j)) (c.home j)=.par q p .bA:=Ρ
    rwa [sc _ _ e] at this
 ·rcases kq Γ Ρ with⟨rfl,rfl⟩|⟨_,b9⟩
  ·exact⟨_,Γ,rfl⟩
  ·exact⟨q,b9,rfl⟩
 ·cases e
 ·rw[n3];show jq P Q (upd c.T i (f (i==0,g',c8)) i) _ _ _;rw[upd_same];exact bb
 ·simp[c',cY.x,upd_ne _ _ ε,sg _ ε,iU j ε]
 ·exact⟨q,by show upd c.O s (some o) r=some q;rw[Ce Γ];exact a,b⟩
end
section
variable {n:Nat} {tok:Nat->Nat->Tok} {spec:Nat->Nat->Option Spec} {view:Nat->Nat->Option (Nat×aN)} {rel:Nat->Bool} {O:Nat->Option aN} {bx home:Nat->Nat} {s i:Nat} {o:aN}
theorem eD.fork (h:eD n tok spec view rel O bx home) (ο:O s=some o) {q p:Nat} (Ο:tok i s=.par q (p+1) .add) :
  eD (n+1) (upd (bY tok i s (.par q p .add)) n (upd (λ_=>.nil) s (.ch (q-(p+1)) .idle .work))) (upd spec n (upd (λ_=>none) s (some o.toSpec))) (upd (upd view i (upd (view i) s none)) n λ_=>none) (upd rel n false) O bx (upd home n s):=by
 have br:i<n:=h.lt (s:=s) (by rw[Ο];simp)
 have kK:n≠i:=by omega
 have q1:=h.par i s q (p+1) .add Ο
 have b8:=(h.bg s o ο).2
 have Ρ:p+1<=q:=by
  have Ζ:a8 n (λa=>tok a s) h5=q:=by
   rw[pI (φ:=h5) (λt Ο=>by cases t<;>simp_all [eJ,h5]) b8.nW br (by rw[Ο];rfl),Ο];rfl
  have Ε:a8 n (λa=>tok a s) hc=p+1:=by
   rw[pI (φ:=hc) (λt Ο=>by cases t<;>simp_all [eJ,hc]) b8.nW br (by rw[Ο];rfl),Ο];rfl
  have:=b8.LB;omega
 generalize Cl:upd (bY tok i s (.par q p .add)) n (upd (λ_=>.nil) s (.ch (q-(p+1)) .idle .work))=ei;have zt:ei n s=.ch (q-(p+1)) .idle .work:=by rw[<-Cl,upd_same,upd_same]
 have GQ:∀r,r≠s->ei n r=.nil:=λr μ=>by rw[<-Cl,upd_same,upd_ne _ _ μ]
 have kL:ei i s=.par q p .add:=by rw[<-Cl,upd_ne _ _ (Ne.symm kK),e1]
 have to:∀j r,j≠n->¬(j=i/\r=s)->ei j r=tok j r:=λj r J γ=>by rw[<-Cl,upd_ne _ _ J,eM _ γ]
 have pP:∀j r,r≠s->ei j r=tok j r:=λj r μ=>by
  by_cases e:j=n
  ·subst e;rw[GQ r μ,h.out _ r (Nat.le_refl _)]
  ·exact to j r e λx=>μ x.2
 have Cm:(λj=>ei j s)=upd (upd (λj=>tok j s) i (.par q p .add)) n (.ch (q-(p+1)) .idle .work):=by
  funext j
  by_cases e:j=n
  ·subst e;rw[zt,upd_same]
  ·rw[upd_ne _ _ e];by_cases aJ:j=i
   ·subst aJ;rw[kL,upd_same]
   ·rw[upd_ne _ _ aJ,to j s e λx=>aJ x.1]
 have MB:∀r,r≠s->(λj=>ei j r)=λj=>tok j r:=λr μ=>funext λj=>pP j r μ
 have g3:∀r,(λj=>tok j r) n=.nil:=λr=>h.out n r (Nat.le_refl _)
 have iP:∀j r k m g,ei j r=.ch k m g->(j=n/\r=s/\k=q-(p+1)/\m=.idle/\g=.work)\/(j≠n/\¬(j=i/\r=s)/\tok j r=.ch k m g):=λj r k m g ε=>by
  by_cases e:j=n
  ·subst e;by_cases aJ:r=s
   ·subst aJ;rw[zt] at ε;cases ε;exact .inl ⟨rfl,rfl,rfl,rfl,rfl⟩
   ·rw[GQ r aJ] at ε;cases ε
  ·by_cases aJ:j=i/\r=s
   ·obtain⟨rfl,rfl⟩:=aJ;rw[kL] at ε;cases ε
   ·rw[to j r e aJ] at ε;exact .inr ⟨e,aJ,ε⟩
 have GR:∀j r m e2 aE,ei j r=.par m e2 aE->(j=i/\r=s/\m=q/\e2=p/\aE=.add)\/(j≠n/\r≠s/\tok j r=.par m e2 aE)\/(j≠n/\j≠i/\r=s/\tok j r=.par m e2 aE):=λj r m e2 aE ε=>by
  by_cases e:j=n
  ·subst e;by_cases aJ:r=s
   ·subst aJ;rw[zt] at ε;cases ε
   ·rw[GQ r aJ] at ε;cases ε
  ·by_cases aJ:j=i/\r=s
   ·obtain⟨rfl,rfl⟩:=aJ;rw[kL] at ε;cases ε;exact .inl ⟨rfl,rfl,rfl,rfl,rfl⟩
   ·rw[to j r e aJ] at ε;by_cases Ε:r=s
    ·exact .inr (.inr ⟨e,λx=>aJ ⟨x,Ε⟩,Ε,ε⟩)
    ·exact .inr (.inl ⟨e,Ε,ε⟩)
 have GU:∀j r k m g,tok j r=.ch k m g->j≠n/\ei j r=.ch k m g:=λj r k m g ε=>by
  have eO:j≠n:=λe=>by rw[e,h.out n r (Nat.le_refl _)] at ε;cases ε
  refine⟨eO,?_⟩;rw[to j r eO λe=>?_]
  ·exact ε
  ·obtain⟨rfl,rfl⟩:=e;rw[Ο] at ε;cases ε
 have jΑ:et (n+1) o (λj=>ei j s)<et n o (λj=>tok j s):=by
  rw[Cm,<-LJ (N:=n) (τ:=λj=>tok j s) (g3 s)];exact TB (N:=n+1) (by omega) (by omega) (Ne.symm kK) Ο (g3 s) _
 refine⟨λr iS μ=>?_,λr μ j=>?_,λj r ε=>?_,λj r sp ε=>?_,λj r φ du ε=>?_,λj r k L g iS b9 ε=>?_,λj r m e2 aE ε=>?_,λj r k m g ε=>?_,λj ag ε=>?_,λj k m g ag ε=>?_,?_,λj r ε μ=>?_,λj r k m g iS b9 ε Υ=>?_,λr j bH k m g b0 g' J γ=>?_,λr j k m g iS e2 aE J γ=>?_,λr iS μ=>?_,λr iS μ=>?_⟩
 ·by_cases e:r=s
  ·subst e;rw[ο] at μ;cases μ;rw[Cm];exact TA (LI (h.bg r o ο) (g3 r)) (by omega) (by omega) (Ne.symm kK) Ο (g3 r) _
  ·rw[MB r e];exact LI (h.bg r iS μ) (g3 r)
 ·have e:r≠s:=λe=>by rw[e,ο] at μ;cases μ
  rw[pP j r e];exact h.bare r μ j
 ·rw[to j r (by omega) (λx=>by omega)];exact h.out j r (by omega)
 ·by_cases e:j=n
  ·subst e;rw[upd_same] at ε;by_cases aJ:r=s
   ·subst aJ;rw[upd_same] at ε;cases ε;exact⟨o,ο,rfl⟩
   ·rw[upd_ne _ _ aJ] at ε;cases ε
  ·rw[upd_ne _ _ e] at ε;exact h.qR j r sp ε
 ·have old:∀j r φ du,view j r=some (φ,du)->∃hN,O r=some hN/\et (n+1) hN (λa=>ei a r)<=φ/\(et (n+1) hN (λa=>ei a r)=φ->hN=du):=λj r φ du hv=>by
   obtain⟨hN,J,γ,π⟩:=h.vk j r φ du hv;refine⟨hN,J,?_⟩;by_cases e:r=s
   ·subst e;rw[ο] at J;cases J;exact⟨by omega,λx=>by omega⟩
   ·rw[MB r e,LJ (N:=n) (τ:=λj=>tok j r) (g3 r)];exact⟨γ,π⟩
  by_cases e:j=n
  ·subst e;rw[upd_same] at ε;cases ε
  ·rw[upd_ne _ _ e] at ε;by_cases aJ:j=i
   ·subst aJ;rw[upd_same] at ε;by_cases Ε:r=s
    ·subst Ε;rw[upd_same] at ε;cases ε
    ·rw[upd_ne _ _ Ε] at ε;exact old _ _ _ _ ε
   ·rw[upd_ne _ _ aJ] at ε;exact old _ _ _ _ ε
 ·rcases iP j r k _ g ε with⟨_,_,_,Μ,_⟩|⟨_,_,π⟩
  ·cases Μ
  ·exact h.dc j r k L g iS b9 π
 ·rcases GR j r m e2 aE ε with⟨rfl,rfl,_⟩|⟨_,_,π⟩|⟨_,_,_,π⟩
  ·exact q1
  ·exact h.par j r m e2 aE π
  ·exact h.par j r m e2 aE π
 ·rcases iP j r k m g ε with⟨rfl,rfl,_⟩|⟨eO,_,π⟩
  ·exact⟨by omega,upd_same ..,by omega⟩
  ·obtain⟨a1,bl,cz⟩:=h.oS j r k m g π;exact⟨a1,by rw[upd_ne _ _ eO];exact bl,cz⟩
 ·by_cases e:j=n
  ·subst e;rw[upd_same];exact⟨_,_,_,zt⟩
  ·rw[upd_ne _ _ e];obtain⟨k,m,g,J⟩:=h.sb j ag (by omega);exact⟨k,m,g,(GU j _ k m g J).2⟩
 ·by_cases e:j=n
  ·subst e;rw[upd_same] at ε;rw[zt] at ε;cases ε;rw[upd_same];simp
  ·rw[upd_ne _ _ e] at ε;rw[upd_ne _ _ e];rcases iP j _ k m g ε with⟨x,_⟩|⟨_,_,π⟩
   ·exact absurd x e
   ·exact h.g0 j k m g ag π
 ·rw[upd_ne _ _ (show(0:Nat)≠n by omega)];exact h.tz
 ·by_cases e:j=n
  ·subst e;rw[upd_same] at ε;cases ε
  ·rw[upd_ne _ _ e] at ε μ;have:=h.oT j r ε μ;rw[to j r e λx=>?_]
   ·exact this
   ·obtain⟨rfl,rfl⟩:=x;rw[Ο] at this;exact this
 ·rcases iP j r k m g ε with⟨_,_,_,_,Μ⟩|⟨_,_,π⟩
  ·exact absurd Μ Υ
  ·exact h.oU j r k m g iS b9 π Υ
 ·have key:∀j k m g,tok j s=.ch k m g->k<q-(p+1):=λj k m g ε=>by
   have:=h.tA s j k m g q (p+1) .add ε (by rw[<-q1];exact Ο);omega
  rcases iP j r k m g J with⟨rfl,rfl,cz,_⟩|⟨_,_,π⟩<;>rcases iP bH r k b0 g' γ with⟨rfl,dj,fT,_⟩|⟨_,_,Μ⟩
  ·rfl
  ·have:=key bH k b0 g' Μ;omega
  ·subst dj;have:=key j k m g π;omega
  ·exact h.vl r j bH k m g b0 g' π Μ
 ·rcases iP j r k m g J with⟨_,rfl,cz,_⟩|⟨_,_,π⟩
  ·rcases GR _ r iS e2 aE γ with⟨_,_,rfl,rfl,_⟩|⟨_,x,_⟩|⟨_,x,_⟩
   ·omega
   ·exact absurd rfl x
   ·exact absurd q1.symm x
  ·rcases GR _ r iS e2 aE γ with⟨_,rfl,rfl,rfl,_⟩|⟨_,_,Μ⟩|⟨_,x,rfl,Μ⟩
   ·have:=h.tA r j k m g iS (e2+1) .add π (by rw[<-q1];exact Ο);omega
   ·exact h.tA r j k m g iS e2 aE π Μ
   ·exact absurd q1.symm x
 ·obtain⟨a,b⟩:=h.ft r iS μ;refine⟨a,λk=>(b k).trans ⟨λ⟨j,m,g,Ζ,Ε⟩=>⟨j,m,g,(GU j r k m g Ζ).2,Ε⟩,λ⟨j,m,g,Ζ,Ε⟩=>?_⟩⟩;rcases iP j r k m g Ζ with⟨_,_,_,Μ,_⟩|⟨_,_,π⟩
  ·subst Μ;exact Ε.elim
  ·exact⟨j,m,g,π,Ε⟩
 ·obtain⟨a,b⟩:=h.gf r iS μ;refine⟨a,λk=>(b k).trans ⟨λ⟨j,m,g,Ζ,Ε⟩=>⟨j,m,g,(GU j r k m g Ζ).2,Ε⟩,λ⟨j,m,g,Ζ,Ε⟩=>?_⟩⟩;rcases iP j r k m g Ζ with⟨_,_,_,_,Μ⟩|⟨_,_,π⟩
  ·exact absurd Μ Ε
  ·exact⟨j,m,g,π,Ε⟩
def aN.new (sp:Spec):aN:={toSpec:=sp,cb:=0,wk:=0,sv:=0,nw:=0,cX:=0,L:=[],cnt:=0,wt:=0,cE:=0,Ω:=[]}
theorem UA (N:Nat) (φ:Tok->Nat) (eg:φ .nil=0):a8 N (λ_=>.nil) φ=0:=by
 induction N with
 | zero=>rfl
 | succ N Δ=>rw[vg,Δ,eg]
theorem eD.UB (h:eD n tok spec view rel O bx home) (ο:O s=none) (br:i<n) (μ:rel i=false) (sp:Spec) :
  eD n (bY tok i s (.par 0 0 .add)) (upd spec i (upd (spec i) s (some sp))) (upd view i (upd (view i) s none)) rel (upd O s (some (aN.new sp))) (upd bx s i) home:=by
 have hb:=h.bare s ο
 have aU:∀j,j≠0->j<n->home j≠s:=λj ag ε e=>by
  obtain⟨k,m,g,J⟩:=h.sb j ag ε;rw[e,hb j] at J;cases J
 have Cm:(λj=>bY tok i s (.par 0 0 .add) j s)=upd (λ_=>.nil) i (.par 0 0 .add):=by
  rw[L1];have:(λj=>tok j s)=λ_=>.nil:=funext hb;rw[this]
 have pP:∀j r,r≠s->bY tok i s (.par 0 0 .add) j r=tok j r:=λj r μ=>eM _ λx=>μ x.2
 have iP:∀j r k m g,bY tok i s (.par 0 0 .add) j r=.ch k m g↔tok j r=.ch k m g:=λj r k m g=>by
  by_cases e:j=i/\r=s
  ·obtain⟨rfl,rfl⟩:=e;rw[e1,hb];simp
  ·rw[eM _ e]
 have xr:∀j k m g,tok j s≠.ch k m g:=λj k m g e=>by rw[hb] at e;cases e
 have g1:∀r q,upd O s (some (aN.new sp)) r=some q->(r=s/\q=aN.new sp)\/(r≠s/\O r=some q):=λr q Ρ=>by
  by_cases e:r=s
  ·subst e;rw[upd_same] at Ρ;cases Ρ;exact .inl ⟨rfl,rfl⟩
  ·rw[upd_ne _ _ e] at Ρ;exact .inr ⟨e,Ρ⟩
 have one:∀φ:Tok->Nat,φ .nil=0->a8 n (upd (λ_=>.nil) i (.par 0 0 .add)) φ=φ (.par 0 0 .add):=λφ eg=>by
  have e:=gq (N:=n) (λ_=>.nil) (.par 0 0 .add) φ br;rw[UA n φ eg] at e;simp only[eg] at e;omega
 refine⟨λr q Ρ=>?_,λr μ j=>?_,λj r ε=>?_,λj r MC ε=>?_,λj r φ du ε=>?_,λj r k L g q Ρ ε=>?_,λj r m p aE ε=>?_,λj r k m g ε=>?_,λj ag ε=>?_,λj k m g ag ε=>?_,h.tz,λj r ε fa=>?_,λj r k m g q Ρ ε Υ=>?_,λr j bH k m g b0 g' J γ=>?_,λr j k m g q p aE J γ=>?_,λr q μ=>?_,λr q μ=>?_⟩
 ·rcases g1 r q Ρ with⟨rfl,rfl⟩|⟨e,b9⟩
  ·rw[Cm];constructor
   ·unfold pG;rw[one h4 rfl,one nU rfl,one ma rfl,one lu rfl,one m' rfl,one lx rfl,one qM rfl,one nV rfl,one qL rfl];constructor<;>simp[aN.new,h4,nU,ma,lu,m',lx,qM,nV,qL]
   ·unfold oI;rw[one iO rfl,one jU rfl,one jV rfl,one ly rfl,one eJ rfl,one hc rfl,one h5 rfl,one mb rfl,one lz rfl,one h6 rfl];constructor<;>simp[aN.new,iO,jU,jV,ly,eJ,hc,h5,mb,lz,h6]
  ·rw[Gs _ _ _ _ e];exact h.bg r q b9
 ·have e:r≠s:=λe=>by rw[e,upd_same] at μ;cases μ
  rw[upd_ne _ _ e] at μ;rw[pP j r e];exact h.bare r μ j
 ·rw[eM _ (λx=>by omega)];exact h.out j r ε
 ·by_cases e:j=i
  ·subst e;rw[upd_same] at ε;by_cases aJ:r=s
   ·subst aJ;rw[upd_same] at ε;cases ε;exact⟨_,upd_same ..,rfl⟩
   ·rw[upd_ne _ _ aJ] at ε;obtain⟨q,a,b⟩:=h.qR j r MC ε;exact⟨q,by rw[upd_ne _ _ aJ];exact a,b⟩
  ·rw[upd_ne _ _ e] at ε;obtain⟨q,a,b⟩:=h.qR j r MC ε;have aJ:r≠s:=λaJ=>by rw[aJ,ο] at a;cases a
   exact⟨q,by rw[upd_ne _ _ aJ];exact a,b⟩
 ·have old:∀j r φ du,view j r=some (φ,du)->∃hN,upd O s (some (aN.new sp)) r=some hN/\et n hN (λa=>bY tok i s (.par 0 0 .add) a r)<=φ/\(et n hN (λa=>bY tok i s (.par 0 0 .add) a r)=φ->hN=du):=λj r φ du hv=>by
   obtain⟨hN,a,b⟩:=h.vk j r φ du hv;have aJ:r≠s:=λaJ=>by rw[aJ,ο] at a;cases a
   exact⟨hN,by rw[upd_ne _ _ aJ];exact a,by rw[Gs _ _ _ _ aJ];exact b⟩
  by_cases e:j=i
  ·subst e;rw[upd_same] at ε;by_cases aJ:r=s
   ·subst aJ;rw[upd_same] at ε;cases ε
   ·rw[upd_ne _ _ aJ] at ε;exact old _ _ _ _ ε
  ·rw[upd_ne _ _ e] at ε;exact old _ _ _ _ ε
 ·rw[iP] at ε;rcases g1 r q Ρ with⟨rfl,rfl⟩|⟨e,b9⟩
  ·exact absurd ε (xr _ _ _ _)
  ·exact h.dc j r k L g q b9 ε
 ·by_cases e:j=i/\r=s
  ·obtain⟨rfl,rfl⟩:=e;rw[upd_same]
  ·rw[eM _ e] at ε;have aJ:r≠s:=λaJ=>by rw[aJ,hb] at ε;cases ε
   rw[upd_ne _ _ aJ];exact h.par j r m p aE ε
 ·rw[iP] at ε;have aJ:r≠s:=λaJ=>by rw[aJ] at ε;exact xr _ _ _ _ ε
  rw[upd_ne _ _ aJ];exact h.oS j r k m g ε
 ·obtain⟨k,m,g,J⟩:=h.sb j ag ε;exact⟨k,m,g,(iP _ _ _ _ _).2 J⟩
 ·rw[iP] at ε;exact h.g0 j k m g ag ε
 ·have e:j≠i:=λe=>by rw[e,μ] at ε;cases ε
  rw[sg _ e];exact h.oT j r ε fa
 ·rw[iP] at ε;rcases g1 r q Ρ with⟨rfl,rfl⟩|⟨e,b9⟩
  ·exact absurd ε (xr _ _ _ _)
  ·exact h.oU j r k m g q b9 ε Υ
 ·rw[iP] at J γ;exact h.vl r j bH k m g b0 g' J γ
 ·rw[iP] at J;have aJ:r≠s:=λaJ=>by rw[aJ] at J;exact xr _ _ _ _ J
  rw[upd_ne _ _ aJ,pP _ _ aJ] at γ;exact h.tA r j k m g q p aE J γ
 ·simp only[iP];rcases g1 r q μ with⟨rfl,rfl⟩|⟨e,b9⟩
  ·exact⟨List.nodup_nil,λk=>⟨λx=>(by cases x),λ⟨j,m,g,x,_⟩=>absurd x (xr _ _ _ _)⟩⟩
  ·exact h.ft r q b9
 ·simp only[iP];rcases g1 r q μ with⟨rfl,rfl⟩|⟨e,b9⟩
  ·exact⟨List.nodup_nil,λk=>⟨λx=>(by cases x),λ⟨j,m,g,x,_⟩=>absurd x (xr _ _ _ _)⟩⟩
  ·exact h.gf r q b9
end
theorem UC (t:Trace) (u:Trace) {k:Nat} (hu:∀op∈u,op.g≠k):Deaf (t++u) k=Deaf t k:=by
 obtain⟨l⟩:=u;rw[Deaf_append]
 induction l generalizing t with
 | nil=>rfl
 | cons y l Δ=>
  have Ξ:y.g≠k:=hu y (by simp)
  have Ζ:deafStep k (Deaf t k) y=Deaf t k:=by
   unfold deafStep;split<;>simp[Ξ]
  rw[List.foldl_cons,Ζ];exact Δ t (λop Ν=>hu op (by simp at Ν ⊢;exact .inr Ν))
theorem UD {said:Bool} {t:Trace} {y z:MemOp} (h:¬Race said t) (nt:∀op∈(#[y,z]:Trace),op.act.touch?=none):¬Race said (t++#[y,z]):=by
 have e:t++#[y,z]=(t++#[y])++#[z]:=by rw[Array.append_assoc];rfl
 rw[e];refine noRace_append (g:=z.g) (noRace_append (g:=y.g) h (λop Ν=>by simp at Ν;rw[Ν]) λk a _ op Ν b hb _=>?_) (λop Ν=>by simp at Ν;rw[Ν]) λk a _ op Ν b hb _=>?_
 ·simp at Ν;subst Ν;rw[nt op (by simp)] at hb;cases hb
 ·simp at Ν;subst Ν;rw[nt op (by simp)] at hb;cases hb
section
variable {P:Program} {Q:Value->Prop} {bt:World} {c c':cY} {gs:Array Goroutine} {w w':World} {t:Trace} {i:Nat} {g g':Goroutine} {es:Array Event}
variable {f:Bool×Goroutine×aV->gd (Bool×Goroutine×aV)}
theorem Inv.GV (h:Inv P Q bt c gs w t) (Υ:gs[i]?=some g) (χ:LS P (i==0) (lF P Q f) g (c.x i)):hP P Q bt c gs w t i f:=by
 obtain⟨s,sp,n,p,g',ch,nb,nd,J,π,Μ,aA,tv,bc,cA,mw,bb,UE⟩:=χ;have br:i<gs.size:=mq Υ;obtain⟨o,Γ,bU⟩:=h.bk.qR i s sp J;subst bU;have dE:c.tok i s=.par n (p+1) .add:=π;have hd:c.deaf i=0:=Μ;have dZ:c.rel i=false:=bc;have ο:=cA w (h.mem.fit (.inl i));have kK:gs.size≠i:=by omega
 let N:=gs.size
 let y:MemOp:={g:=i,fn:=g.frame.fn,pos:=g.frame.place,act:=.go gs.size}
 let z:MemOp:={g:=gs.size,fn:=ch.frame.fn,pos:=g.frame.place,act:=.start}
 have vB:Deaf t i=0:=by rw[h.bQ.hears];exact hd
 have kM:Deaf t gs.size=0:=by
  have:=UC #[] t (k:=gs.size) (λop Ν e=>by
   obtain⟨k,χ⟩:=Array.mem_iff_getElem?.1 Ν;have:=h.dX.dD k op.g (by simp[Trace.g?,χ]);omega)
  rw[Array.empty_append] at this;exact this
 let Cn:aV:={c.x i with G:=nb,tok:=upd (c.tok i) s (.par n p .add),view:=upd (c.view i) s none}
 let Co:aV:=⟨nd,λ_=>none,upd (λ_=>.nil) s (.ch (n-(p+1)) .idle .work),upd (λ_=>none) s (some o.toSpec),λ_=>none,0,false⟩
 let ei:=upd (bY c.tok i s (.par n p .add)) gs.size (upd (λ_=>.nil) s (.ch (n-(p+1)) .idle .work))
 let c':cY:={c with H:=bL (bL c.H (.inl i) nb) (.inl gs.size) nd,aF:=upd c.aF gs.size (λ_=>none),tok:=ei,spec:=upd c.spec gs.size (upd (λ_=>none) s (some o.toSpec)),view:=upd (upd c.view i (upd (c.view i) s none)) gs.size λ_=>none,deaf:=upd c.deaf gs.size 0,rel:=upd c.rel gs.size false,home:=upd c.home gs.size s,T:=upd (upd c.T i (f (i==0,g',Cn))) gs.size (f (false,ch,Co))}
 have UF:=h.bk.fork Γ dE
 have dJ:=runT_crowd_spawn (sl:=none) Υ ο
 have UG:((MemOp.ofEvents i g.frame.fn g.frame.place #[]).push {g:=i,fn:=g.frame.fn,pos:=g.frame.place,act:=.go gs.size} |>.push {g:=gs.size,fn:=ch.frame.fn,pos:=g.frame.place,act:=.start})=#[y,z]:=by rw[Mh];rfl
 have MD:(Sum.inl i:cB)≠.inl gs.size:=λe=>kK (by cases e;rfl)
 have UH:∀r,ei gs.size r≠.nil->r=s:=λr μ=>by
  apply Classical.byContradiction;intro e;apply μ;show upd (bY c.tok i s (.par n p .add)) gs.size (upd (λ_=>.nil) s (.ch (n-(p+1)) .idle .work)) gs.size r=.nil;rw[upd_same,upd_ne _ _ e]
 have Cp:∀j,j≠gs.size->ei j=bY c.tok i s (.par n p .add) j:=λj ε=>upd_ne _ _ ε
 have UI:∀j r,j≠gs.size->ei j r≠.nil->c.tok j r≠.nil:=λj r ε μ=>by
  rw[Cp j ε] at μ;exact zp dE (by simp) j r μ
 have tJ:∀j r q e2,ei j r=.par q e2 .bA↔c.tok j r=.par q e2 .bA:=λj r q e2=>by
  by_cases e:j=gs.size
  ·subst e;rw[h.bk.out gs.size r (Nat.le_refl _)];show upd (bY c.tok i s (.par n p .add)) gs.size (upd (λ_=>.nil) s (.ch (n-(p+1)) .idle .work)) gs.size r=_↔_;rw[upd_same];by_cases aJ:r=s
   ·subst aJ;rw[upd_same];simp
   ·rw[upd_ne _ _ aJ]
  ·rw[Cp j e];exact Ch dE (by simp) (by simp) j r q e2
 have GD:∀j r k L g,c.tok j r=.ch k (.dc L) g->ei j r=.ch k (.dc L) g:=λj r k L g ε=>by
  have e:j≠gs.size:=λe=>by rw[e,h.bk.out _ r (Nat.le_refl _)] at ε;cases ε
  rw[Cp j e,eM _ λx=>?_]
  ·exact ε
  ·obtain⟨rfl,rfl⟩:=x;rw[dE] at ε;cases ε
 have eQ:∀j,j≠gs.size->c'.rel j=c.rel j:=λj ε=>upd_ne _ _ ε
 have Cq:∀j,c'.rel j=true->j≠gs.size:=λj ε e=>by
  subst e;have:upd c.rel gs.size false gs.size=true:=ε;rw[upd_same] at this;cases this
 have fE:∀j b v,upd c.aF gs.size (λ_=>none) j b=some v->c.aF j b=some v:=λj b v hv=>by
  by_cases e:j=gs.size
  ·subst e;rw[upd_same] at hv;cases hv
  ·rw[upd_ne _ _ e] at hv;exact hv
 have nt:∀op∈(#[y,z]:Trace),op.act.touch?=none:=λop Ν=>by simp at Ν;rcases Ν with rfl|rfl<;>rfl
 have nh:∀op∈(#[y,z]:Trace),∀m,op.act≠.mark m:=λop Ν m=>by simp at Ν;rcases Ν with rfl|rfl<;>simp[y,z]
 have ME:∀k,Knows t i k->Knows (t++#[y,z]) gs.size k:=λk χ=>Knows.spawn χ rfl rfl rfl rfl vB kM
 have UJ:∀a k,jr c.tok c.O t a k->jr ei c.O (t++#[y,z]) a k:=λa k χ=>by
  cases a with
  | inl j=>exact Knows.app _ χ
  | inr b=>
   rcases χ with⟨p,op,J,γ,π,Μ⟩|χ
   ·have ψ:=lt_size_of_getElem? J;exact .inl ⟨p,op,by rw[getElem?_append_old ψ];exact J,γ,(heard_old ψ).2 π,Μ.app _⟩
   ·refine .inr λbq o' iM hb j ε=>?_;by_cases e:j=gs.size
    ·subst e;have:=UH bq ε;subst this;exact ME k (χ _ o' iM hb i (by rw[dE];simp))
    ·exact(χ bq o' iM hb j (UI j bq e ε)).app _
 have MF:∀a,df (t++#[y,z]) (jr ei c.O (t++#[y,z]) a) (c.H a):=λa=>
  (h.bQ.perms a).others (UJ a) λop Ν x U=>by rw[nt op Ν] at U;cases U
 have hinv:Inv P Q bt c' ((gs.setIfInBounds i g').push ch) w (t++#[y,z]):=by
  have cm:((gs.setIfInBounds i g').push ch).size=gs.size+1:=by simp
  refine⟨by rw[cm];omega,(h.mem.two (mw.l.fits (h.mem.fit (.inl i))) (mw.r.fits (h.mem.fit (.inl i))) h.mem.fD).xp fE,(h.hold.two MD mw.l.qT mw.r.qT mw.apart ⟨λs o ο=>⟨o,ο,rfl⟩,λs o ο=>⟨o,ο,rfl⟩⟩ λx U=>by rcases U with e|e<;>cases e).xp fE,?_,by rw[cm];exact UF,?_,?_,?_,?_⟩
  ·refine⟨λsaid=>UD (h.bQ.race said) nt,λop Ν=>?_,λop Ν a=>?_,λa=>?_,λj b v hv k a χ=>?_,λbq o' b iM hb k a χ e9=>?_,λj=>?_⟩
   ·rcases Array.mem_append.1 Ν with Ν|Ν
    ·exact h.bQ.low op Ν
    ·simp at Ν;rcases Ν with rfl|rfl<;>trivial
   ·rcases Array.mem_append.1 Ν with Ν|Ν
    ·exact h.bQ.norel op Ν a
    ·exact nh op Ν _
   ·show df _ _ (bL (bL c.H (.inl i) nb) (.inl gs.size) nd a);by_cases Ε:a=.inl gs.size
    ·subst Ε;rw[dy];exact(((h.bQ.perms (.inl i)).others ME λop Ν x U=>by rw[nt op Ν] at U;cases U):df _ (Knows _ gs.size) _).sub mw.r
    ·rw[bM _ _ Ε];by_cases Ζ:a=.inl i
     ·subst Ζ;rw[dy];exact(MF (.inl i)).sub mw.l
     ·rw[bM _ _ Ζ];exact MF a
   ·have:=fE j b v hv;rcases m9 χ with gM|⟨_,op,Ν,_,U⟩
    ·exact h.bQ.oO j b v this k a gM
    ·rw[nt op Ν] at U;cases U
   ·rcases m9 χ with gM|⟨_,op,Ν,_,U⟩
    ·rcases h.bQ.cont bq o' b iM hb k a gM e9 with x|⟨x,c8⟩
     ·exact .inl x
     ·obtain⟨op,jw,_⟩:=touch_of gM;exact .inr ⟨x,by rw[g?_old (lt_size_of_getElem? jw)];exact c8⟩
    ·rw[nt op Ν] at U;cases U
   ·have Ζ:Deaf (t++#[y,z]) j=Deaf t j:=by
     have e:t++#[y,z]=(t++#[y])++#[z]:=by rw[Array.append_assoc];rfl
     rw[e,Deaf_push,Deaf_push];simp[deafStep,y,z]
    rw[Ζ];by_cases e:j=gs.size
    ·subst e;rw[kM];exact(upd_same ..).symm
    ·rw[h.bQ.hears];exact(upd_ne _ _ e).symm
  ·have iz:∀b,bL (bL c.H (.inl i) nb) (.inl gs.size) nd (.inr b)=c.H (.inr b):=λb=>by rw[ix,ix]
   refine⟨λr q m Ρ hm bP gr=>?_,λr q Ρ bP=>?_⟩
   ·show q.aH q.L (bL (bL c.H (.inl i) nb) (.inl gs.size) nd (.inr m));rw[iz];exact h.eh.pM r q m Ρ hm (λj q p x=>bP j q p ((tJ j r q p).2 x)) λj k L g x=>gr j k L g (GD _ _ _ _ _ x)
   ·show lC q.D q.Ω (bL (bL c.H (.inl i) nb) (.inl gs.size) nd (.inr r));rw[iz];exact h.eh.mi r q Ρ (λj q p x=>bP j q p ((tJ j r q p).2 x))
  ·rw[cm];refine⟨λk a χ=>?_,λj fv ε=>?_,λj fv ε bP=>?_,λj fv ε a b=>?_⟩
   ·obtain⟨op,Ν,hh⟩:=Option.map_eq_some_iff.1 χ;rcases getElem?_append_cases Ν with⟨_,kI⟩|⟨_,gh⟩
    ·have:=h.dX.dD k a (by simp[Trace.g?,kI,hh]);omega
    ·simp at gh;rcases gh with rfl|rfl
     ·rw[<-hh];show i<gs.size+1;omega
     ·rw[<-hh];show gs.size<gs.size+1;omega
   ·have eO:=Cq j ε;rw[eQ j eO] at ε;obtain⟨op,a1,bl,cz,gb,hA⟩:=h.dX.c1 j fv ε;have ψ:=lt_size_of_getElem? a1;refine⟨op,?_,bl,?_,(heard_old ψ).2 gb,λab gM ζ=>?_⟩
    ·show(t++#[y,z])[c.dr j]?=some op;rw[getElem?_append_old ψ];exact a1
    ·show op.act=.mark (.releaseMerge ⟨upd c.home gs.size s j,0,none⟩);rw[upd_ne _ _ eO];exact cz
    ·obtain⟨sd,Ν,hh⟩:=Option.map_eq_some_iff.1 gM;rcases getElem?_append_cases Ν with⟨q2,kI⟩|⟨hle,gh⟩
     ·exact(hA ab (by simp[Trace.g?,kI,hh]) ((zk q2).1 ζ)).app _
     ·exact absurd ζ (xm nt ab hle)
   ·have eO:=Cq j ε;rw[eQ j eO] at ε;obtain⟨q,e2,Ρ⟩:=bP;have zu:c'.home j=c.home j:=upd_ne _ _ eO;rw[zu] at Ρ ⊢;exact(h.dX.c2 j fv ε ⟨q,e2,(tJ _ _ _ _).1 Ρ⟩).app _
   ·have eO:=Cq j ε;rw[eQ j eO] at ε;have zu:c'.home j=c.home j:=upd_ne _ _ eO;rw[zu] at a b ⊢;have UK:=Cq _ b;rw[eQ _ UK] at b;exact(h.dX.c3 j fv ε a b).app _
  ·refine⟨λr q b0 Ρ da p op ψ ξ=>?_,λj b v hv op Ν ξ=>?_⟩
   ·rcases getElem?_append_cases ψ with⟨q2,fX⟩|⟨_,gh⟩
    ·obtain⟨⟨ab,GL,g,π⟩,Μ⟩:=h.gg.iQ r q b0 Ρ da p op fX ξ;have eO:op.g≠gs.size:=λe=>by rw[e,h.bk.out _ r (Nat.le_refl _)] at π;cases π
     refine⟨?_,λμ=>?_⟩
     ·rw[show c'.tok op.g=bY c.tok i s (.par n _ .add) op.g from Cp _ eO];exact zq dE (λ_ _ _ e=>by cases e) _ _ _ _ _ π
     ·rw[eQ _ eO] at μ;exact(Μ μ).app _
    ·exact absurd ξ (nh op gh _)
   ·rcases Array.mem_append.1 Ν with Ν|Ν
    ·exact h.gg.vu j b v (fE j b v hv) op Ν ξ
    ·exact nh op Ν _ ξ
  ·intro j b hb;by_cases e:j=gs.size
   ·subst e;rw[Array.getElem?_push] at hb;simp at hb;subst hb;refine⟨ch,?_,.inl rfl⟩;have U:c'.x gs.size=Co:=by simp[c',Co,ei,cY.x,upd_same]
    have Κ:c'.T gs.size=f (false,ch,Co):=upd_same ..
    have hm:(gs.size==0)=false:=by rw[beq_eq_false_iff_ne];exact Nat.ne_of_gt h.pos
    rw[U,Κ,hm];exact UE
   ·have db:(gs.setIfInBounds i g')[j]?=some b:=by
     rw[Array.getElem?_push] at hb;simpa[e] using hb
    by_cases Ζ:j=i
    ·subst Ζ;rw[Array.getElem?_setIfInBounds_self_of_lt br] at db;cases db;refine⟨g',?_,.inl rfl⟩;have U:c'.x j=Cn:=by simp[c',Cn,ei,cY.x,upd_same,upd_ne _ _ e,vy,bM _ _ MD]
     have Κ:c'.T j=f (j==0,g',Cn):=by show upd (upd c.T j _) gs.size _ j=_;rw[upd_ne _ _ e,upd_same]
     rw[U,Κ];exact bb
    ·rw[Array.getElem?_setIfInBounds_ne (Ne.symm Ζ)] at db;obtain⟨cP,Gu,jz⟩:=h.vv j b db;have hD:(Sum.inl j:cB)≠.inl gs.size:=λx=>e (by cases x;rfl);have fV:(Sum.inl j:cB)≠.inl i:=λx=>Ζ (by cases x;rfl);have U:c'.x j=c.x j:=by simp[c',ei,cY.x,upd_ne _ _ e,upd_ne _ _ Ζ,sg _ Ζ,bM _ _ hD,bM _ _ fV]
     have Κ:c'.T j=c.T j:=by show upd (upd c.T i _) gs.size _ j=_;rw[upd_ne _ _ e,upd_ne _ _ Ζ]
     have Ο:c'.tok j=c.tok j:=congrArg aV.tok U;refine⟨cP,by rw[U,Κ];exact Gu,?_⟩;rw[Ο];exact jz
 refine λsl=>⟨c',_,w,_,runT_crowd_spawn Υ ο,?_,.inr (.inl ⟨by simp,_,_,rfl⟩)⟩;rw[UG];exact hinv
end
end Go.TL
