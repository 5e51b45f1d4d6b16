import Derived.Test.YtlabjopijpkiaaaGreatQAD
set_option maxHeartbeats 16000000
set_option maxRecDepth 20000
set_option linter.unusedSectionVars false
set_option linter.unusedSimpArgs false
set_option linter.unusedVariables false
namespace Go.TL
open Go.Conc
open Go.ConcM (OsLater)
open Go.ConcN (sumTo upd sumTo_upd upd_ne upd_same sumTo_congr le_sumTo)
theorem LJ:∀(q:Nat) (l:List Nat),l.Nodup->(∀x∈l,x<q)->l.length<=q:=by
 intro q
 induction q with
 | zero=>intro l _ h;cases l with
  | nil=>simp
  | cons a l=>exact absurd (h a (by simp)) (by omega)
 | succ q Δ=>
  intro l Ι h;have:=Δ (l.erase q) (Ι.erase q) (λx U=>by
   have J:=(Ι.mem_erase_iff).1 U
   have:=h x J.2
   have:=J.1;omega)
  by_cases Χ:q∈l
  ·have:=List.length_erase_of_mem Χ;omega
  ·rw[List.erase_of_not_mem Χ] at this;omega
theorem SU (l:List Nat) (q:Nat) (Ι:l.Nodup) (h:∀x∈l,x<q) (Α:l.length=q):∀k,k<q->k∈l:=λk χ=>by
 apply Classical.byContradiction;intro e4;have:=LJ q (k::l) (List.nodup_cons.2 ⟨e4,Ι⟩) (λx U=>by
  rcases List.mem_cons.1 U with rfl|U
  ·exact χ
  ·exact h x U)
 simp at this;omega
section
variable {n:Nat} {tok:Nat->Nat->Tok} {spec:Nat->Nat->Option Spec} {view:Nat->Nat->Option (Nat×aM)} {rel:Nat->Bool} {O:Nat->Option aM} {bz home:Nat->Nat} {s i:Nat} {o:aM}
theorem eI.fin (h:eI n tok spec view rel O bz home) (ο:O s=some o) {j q p:Nat} {ae:rT} (Ξ:tok j s=.par q p ae) (he:ib (.par q p ae)=1):p=0/\o.cnt=0/\∀a k m g,tok a s=.ch k m g->g=.gone:=by
 have ε:j<n:=h.lt (s:=s) (by rw[Ξ];simp)
 have Ι:=(h.bm s o ο).2
 have tz:a7 n (λa=>tok a s) ib=1:=by
  rw[pq (φ:=ib) (λt Ξ=>by cases t<;>simp_all [eM,ib]) Ι.nK ε (by rw[Ξ];rfl),Ξ,he]
 have gΧ:a7 n (λa=>tok a s) hl=p:=by
  rw[pq (φ:=hl) (λt Ξ=>by cases t<;>simp_all [eM,hl]) Ι.nK ε (by rw[Ξ];rfl),Ξ];rfl
 obtain⟨f1,f2,f3,f4,f5,f6⟩:=Ι.KX tz;refine⟨by omega,f4,λa k m g ν=>?_⟩;have Gt:a<n:=h.lt (s:=s) (by rw[ν];simp);have Co:=Ι.FX;have l1:=fp (λa=>tok a s) iU Gt;have l2:=fp (λa=>tok a s) jR Gt;have oq:=fp (λa=>tok a s) jS Gt;simp only[ν,iU,jR,jS] at l1 l2 oq;cases g with
 | gone=>rfl
 | work=>simp only[rU] at l1;omega
 | rel=>simp only[rU] at l1;omega
 | l2=>simp only[u3] at l2;omega
 | hG=>simp only[u4] at oq;omega
theorem eI.LK (h:eI n tok spec view rel O bz home) (ο:O s=some o) {k:Nat} {m:k'} {g:tk} (Ξ:tok i s=.ch k m g) (Υ:g≠.gone):∀j q p,tok j s≠.par q p .bF:=λj q p ε=>
 Υ ((h.fin ο ε rfl).2.2 i k m g Ξ)
theorem eI.only (h:eI n tok spec view rel O bz home) (ο:O s=some o) (Ξ:h' (tok i s)=1):∀j k L g,tok j s=.ch k (.dj L) g->j=i:=λj k L g ε=>by
 apply Classical.byContradiction;intro bw;have bb:i<n:=h.lt (s:=s) (by intro e;rw[e] at Ξ;cases Ξ);have e3:j<n:=h.lt (s:=s) (by rw[ε];simp);have Ε:=gv (λa=>tok a s) .nil h' bb;have Ζ:=fp (upd (λa=>tok a s) i .nil) h' e3;rw[upd_ne _ _ bw] at Ζ;have zs:h' .nil=0:=rfl;have tA:h' (tok j s)=1:=by rw[ε];rfl
 simp only[Ξ,zs] at Ε;simp only[tA] at Ζ;have:=(h.bm s o ο).1.KV;have:=(h.bm s o ο).1.f1;omega
def qL (tok:Nat->Nat->Tok) (s:Nat):Nat->List Nat
 | 0=>[]
 | n+1=>match tok n s with
  | .ch k _ _=>k::qL tok s n
  | _=>qL tok s n
theorem zv (tok:Nat->Nat->Tok) (s:Nat):∀n k,k∈qL tok s n↔∃j m g,j<n/\tok j s=.ch k m g
 | 0,k=>by simp[qL]
 | n+1,k=>by
  have Δ:=zv tok s n k
  have old:(∃j m g,j<n/\tok j s=.ch k m g)->∃j m g,j<n+1/\tok j s=.ch k m g:=λ⟨j,m,g,J,γ⟩=>⟨j,m,g,by omega,γ⟩
  have split:(∃j m g,j<n+1/\tok j s=.ch k m g)->(∃j m g,j<n/\tok j s=.ch k m g)\/∃m g,tok n s=.ch k m g:=λ⟨j,m,g,J,γ⟩=>by
   by_cases e:j=n
   ·subst e;exact .inr ⟨m,g,γ⟩
   ·exact .inl ⟨j,m,g,by omega,γ⟩
  unfold qL;cases U:tok n s with
  | nil=>exact Δ.trans ⟨old,λh=>(split h).elim id λ⟨m,g,e⟩=>by rw[U] at e;cases e⟩
  | par=>exact Δ.trans ⟨old,λh=>(split h).elim id λ⟨m,g,e⟩=>by rw[U] at e;cases e⟩
  | ch ab b2 g'=>
   rw[List.mem_cons,Δ];constructor
   ·rintro(rfl|h)
    ·exact⟨n,b2,g',by omega,U⟩
    ·exact old h
   ·intro h;rcases split h with h|⟨m,g,e⟩
    ·exact .inr h
    ·rw[U] at e;cases e;exact .inl rfl
theorem LL (tok:Nat->Nat->Tok) (s:Nat):∀n,(qL tok s n).length=a7 n (λa=>tok a s) lg
 | 0=>rfl
 | n+1=>by
  have Δ:=LL tok s n;rw[vb];unfold qL;cases U:tok n s<;>simp[lg,Δ]
theorem LM (Α:∀j bK k m g b2 g',tok j s=.ch k m g->tok bK s=.ch k b2 g'->j=bK):∀n,(qL tok s n).Nodup
 | 0=>List.nodup_nil
 | n+1=>by
  have Δ:=LM Α n;unfold qL;cases U:tok n s with
  | nil=>exact Δ
  | par=>exact Δ
  | ch k m g=>
   refine List.nodup_cons.2 ⟨λh=>?_,Δ⟩;obtain⟨j,b2,g',J,γ⟩:=(zv tok s n k).1 h;have:=Α j n k b2 g' m g γ U;omega
theorem eI.full (h:eI n tok spec view rel O bz home) (ο:O s=some o) {q:Nat} {ae:rT} (Ξ:tok i s=.par q 0 ae) (g7:ae=.lZ\/ae=.w4) :
  o.af.Perm (List.range q)/\(o.aT≠none->o.L.Perm (List.range q))/\∀a k m g,tok a s=.ch k m g->g=.gone:=by
 have bb:i<n:=h.lt (s:=s) (by rw[Ξ];simp)
 have he:ib (.par q 0 ae)=1:=by rcases g7 with rfl|rfl<;>rfl
 obtain⟨_,_,r4⟩:=h.fin ο Ξ he;have Ι:=(h.bm s o ο).2;have ck:a7 n (λa=>tok a s) ia=q:=by
  rw[pq (φ:=ia) (λt Ξ=>by cases t<;>simp_all [eM,ia]) Ι.nK bb (by rw[Ξ];rfl),Ξ];rfl
 have dF:a7 n (λa=>tok a s) hl=0:=by
  rw[pq (φ:=hl) (λt Ξ=>by cases t<;>simp_all [eM,hl]) Ι.nK bb (by rw[Ξ];rfl),Ξ];rfl
 have gΨ:=Ι.KW
 have xw:=h.par i s q 0 ae Ξ;subst xw;have SV:=LM (tok:=tok) (s:=s) (λj bK k m g b2 g' J γ=>h.vg s j bK k m g b2 g' J γ) n;have lt:∀k∈qL tok s n,k<q:=λk χ=>by
  obtain⟨j,m,g,_,ε⟩:=(zv tok s n k).1 χ;have:=h.tt s j k m g q 0 ae ε Ξ;omega
 have full:=SU _ q SV lt (by rw[LL];omega);obtain⟨eW,gb⟩:=h.ga s o ο;obtain⟨SW,lm⟩:=h.fw s o ο;refine⟨(List.perm_ext_iff_of_nodup eW List.nodup_range).2 λk=>?_,λfq=>(List.perm_ext_iff_of_nodup SW List.nodup_range).2 λk=>?_,r4⟩
 ·rw[gb,List.mem_range];constructor
  ·rintro⟨j,m,g,ε,_⟩;have:=h.tt s j k m g q 0 ae ε Ξ;omega
  ·intro χ;obtain⟨j,m,g,_,ε⟩:=(zv tok s n k).1 (full k χ);exact⟨j,m,g,ε,by rw[r4 j k m g ε];simp⟩
 ·rw[lm,List.mem_range];constructor
  ·rintro⟨j,m,g,ε,_⟩;have:=h.tt s j k m g q 0 ae ε Ξ;omega
  ·intro χ;obtain⟨j,m,g,_,ε⟩:=(zv tok s n k).1 (full k χ);refine⟨j,m,g,ε,?_⟩;rcases h.oD j s k m g o ο ε (by rw[r4 j k m g ε];simp) with rfl|⟨_,e⟩
   ·trivial
   ·exact absurd e fq
end
section
variable {H H':cF->ψ} {aF px:Nat->Nat->Option (Array Value×TypeId)} {tok ev:Nat->Nat->Tok} {O O':Nat->Option aM} {bz:Nat->Nat} {deaf:Nat->Nat} {N ho:Nat} {t:Trace} {bs w w':World} {i:Nat} {y:MemOp} {b s:Nat} {o:aM}
theorem ofEvents_one {fn:FuncId} {pos:String} {e:Event}:MemOp.ofEvents i fn pos #[e]=#[{g:=i,fn,pos,act:=.ofEvent e}]:=by rw[ofEvents_eq];simp
theorem iE.word (h:iE H aF tok O bz deaf N t) (Ο:y.g=i) (ν:y.act=.mark (.acquire ⟨b,0,none⟩)\/y.act=.mark (.releaseMerge ⟨b,0,none⟩)) (hb:b<N) (cj:l8 O O') (hv:∀j b v,px j b=some v->aF j b=some v)
  (ω:∀k,dm (t++#[y]) (jv ev O' (t++#[y]) k) (H' k)):iE H' px ev O' bz deaf N (t++#[y]):=by
 have nt:y.act.touch?=none:=by rcases ν with e|e<;>rw[e]<;>rfl
 have old:∀k a,touchAt (t++#[y]) k=some a->touchAt t k=some a/\k<t.size:=λk a χ=>by
  obtain⟨x,U,xj⟩:=touch_of χ;rcases getElem?_append_cases U with⟨aH,hF⟩|⟨_,gd⟩
  ·exact⟨by rw[touchAt_of hF];exact xj,aH⟩
  ·simp at gd;subst gd;rw[nt] at xj;cases xj
 refine⟨λsaid=>noRace_append (g:=i) (h.race said) (λop Ν=>by simp at Ν;subst Ν;exact Ο) (λk a _ op Ν c ζ _=>by simp at Ν;subst Ν;rw[nt] at ζ;cases ζ),λop Ν=>?_,λop Ν a=>?_,ω,λj c v ζ k a χ=>h.ox j c v (hv j c v ζ) k a (old k a χ).1,λs o' c ο ζ k a χ fa=>?_,λj=>?_⟩
 ·rcases Array.mem_append.1 Ν with Ν|Ν
  ·exact h.low op Ν
  ·simp at Ν;subst Ν;rcases ν with e|e<;>rw[e]<;>exact hb
 ·rcases Array.mem_append.1 Ν with Ν|Ν
  ·exact h.norel op Ν a
  ·simp at Ν;subst Ν;rcases ν with e|e<;>rw[e]<;>simp
 ·obtain⟨lk,J,γ⟩:=cj.1 s o' ο;obtain⟨π,Μ⟩:=old k a χ;rcases h.cont s lk c J (by rw[γ];exact ζ) k a π fa with x|⟨x,dd⟩
  ·exact .inl x
  ·exact .inr ⟨x,by rw[g?_old Μ];exact dd⟩
 ·rw[Deaf_push,<-h.hears j];rcases ν with e|e<;>simp[deafStep,e]
theorem iE.xx (h:iE H aF tok O bz deaf N t) (k:cF) (nt:y.act.touch?=none) (cj:l8 O O') (dK:∀i s,ev i s≠.nil->tok i s≠.nil):dm (t++#[y]) (jv ev O' (t++#[y]) k) (H k):=
 (h.perms k).others (λ_ χ=>Ch cj.1 dK (Gc _ χ)) λop Ν a ν=>by simp at Ν;subst Ν;rw[nt] at ν;cases ν
theorem Knows.marked {p:Nat} {op:MemOp} (J:t[p]?=some op) (γ:op.act=.mark (.releaseMerge ⟨b,0,none⟩)) (π:t.heard p) (eb:∀op∈t,∀a,op.act≠.mark (.release a)) (Υ:y.g=i) (Ο:y.act=.mark (.acquire ⟨b,0,none⟩)) (hd:Deaf t i=0):Knows (t++#[y]) i p:=by
 have ig:(t++#[y])[t.size]?=some y:=by simp
 have zn:(t++#[y]).heard t.size:=⟨i,by simp[Trace.g?,Υ],by rw[deaf_old (Nat.le_refl _)];exact hd⟩
 have ω:=lt_size_of_getElem? J;refine⟨t.size,y,ig,Υ,.inr (.single (.inr ⟨.marked (a:=⟨b,0,none⟩) ω (.inr ?_) ?_ ?_,(heard_old ω).2 π,zn⟩))⟩
 ·rw[act?_old ω,act?_of J,γ]
 ·rw[act?_of ig,Ο]
 ·intro ab ih eO kg;rw[act?_old eO] at kg;obtain⟨rY,jx,ie⟩:=Option.map_eq_some_iff.1 kg;exact eb rY (mem_of_getElem? jx) _ ie
theorem dm.m2 {jr:Nat->Prop} {G:ψ} (h:dm t jr G) (nt:y.act.touch?=none) (χ:∀k,jr k->Knows (t++#[y]) i k):dm (t++#[y]) (Knows (t++#[y]) i) G:=
 h.others χ λop Ν a ν=>by simp at Ν;subst Ν;rw[nt] at ν;cases ν
theorem Sub.empty (G:ψ):Sub ψ.empty G:=⟨λ_ _ _ _ h=>(by cases h),λ_ _ h=>(by cases h),λ_ _ h=>(by cases h)⟩
theorem Sub.both {A B aI:ψ} (h:Sub A aI) (k:Sub B aI):Sub (join A B) aI:=by
 refine⟨λb o v p ζ=>?_,λb x μ=>?_,λb x hv=>?_⟩
 ·simp only[join] at ζ;cases Υ:A.aG b o with
  | none=>rw[Υ] at ζ;exact k.aG b o v p ζ
  | some z=>rw[Υ] at ζ;cases ζ;exact h.aG b o v p Υ
 ·simp only[join] at μ;cases Υ:A.row b with
  | none=>rw[Υ] at μ;exact k.row b x μ
  | some z=>rw[Υ] at μ;cases μ;exact h.row b _ Υ
 ·simp only[join] at hv;cases Υ:A.obj b with
  | none=>rw[Υ] at hv;exact k.obj b x hv
  | some z=>rw[Υ] at hv;cases hv;exact h.obj b _ Υ
theorem Sub.SX {G H:ψ} (cX:Fits G w) (Β:Fits H w) (ap:Apart G H):Sub H (join G H):=by
 refine⟨λb o v p ζ=>?_,λb x μ=>?_,λb x hv=>?_⟩
 ·simp only[join];cases Υ:G.aG b o with
  | none=>exact⟨p,ζ,id⟩
  | some z=>
   obtain⟨e',e2⟩:=z;have Ε:=cX.aG b o e' e2 Υ;have Ζ:=Β.aG b o v p ζ;rw[Ε] at Ζ;cases Ζ;refine⟨e2,rfl,λω=>?_⟩;subst ω;exact absurd ⟨_,Υ⟩ (ap.qw b o ⟨_,ζ⟩)
 ·simp only[join];cases Υ:G.row b with
  | none=>exact μ
  | some z=>
   obtain⟨t1,hI⟩:=z;obtain⟨t2,fP⟩:=x;obtain⟨c1,a1,ba⟩:=cX.row b t1 hI Υ;obtain⟨c2,bP,dw⟩:=Β.row b t2 fP μ;rw[a1] at bP;cases bP;rw[<-ba,<-dw]
 ·simp only[join];cases Υ:G.obj b with
  | none=>exact hv
  | some z=>exact absurd ⟨x,hv⟩ (ap.obj b ⟨z,Υ⟩)
theorem Gu (G:ψ):join G ψ.empty=G:=by
 obtain⟨a,b,c⟩:=G;simp only[join,ψ.empty];congr
 ·funext x y;cases a x y<;>rfl
 ·funext x;cases b x<;>rfl
 ·funext x;cases c x<;>rfl
theorem g2.xy (h:g2 H aF O bs w) (hv:∀j b v,px j b=some v->aF j b=some v):g2 H px O bs w:=⟨h.fit,λj b c t hb=>h.l7 j b c t (hv j b _ hb),h.fF,h.keep⟩
theorem ic.xy (h:ic H aF O ho) (hv:∀j b v,px j b=some v->aF j b=some v):ic H px O ho:=by
 have LN:∀j b,aF j b=none->px j b=none:=λj b e=>by
  cases U:px j b with
  | none=>rfl
  | some v=>rw[hv j b v U] at e;cases e
 exact⟨h.apart,h.high,h.nM,λj b v hb=>let ⟨a1,ba,cm⟩:=h.fresh j b v (hv j b v hb);⟨a1,ba,λk χ=>LN k b (cm k χ)⟩,λs o b ο hb=>let ⟨a1,ba,cm⟩:=h.j' s o b ο hb;⟨a1,ba,λk=>LN k b (cm k)⟩,h.ky,h.pv,h.eu⟩
theorem ki {o':aM} (Γ:O s=some o) {r:Nat} {q:aM} (h:upd O s (some o') r=some q):(r=s/\q=o')\/(r≠s/\O r=some q):=by
 by_cases e:r=s
 ·subst e;rw[upd_same] at h;cases h;exact .inl ⟨rfl,rfl⟩
 ·rw[upd_ne _ _ e] at h;exact .inr ⟨e,h⟩
theorem Ct {a b:Tok} (Ξ:tok i s=a) (ν:∀q p,a≠.par q p .bF) (hb:∀q p,b≠.par q p .bF) (j r q p:Nat):b1 tok i s b j r=.par q p .bF↔tok j r=.par q p .bF:=by
 by_cases e:j=i/\r=s
 ·obtain⟨rfl,rfl⟩:=e;rw[e1,Ξ];exact⟨λx=>absurd x (hb q p),λx=>absurd x (ν q p)⟩
 ·rw[eT _ e]
theorem zw {a b:Tok} (Ξ:tok i s=a) (ν:a≠.nil) (j r:Nat) (h:b1 tok i s b j r≠.nil):tok j r≠.nil:=by
 by_cases e:j=i/\r=s
 ·obtain⟨rfl,rfl⟩:=e;rw[Ξ];exact ν
 ·rw[eT _ e] at h;exact h
theorem zx {a b:Tok} (Ξ:tok i s=a) (hb:∀k m g,a=.ch k m g->∃k m g,b=.ch k m g) (j r k:Nat) (m:k') (g:tk) (h:tok j r=.ch k m g):∃k m g,b1 tok i s b j r=.ch k m g:=by
 by_cases e:j=i/\r=s
 ·obtain⟨rfl,rfl⟩:=e;rw[e1];exact hb k m g (Ξ▸h)
 ·rw[eT _ e];exact⟨k,m,g,h⟩
end
section
variable {P:Program} {Q:Value->Prop} {bs:World} {c c':c5} {gs:Array Goroutine} {w w':World} {t:Trace} {i:Nat} {g g':Goroutine} {es:Array Event}
variable {f:Bool×Goroutine×aU->fZ (Bool×Goroutine×aU)}
theorem Inv.Cu (h:Inv P Q bs c gs w t) (Υ:gs[i]?=some g) (χ:K9 P (i==0) (lp P Q f) g (c.x i)):hV P Q bs c gs w t i f:=by
 obtain⟨s,sp,m,k,g',J,γ,π,Μ,aB,bc,cE,Gv⟩:=χ;have bb:i<gs.size:=me Υ;obtain⟨o,Γ,bX⟩:=h.bh.qE i s sp J;subst bX;have dK:c.tok i s=.ch k .own .work:=π;have hd:c.deaf i=0:=Μ;have eb:c.rel i=false:=bc;have ο:=cE w (h.mem.fit (.inl i));have vr:=h.bh.LK Γ dK (by simp);have de:=h.eu.pw s o m Γ γ vr (λj ab L g ε=>by
  have:=h.bh.only Γ (i:=i) (by rw[dK];rfl) j ab L g ε;subst this;rw[dK] at ε;cases ε)
 have bg:=Gv o.L (c.H (.inr m)) de (h.hold.apart _ _ (by simp)) ⟨(h.bh.fw s o Γ).1,λχ=>(by
  obtain⟨j,b2,ag,Ε,Ζ⟩:=((h.bh.fw s o Γ).2 k).1 χ;have:=h.bh.vg s j i k b2 ag _ _ Ε dK;subst this;rw[dK] at Ε;cases Ε;exact Ζ),w,h.mem.fit _,h.mem.fit _⟩
 let dd:aU:={c.x i with G:=join (c.H (.inl i)) (c.H (.inr m)),tok:=upd (c.tok i) s (.ch k (.dj o.L) .work),view:=upd (c.view i) s none}
 let c':c5:={c with H:=bM (bM c.H (.inl i) (join (c.H (.inl i)) (c.H (.inr m)))) (.inr m) ψ.empty,tok:=b1 c.tok i s (.ch k (.dj o.L) .work),view:=upd c.view i (upd (c.view i) s none),O:=upd c.O s (some o),T:=upd c.T i (f (i==0,g',dd))}
 have cj:=l8.upd (o':=o) Γ rfl
 have bF:=Ct (b:=.ch k (.dj o.L) .work) dK (by simp) (by simp)
 have nil:=zw (b:=.ch k (.dj o.L) .work) dK (by simp)
 have hm:ei s o.toSpec m:=.inr γ;refine hV.go (c':=c') Υ ο ?_ _ rfl;rw[ofEvents_one];have nO:c'.x i=dd:=by
  have:(Sum.inl i:cF)≠.inr m:=by simp
  simp[c',dd,c5.x,upd_same,vq,bN _ _ this]
 refine h.laid (c':=c') Υ (h.mem.two (zo (h.mem.fit _) (h.mem.fit _)) (vj w) λr q Χ=>?_) ?_ ?_ (h.bh.FY Γ dK) ⟨λr q b2 Χ df bj g4=>?_,λr q Χ bj=>?_⟩
  (h.dY.app bb (λop Ν=>by simp at Ν;subst Ν;rfl) (λU=>by rw[eb] at U;cases U) (λs q p ⟨j,x⟩=>⟨j,(bF j s q p).1 x⟩) (λj s q p x=>(bF j s q p).1 x))
  (h.gb.app h.bQ.low (λop Ν b hb=>by simp at Ν;subst Ν;cases hb) (λj b v hv=>.inl ⟨v,hv⟩) (λr q Χ=>?_) (λj r ab mu g e=>zx dK (λ_ _ _ _=>⟨_,_,_,rfl⟩) j r ab mu g e))
  ⟨g',?_,.inl rfl⟩ (λj ε=>⟨?_,upd_ne _ _ ε⟩) (.inr λj r q _ a b=>?_)
 ·rcases ki Γ Χ with⟨rfl,rfl⟩|⟨_,b8⟩
  ·exact h.mem.fF _ _ Γ
  ·exact h.mem.fF _ _ b8
 ·exact h.hold.two (by simp) (Sub.refl _) (Sub.empty _) (Apart.tv _) cj λx U=>by
   rcases U with e|e
   ·cases e;exact⟨s,o,Γ,hm⟩
   ·cases e
 ·refine h.bQ.word (i:=i) rfl (.inl rfl) (h.low Γ hm) cj (λ_ _ _ x=>x) λa=>?_;by_cases Ζ:a=.inr m
  ·subst Ζ;show dm _ _ (bM _ _ _ _);rw[dD];exact dm.empty
  ·show dm _ _ (bM _ _ _ _);rw[bN _ _ Ζ];by_cases Ε:a=.inl i
   ·subst Ε;rw[dD];exact((h.bQ.perms (.inl i)).own (λop Ν=>by simp at Ν;subst Ν;rfl)).join ((h.bQ.perms (.inr m)).acquire h.bQ.norel Γ hm (by rw[dK];simp) rfl rfl (by rw[h.bQ.hears];exact hd))
   ·rw[bN _ _ Ε];exact h.bQ.xx a rfl cj nil
 ·rcases ki Γ Χ with⟨rfl,rfl⟩|⟨e,b8⟩
  ·exact absurd (e1 ..) (g4 i k q.L .work)
  ·have bw:(.inr b2:cF)≠.inr m:=λx=>by cases x;exact e (h.hold.ky r s q o m b8 Γ (.inr df) hm)
   show q.aI q.L (bM (bM c.H _ _) (.inr m) _ (.inr b2));rw[bN _ _ bw,iF];exact h.eu.pw r q b2 b8 df (λj q p x=>bj j q p ((bF j r q p).2 x)) λj k L g x=>g4 j k L g (by show b1 c.tok i s _ j r=_;rw[eT _ (λy=>e y.2)];exact x)
 ·rcases ki Γ Χ with⟨rfl,rfl⟩|⟨e,b8⟩
  ·have bw:(.inr r:cF)≠.inr m:=λx=>by cases x;exact h.hold.pv _ q m Γ γ rfl
   show ll q.D q.af (bM (bM c.H _ _) (.inr m) _ (.inr r));rw[bN _ _ bw,iF];exact h.eu.l' r q Γ (λj q p x=>bj j q p ((bF j r q p).2 x))
  ·have bw:(.inr r:cF)≠.inr m:=λx=>by cases x;exact e (h.hold.ky m s q o m b8 Γ (.inl rfl) hm)
   show ll q.D q.af (bM (bM c.H _ _) (.inr m) _ (.inr r));rw[bN _ _ bw,iF];exact h.eu.l' r q b8 (λj q p x=>bj j q p ((bF j r q p).2 x))
 ·rcases ki Γ Χ with⟨rfl,rfl⟩|⟨_,b8⟩
  ·exact⟨_,Γ,rfl⟩
  ·exact⟨q,b8,rfl⟩
 ·rw[nO];show ju P Q (upd c.T i (f (i==0,g',dd)) i) _ _ _;rw[upd_same];exact bg
 ·have hI:(Sum.inl j:cF)≠.inr m:=by simp
  have fP:(Sum.inl j:cF)≠.inl i:=λe=>ε (by cases e;rfl);simp[c',c5.x,upd_ne _ _ ε,r5 _ ε,bN _ _ hI,bN _ _ fP]
 ·exact⟨q,by show upd c.O s (some o) r=some q;rw[Cq Γ];exact a,b⟩
theorem Inv.Gw (h:Inv P Q bs c gs w t) (Υ:gs[i]?=some g) (χ:La P (i==0) (lp P Q f) g (c.x i)):hV P Q bs c gs w t i f:=by
 obtain⟨s,sp,m,k,L,g',G',E,J,γ,π,Μ,aB,bc,cE,mg,dn,bg⟩:=χ;have bb:i<gs.size:=me Υ;obtain⟨o,Γ,bX⟩:=h.bh.qE i s sp J;subst bX;have dK:c.tok i s=.ch k (.dj L) .work:=π;have hd:c.deaf i=0:=Μ;have eb:c.rel i=false:=bc;have ο:=cE w (h.mem.fit (.inl i));have aD:o.L=L:=h.bh.dj i s k L .work o Γ dK;let o':aM:={o with L:=o.L++[k]};let dd:aU:={c.x i with G:=G',tok:=upd (c.tok i) s (.ch k .fin .work),view:=upd (c.view i) s none};let c':c5:={c with H:=bM (bM c.H (.inl i) G') (.inr m) E,tok:=b1 c.tok i s (.ch k .fin .work),view:=upd c.view i (upd (c.view i) s none),O:=upd c.O s (some o'),T:=upd c.T i (f (i==0,g',dd))};have cj:l8 c.O (upd c.O s (some o')):=l8.upd Γ rfl;have bF:=Ct (b:=.ch k .fin .work) dK (by simp) (by simp);have nil:=zw (b:=.ch k .fin .work) dK (by simp);have hm:ei s o.toSpec m:=.inr γ;refine hV.go (c':=c') Υ ο ?_ _ rfl;rw[ofEvents_one];have nO:c'.x i=dd:=by
  have:(Sum.inl i:cF)≠.inr m:=by simp
  simp[c',dd,c5.x,upd_same,vq,bN _ _ this]
 refine h.laid (c':=c') Υ (h.mem.two (mg.l.fits (h.mem.fit (.inl i))) (mg.r.fits (h.mem.fit (.inl i))) λr q Χ=>?_) ?_ ?_ (h.bh.St Γ dK) ⟨λr q b2 Χ df bj g4=>?_,λr q Χ bj=>?_⟩
  (h.dY.app bb (λop Ν=>by simp at Ν;subst Ν;rfl) (λU=>by rw[eb] at U;cases U) (λs q p ⟨j,x⟩=>⟨j,(bF j s q p).1 x⟩) (λj s q p x=>(bF j s q p).1 x))
  ⟨λr q b2 Χ df p op ω ν=>?_,λj b v hv op Ν ν=>?_⟩
  ⟨g',?_,.inl rfl⟩ (λj ε=>⟨?_,upd_ne _ _ ε⟩) (.inr λj r q _ a b=>?_)
 ·rcases ki Γ Χ with⟨rfl,rfl⟩|⟨_,b8⟩
  ·exact(h.mem.fF r o Γ:At r o w)
  ·exact h.mem.fF _ _ b8
 ·exact h.hold.two (by simp) mg.l.qF mg.r.qF mg.apart cj λx U=>by
   rcases U with e|e
   ·cases e;exact⟨s,o,Γ,hm⟩
   ·cases e
 ·refine h.bQ.word (i:=i) rfl (.inr rfl) (h.low Γ hm) cj (λ_ _ _ x=>x) λa=>?_;by_cases Ζ:a=.inr m
  ·subst Ζ;show dm _ _ (bM _ _ _ _);rw[dD];exact((dm.release (h.bQ.perms (.inl i)) rfl rfl (by rw[h.bQ.hears];exact hd)).sub mg.r).mono λ_ x=>Ch cj.1 nil x
  ·show dm _ _ (bM _ _ _ _);rw[bN _ _ Ζ];by_cases Ε:a=.inl i
   ·subst Ε;rw[dD];exact((h.bQ.perms (.inl i)).own (λop Ν=>by simp at Ν;subst Ν;rfl)).sub mg.l
   ·rw[bN _ _ Ε];exact h.bQ.xx a rfl cj nil
 ·rcases ki Γ Χ with⟨rfl,rfl⟩|⟨e,b8⟩
  ·have e:b2=m:=by have:o.aT=some b2:=df;rw[γ] at this;cases this;rfl
   subst e;show o.aI (o.L++[k]) (bM (bM c.H _ _) (.inr b2) _ (.inr b2));rw[dD,aD];exact dn
  ·have bw:(.inr b2:cF)≠.inr m:=λx=>by cases x;exact e (h.hold.ky r s q o m b8 Γ (.inr df) hm)
   show q.aI q.L (bM (bM c.H _ _) (.inr m) _ (.inr b2));rw[bN _ _ bw,iF];exact h.eu.pw r q b2 b8 df (λj q p x=>bj j q p ((bF j r q p).2 x)) λj k L g x=>g4 j k L g (by show b1 c.tok i s _ j r=_;rw[eT _ (λy=>e y.2)];exact x)
 ·rcases ki Γ Χ with⟨rfl,rfl⟩|⟨e,b8⟩
  ·have bw:(.inr r:cF)≠.inr m:=λx=>by cases x;exact h.hold.pv _ o m Γ γ rfl
   show ll o.D o.af (bM (bM c.H _ _) (.inr m) _ (.inr r));rw[bN _ _ bw,iF];exact h.eu.l' r o Γ (λj q p x=>bj j q p ((bF j r q p).2 x))
  ·have bw:(.inr r:cF)≠.inr m:=λx=>by cases x;exact e (h.hold.ky m s q o m b8 Γ (.inl rfl) hm)
   show ll q.D q.af (bM (bM c.H _ _) (.inr m) _ (.inr r));rw[bN _ _ bw,iF];exact h.eu.l' r q b8 (λj q p x=>bj j q p ((bF j r q p).2 x))
 ·rcases getElem?_append_cases ω with⟨_,hU⟩|⟨_,gd⟩
  ·have zy:∀hJ,c.O r=some hJ->hJ.aT=some b2->(∃ab mu g,b1 c.tok i s (.ch k .fin .work) op.g r=.ch ab mu g)/\(c.rel op.g=true->Before (t++#[{g:=i,fn:=g.frame.fn,pos:=g.frame.place,act:=MemAct.ofEvent (Go.ConcR.mk (Mark.releaseMerge {block:=m,off:=0}))}]) p (c.dx op.g)):=λhJ Ε Ζ=>by
    obtain⟨⟨ab,mu,g,π⟩,Μ⟩:=h.gb.iW r hJ b2 Ε Ζ p op hU ν;exact⟨zx dK (λ_ _ _ _=>⟨_,_,_,rfl⟩) _ _ _ _ _ π,λμ=>(Μ μ).app _⟩
   rcases ki Γ Χ with⟨rfl,rfl⟩|⟨_,b8⟩
   ·exact zy o Γ df
   ·exact zy q b8 df
  ·simp at gd;subst gd;cases ν;have:r=s:=by
    rcases ki Γ Χ with⟨rfl,rfl⟩|⟨_,b8⟩
    ·rfl
    ·exact h.hold.ky r s q o m b8 Γ (.inr df) hm
   subst this;exact⟨⟨k,.fin,.work,e1 ..⟩,λμ=>by
    have:c.rel i=true:=μ;rw[eb] at this;cases this⟩
 ·rcases Array.mem_append.1 Ν with Ν|Ν
  ·exact h.gb.vn j b v hv op Ν ν
  ·simp at Ν;subst Ν;cases ν;have:=(h.hold.j' s o m Γ hm).2.2 j;have ln:c.aF j m=some v:=hv;rw[this] at ln;cases ln
 ·rw[nO];show ju P Q (upd c.T i (f (i==0,g',dd)) i) _ _ _;rw[upd_same];exact bg
 ·have hI:(Sum.inl j:cF)≠.inr m:=by simp
  have fP:(Sum.inl j:cF)≠.inl i:=λe=>ε (by cases e;rfl);simp[c',c5.x,upd_ne _ _ ε,r5 _ ε,bN _ _ hI,bN _ _ fP]
 ·by_cases e:r=s
  ·subst e;rw[Γ] at a;cases a;exact⟨o',upd_same ..,b⟩
  ·exact⟨q,by show upd c.O s (some o') r=some q;rw[upd_ne _ _ e];exact a,b⟩
end
section
variable {P:Program} {Q:Value->Prop} {bs:World} {c c':c5} {gs:Array Goroutine} {w w':World} {t:Trace} {i:Nat} {g g':Goroutine} {es:Array Event}
variable {f:Bool×Goroutine×aU->fZ (Bool×Goroutine×aU)}
theorem Inv.parent (h:Inv P Q bs c gs w t) {s:Nat} {o:aM} (Γ:c.O s=some o):c.bz s<gs.size/\∃q p ae,c.tok (c.bz s) s=.par q p ae:=by
 obtain⟨i0,kh,ω⟩:=B5 (φ:=eM) (N:=gs.size) (τ:=λa=>c.tok a s) (by rw[(h.bh.bm s o Γ).2.nK];exact Nat.one_pos);have zr:∃q p ae,c.tok i0 s=.par q p ae:=by
  cases U:c.tok i0 s with
  | par q p ae=>exact⟨q,p,ae,rfl⟩
  | nil=>simp[U,eM] at ω
  | ch=>simp[U,eM] at ω
 obtain⟨q,p,ae,U⟩:=zr;have cI:=h.bh.par i0 _ q p ae U;subst cI;exact⟨kh,q,p,ae,U⟩
theorem Inv.Gx (h:Inv P Q bs c gs w t) (Υ:gs[i]?=some g) (χ:Lb P (i==0) (lp P Q f) g (c.x i)):hV P Q bs c gs w t i f:=by
 obtain⟨s,sp,k,mu,g',E,J,π,tu,SY,Μ,aB,bc,cE,jV,dL,bg⟩:=χ;have bb:i<gs.size:=me Υ;obtain⟨o,Γ,bX⟩:=h.bh.qE i s sp J;subst bX;have dK:c.tok i s=.ch k mu .work:=π;have hd:c.deaf i=0:=Μ;have eb:c.rel i=false:=bc;have LO:∀bq,bq≠s->fO (c.tok i bq):=SY;have ο:=cE w (h.mem.fit (.inl i));obtain⟨kh,rZ,aH⟩:=h.bh.oB i s k mu .work dK;have vr:=h.bh.LK Γ dK (by simp);let y:MemOp:={g:=i,fn:=g.frame.fn,pos:=g.frame.place,act:=MemAct.ofEvent (Go.ConcR.mk (Mark.releaseMerge ⟨s,0,none⟩))};have Gy:y.act=.mark (.releaseMerge ⟨s,0,none⟩):=rfl;have ig:(t++#[y])[t.size]?=some y:=by simp
 have SZ:(t++#[y]).heard t.size:=⟨i,by simp[Trace.g?,y],by rw[deaf_old (Nat.le_refl _)];exact(h.bQ.hears i).trans hd⟩
 let o':aM:={o with af:=k::o.af}
 let dd:aU:={c.x i with G:=ψ.empty,aF:=λ_=>none,tok:=upd (c.tok i) s (.ch k mu .rel),view:=upd (c.view i) s none,rel:=true}
 let c':c5:={c with H:=bM (bM c.H (.inl i) ψ.empty) (.inr s) (join E (c.H (.inr s))),aF:=upd c.aF i λ_=>none,tok:=b1 c.tok i s (.ch k mu .rel),view:=upd c.view i (upd (c.view i) s none),O:=upd c.O s (some o'),rel:=upd c.rel i true,dx:=upd c.dx i t.size,T:=upd c.T i (f (i==0,g',dd))}
 have cj:l8 c.O (upd c.O s (some o')):=l8.upd Γ rfl
 have bF:=Ct (b:=.ch k mu .rel) dK (by simp) (by simp)
 have nil:=zw (b:=.ch k mu .rel) dK (by simp)
 have kj:ei s o.toSpec s:=.inl rfl
 have fG:∀j b v,upd c.aF i (λ_=>none) j b=some v->c.aF j b=some v:=λj b v hv=>by
  by_cases e:j=i
  ·subst e;rw[upd_same] at hv;cases hv
  ·rw[upd_ne _ _ e] at hv;exact hv
 have iG:=h.hold.apart (.inl i) (.inr s) (by simp)
 have hSub:Sub (join E (c.H (.inr s))) (join (c.H (.inl i)) (c.H (.inr s))):=Sub.both (Sub.qF jV) (Sub.SX (h.mem.fit _) (h.mem.fit _) iG)
 have LP:∀j r ab L g,c.tok j r=.ch ab (.dj L) g->b1 c.tok i s (.ch k mu .rel) j r=.ch ab (.dj L) g:=λj r ab L g ε=>by
  rw[eT _ (λe=>?_)]
  ·exact ε
  ·obtain⟨rfl,rfl⟩:=e;rw[dK] at ε;rcases tu with rfl|⟨rfl,_⟩<;>cases ε
 have rX:∀j,j≠i->∀r,b1 c.tok i s (.ch k mu .rel) j r=c.tok j r:=λj ε r=>eT _ λe=>ε e.1;refine hV.go (c':=c') Υ ο ?_ _ rfl;rw[ofEvents_one];have nO:c'.x i=dd:=by
  have:(Sum.inl i:cF)≠.inr s:=by simp
  simp[c',dd,c5.x,upd_same,vq,bN _ _ this]
 have S0:vm gs.size c'.tok c'.rel c'.bz c'.home c'.dx (t++#[y]):=by
  refine⟨λab g' hs=>?_,λj fy ε=>?_,λj fy ε bj=>?_,λj fy ε qM bL=>?_⟩
  ·obtain⟨op,Ν,hq⟩:=Option.map_eq_some_iff.1 hs;rcases getElem?_append_cases Ν with⟨_,kB⟩|⟨_,gd⟩
   ·exact h.dY.dC ab g' (by simp[Trace.g?,kB,hq])
   ·simp at gd;subst gd;rw[<-hq];exact bb
  ·by_cases e:j=i
   ·subst e;have Ε:c'.dx j=t.size:=upd_same ..;rw[Ε];refine⟨y,ig,rfl,by rw[Gy];show _=MemAct.mark (.releaseMerge ⟨c.home j,0,none⟩);rw[rZ],SZ,λab hs ζ=>?_⟩;obtain⟨op,Ν,hq⟩:=Option.map_eq_some_iff.1 hs;rcases getElem?_append_cases Ν with⟨qN,kB⟩|⟨hle,gd⟩
    ·exact .inr (hb_po qN Ν ig hq)
    ·exact absurd ζ (xv (u:=#[y]) (λop Ν=>by simp at Ν;subst Ν;rfl) ab hle)
   ·have bp:c.rel j=true:=by have:upd c.rel i true j=true:=ε;rwa [upd_ne _ _ e] at this
    have Ε:c'.dx j=c.dx j:=upd_ne _ _ e;rw[Ε];obtain⟨op,a1,ba,cm,fY,hH⟩:=h.dY.c1 j fy bp;have ω:=lt_size_of_getElem? a1;refine⟨op,by rw[getElem?_append_old ω];exact a1,ba,cm,(heard_old ω).2 fY,λab hs ζ=>?_⟩;obtain⟨rY,Ν,hq⟩:=Option.map_eq_some_iff.1 hs;rcases getElem?_append_cases Ν with⟨qN,kB⟩|⟨hle,gd⟩
    ·exact(hH ab (by simp[Trace.g?,kB,hq]) ((zq qN).1 ζ)).app _
    ·exact absurd ζ (xv (u:=#[y]) (λop Ν=>by simp at Ν;subst Ν;rfl) ab hle)
  ·obtain⟨q,p,Χ⟩:=bj;have b8:c.tok (c.bz (c.home j)) (c.home j)=.par q p .bF:=(bF _ _ q p).1 Χ;by_cases e:j=i
   ·subst e;rw[rZ] at b8;exact absurd b8 (vr _ q p)
   ·have bp:c.rel j=true:=by have:upd c.rel i true j=true:=ε;rwa [upd_ne _ _ e] at this
    have Ε:c'.dx j=c.dx j:=upd_ne _ _ e;rw[Ε];exact(h.dY.c2 j fy bp ⟨q,p,b8⟩).app _
  ·by_cases e:j=i
   ·subst e;exfalso;have S1:c.bz s≠0:=by rw[<-rZ];exact qM
    have bw:c.bz s≠j:=by omega
    have zz:c.rel (c.bz s)=true:=by
     have:upd c.rel j true (c.bz (c.home j))=true:=bL;rw[rZ,upd_ne _ _ bw] at this;exact this
    obtain⟨_,q,p,ae,r6⟩:=h.parent Γ;have cQ:fO (c.tok (c.bz s) s):=by
     by_cases Ζ:s=c.home (c.bz s)
     ·obtain⟨cy,ew,ag,eO⟩:=h.bh.rW (c.bz s) S1 (by omega);rw[<-Ζ,r6] at eO;cases eO
     ·exact h.bh.oC _ s zz Ζ
    rw[r6] at cQ;cases ae<;>first|exact cQ.elim|exact vr _ _ _ r6
   ·have bp:c.rel j=true:=by have:upd c.rel i true j=true:=ε;rwa [upd_ne _ _ e] at this
    have Ε:c'.dx j=c.dx j:=upd_ne _ _ e;rw[Ε];by_cases Ζ:c.bz (c.home j)=i
    ·have a6:c'.dx (c.bz (c.home j))=t.size:=by rw[Ζ];exact upd_same ..
     show Before _ _ (c'.dx (c.bz (c.home j)));rw[a6];obtain⟨op,a1,_⟩:=h.dY.c1 j fy bp;have e3:j<gs.size:=by
      obtain⟨op,a1,ba,_⟩:=h.dY.c1 j fy bp;exact h.dY.dC (c.dx j) j (by simp[Trace.g?,a1,ba])
     obtain⟨cy,ew,ag,eO⟩:=h.bh.rW j fy e3;obtain⟨iX,py⟩:=h.obj (i:=j) (s:=c.home j) (by rw[eO];simp);obtain⟨_,q,p,ae,r6⟩:=h.parent py;rw[Ζ] at r6;have bw:c.home j≠s:=λcD=>by rw[cD,dK] at r6;cases r6
     have cQ:=LO _ bw;rw[r6] at cQ;have g7:ae=.bF:=by cases ae<;>first|exact cQ.elim|rfl
     subst g7;have Gz:=h.dY.c2 j fy bp ⟨q,p,by rw[Ζ];exact r6⟩;rw[Ζ] at Gz;exact .inr (Gz.hb_new (u:=#[y]) (Nat.le_refl _) ig rfl)
    ·have a6:c'.dx (c.bz (c.home j))=c.dx (c.bz (c.home j)):=upd_ne _ _ Ζ
     show Before _ _ (c'.dx (c.bz (c.home j)));rw[a6];refine(h.dY.c3 j fy bp qM ?_).app _;have:upd c.rel i true (c.bz (c.home j))=true:=bL
     rwa [upd_ne _ _ Ζ] at this
 refine h.laid (c':=c') Υ ((h.mem.two (vj w) (zo (jV.fits (h.mem.fit (.inl i))) (h.mem.fit _)) λr q Χ=>?_).xy fG) ((h.hold.two (by simp) (Sub.empty _) hSub (Apart.tv _).symm cj λx U=>?_).xy fG) ?_ (h.bh.Su Γ dK tu LO) ⟨λr q b2 Χ df bj g4=>?_,λr q Χ bj=>?_⟩
  S0 ⟨λr q b2 Χ df p op ω ν=>?_,λj b v hv op Ν ν=>?_⟩
  ⟨g',?_,.inl rfl⟩ (λj ε=>⟨?_,upd_ne _ _ ε⟩) (.inr λj r q _ a b=>?_)
 ·rcases ki Γ Χ with⟨rfl,rfl⟩|⟨_,b8⟩
  ·exact(h.mem.fF r o Γ:At r o w)
  ·exact h.mem.fF _ _ b8
 ·rcases U with e|e
  ·cases e;exact⟨s,o,Γ,kj⟩
  ·cases e
 ·refine h.bQ.word (i:=i) rfl (.inr rfl) (h.low Γ kj) cj fG λa=>?_;by_cases Ζ:a=.inr s
  ·subst Ζ;show dm _ _ (bM _ _ _ _);rw[dD];exact(((dm.release (h.bQ.perms (.inl i)) rfl rfl (by rw[h.bQ.hears];exact hd)).sub jV).mono λ_ x=>Ch cj.1 nil x).join (h.bQ.xx (.inr s) rfl cj nil)
  ·show dm _ _ (bM _ _ _ _);rw[bN _ _ Ζ];by_cases Ε:a=.inl i
   ·subst Ε;rw[dD];exact dm.empty
   ·rw[bN _ _ Ε];exact h.bQ.xx a rfl cj nil
 ·rcases ki Γ Χ with⟨rfl,rfl⟩|⟨e,b8⟩
  ·have bw:(.inr b2:cF)≠.inr r:=λx=>by cases x;exact h.hold.pv _ o _ Γ df rfl
   show o.aI o.L (bM (bM c.H _ _) (.inr r) _ (.inr b2));rw[bN _ _ bw,iF];exact h.eu.pw r o b2 Γ df (λj q p x=>bj j q p ((bF j r q p).2 x)) λj k L g x=>g4 j k L g (LP _ _ _ _ _ x)
  ·have bw:(.inr b2:cF)≠.inr s:=λx=>e (h.hold.ky r s q o b2 b8 Γ (.inr df) (by cases x;exact kj))
   show q.aI q.L (bM (bM c.H _ _) (.inr s) _ (.inr b2));rw[bN _ _ bw,iF];exact h.eu.pw r q b2 b8 df (λj q p x=>bj j q p ((bF j r q p).2 x)) λj k L g x=>g4 j k L g (LP _ _ _ _ _ x)
 ·rcases ki Γ Χ with⟨rfl,rfl⟩|⟨e,b8⟩
  ·show ll o.D (k::o.af) (bM (bM c.H _ _) (.inr r) _ (.inr r));rw[dD];exact⟨E,c.H (.inr r),dL,h.eu.l' r o Γ (λj q p x=>bj j q p ((bF j r q p).2 x)),iG.sub jV (Sub.refl _),rfl⟩
  ·have bw:(.inr r:cF)≠.inr s:=λx=>by cases x;exact e rfl
   show ll q.D q.af (bM (bM c.H _ _) (.inr s) _ (.inr r));rw[bN _ _ bw,iF];exact h.eu.l' r q b8 (λj q p x=>bj j q p ((bF j r q p).2 x))
 ·rcases getElem?_append_cases ω with⟨qN,hU⟩|⟨_,gd⟩
  ·have zy:∀hJ,c.O r=some hJ->hJ.aT=some b2->(∃ab GA g,b1 c.tok i s (.ch k mu .rel) op.g r=.ch ab GA g)/\(c'.rel op.g=true->Before (t++#[y]) p (c'.dx op.g)):=λhJ Ε Ζ=>by
    obtain⟨⟨ab,GA,g,π⟩,Μ⟩:=h.gb.iW r hJ b2 Ε Ζ p op hU ν;refine⟨zx dK (λ_ _ _ _=>⟨_,_,_,rfl⟩) _ _ _ _ _ π,λμ=>?_⟩;by_cases e:op.g=i
    ·have Ε:c'.dx op.g=t.size:=by rw[e];exact upd_same ..
     rw[Ε];exact .inr (hb_po qN ω ig e)
    ·have Ε:c'.dx op.g=c.dx op.g:=upd_ne _ _ e
     have Ζ:c.rel op.g=true:=by have:upd c.rel i true op.g=true:=μ;rwa [upd_ne _ _ e] at this
     rw[Ε];exact(Μ Ζ).app _
   rcases ki Γ Χ with⟨rfl,rfl⟩|⟨_,b8⟩
   ·exact zy o Γ df
   ·exact zy q b8 df
  ·simp at gd;subst gd;cases ν;exfalso;rcases ki Γ Χ with⟨rfl,rfl⟩|⟨e,b8⟩
   ·exact h.hold.pv _ o _ Γ df rfl
   ·exact e (h.hold.ky r s q o s b8 Γ (.inr df) kj)
 ·have ln:=fG j b v hv;rcases Array.mem_append.1 Ν with Ν|Ν
  ·exact h.gb.vn j b v ln op Ν ν
  ·simp at Ν;subst Ν;cases ν;have:=(h.hold.j' s o s Γ kj).2.2 j;rw[this] at ln;cases ln
 ·rw[nO];show ju P Q (upd c.T i (f (i==0,g',dd)) i) _ _ _;rw[upd_same];exact bg
 ·have hI:(Sum.inl j:cF)≠.inr s:=by simp
  have fP:(Sum.inl j:cF)≠.inl i:=λe=>ε (by cases e;rfl);simp[c',c5.x,upd_ne _ _ ε,r5 _ ε,bN _ _ hI,bN _ _ fP]
 ·by_cases e:r=s
  ·subst e;rw[Γ] at a;cases a;exact⟨o',upd_same ..,b⟩
  ·exact⟨q,by show upd c.O s (some o') r=some q;rw[upd_ne _ _ e];exact a,b⟩
theorem Inv.Cv (h:Inv P Q bs c gs w t) (Υ:gs[i]?=some g) (χ:Lc P (i==0) (lp P Q f) g (c.x i)):hV P Q bs c gs w t i f:=by
 obtain⟨s,sp,n,ae,g',J,π,g7,Μ,aB,bc,cE,Gv⟩:=χ;have bb:i<gs.size:=me Υ;obtain⟨o,Γ,bX⟩:=h.bh.qE i s sp J;subst bX;have dK:c.tok i s=.par n 0 ae:=π;have hd:c.deaf i=0:=Μ;have eb:c.rel i=false:=bc;have ο:=cE w (h.mem.fit (.inl i));have qM:=h.bh.par i s n 0 ae dK;obtain⟨LQ,lq,r4⟩:=h.bh.full Γ dK g7;have kj:ei s o.toSpec s:=.inl rfl;have vr:∀j q p,c.tok j s≠.par q p .bF:=λj q p ε=>by
  have e:=h.bh.par j s q p .bF ε;rw[<-qM] at e;subst e;rw[dK] at ε;rcases g7 with rfl|rfl<;>cases ε
 let y:MemOp:={g:=i,fn:=g.frame.fn,pos:=g.frame.place,act:=MemAct.ofEvent (Go.ConcR.mk (Mark.acquire ⟨s,0,none⟩))}
 have Gy:y.act=.mark (.acquire ⟨s,0,none⟩):=rfl
 have vu:Deaf t i=0:=by rw[h.bQ.hears];exact hd
 have cj:l8 c.O (upd c.O s (some o)):=l8.upd Γ rfl
 have nil:=zw (b:=.par n 0 .bF) dK (by simp)
 have LR:∀j,(∃k m g,c.tok j s=.ch k m g)->j≠0/\c.home j=s/\c.rel j=true/\Knows (t++#[y]) i (c.dx j):=λj ⟨k,m,g,ε⟩=>by
  obtain⟨a1,ba,_⟩:=h.bh.oB j s k m g ε;have cm:c.rel j=true:=(h.bh.g3 j k m g a1 (by rw[ba];exact ε)).2 (by rw[r4 j k m g ε];simp);obtain⟨op,bP,dw,fN,mc,_⟩:=h.dY.c1 j a1 cm;rw[ba] at fN;exact⟨a1,ba,cm,Knows.marked bP fN mc h.bQ.norel rfl Gy vu⟩
 have S2:=h.eu.l' s o Γ vr;obtain⟨bO,eB,S3,S4,S5,S6,S7,jz,iZ,GB,kC,GC,GD,GF⟩:∃(bO:cF->ψ) (eB:ψ),Fits eB w/\(o.aT≠none->o.aI o.L eB)/\(o.aT=none->eB=ψ.empty)/\Apart (c.H (.inl i)) eB/\Apart (c.H (.inr s)) eB/\
   bO (.inl i)=join (join (c.H (.inl i)) (c.H (.inr s))) eB/\(∀j,j≠i->bO (.inl j)=c.H (.inl j))/\(∀m,o.aT=some m->bO (.inr m)=ψ.empty)/\(∀b,b≠s->o.aT≠some b->bO (.inr b)=c.H (.inr b))/\
   ic bO c.aF (upd c.O s (some o)) bs.heap.size/\g2 bO c.aF (upd c.O s (some o)) bs w/\∀a,dm (t++#[y]) (jv (b1 c.tok i s (.par n 0 .bF)) (upd c.O s (some o)) (t++#[y]) a) (bO a):=by
  have ma:∀r q,upd c.O s (some o) r=some q->At r q w:=λr q Χ=>by
   rcases ki Γ Χ with⟨rfl,rfl⟩|⟨_,b8⟩
   ·exact h.mem.fF _ _ Γ
   ·exact h.mem.fF _ _ b8
  have xz:dm (t++#[y]) (Knows (t++#[y]) i) (join (c.H (.inl i)) (c.H (.inr s))):=
   ((h.bQ.perms (.inl i)).own (λop Ν=>by simp at Ν;subst Ν;rfl)).join ((h.bQ.perms (.inr s)).acquire h.bQ.norel Γ kj (by rw[dK];simp) rfl rfl vu)
  have LS:ic (bM (bM c.H (.inl i) (join (c.H (.inl i)) (c.H (.inr s)))) (.inr s) ψ.empty) c.aF (upd c.O s (some o)) bs.heap.size:=
   h.hold.two (by simp) (Sub.refl _) (Sub.empty _) (Apart.tv _) cj λx U=>by
    rcases U with e|e
    ·cases e;exact⟨s,o,Γ,kj⟩
    ·cases e
  have LU:g2 (bM (bM c.H (.inl i) (join (c.H (.inl i)) (c.H (.inr s)))) (.inr s) ψ.empty) c.aF (upd c.O s (some o)) bs w:=h.mem.two (zo (h.mem.fit _) (h.mem.fit _)) (vj w) ma
  have pz:(Sum.inl i:cF)≠.inr s:=by simp
  cases fq:o.aT with
  | none=>
   refine⟨bM (bM c.H (.inl i) (join (c.H (.inl i)) (c.H (.inr s)))) (.inr s) ψ.empty,ψ.empty,vj w,λx=>absurd rfl x,λ_=>rfl,Apart.tv _,Apart.tv _,?_,λj ε=>?_,λm hm=>(by cases hm),λb hb _=>?_,LS,LU,λa=>?_⟩
   ·rw[bN _ _ pz,dD,Gu]
   ·have fP:(Sum.inl j:cF)≠.inl i:=λe=>ε (by cases e;rfl);rw[bN _ _ (by simp),bN _ _ fP]
   ·have fP:(Sum.inr b:cF)≠.inr s:=λe=>hb (by cases e;rfl);rw[bN _ _ fP,iF]
   ·by_cases Ζ:a=.inr s
    ·subst Ζ;rw[dD];exact dm.empty
    ·rw[bN _ _ Ζ];by_cases Ε:a=.inl i
     ·subst Ε;rw[dD];exact xz
     ·rw[bN _ _ Ε];exact h.bQ.xx a rfl cj nil
  | some m=>
   have hm:ei s o.toSpec m:=.inr fq
   have r7:m≠s:=h.hold.pv s o m Γ fq
   have r8:(Sum.inr m:cF)≠.inr s:=λe=>r7 (by cases e;rfl)
   have LV:(Sum.inl i:cF)≠.inr m:=by simp
   have S8:∀j k L g,c.tok j s≠.ch k (.dj L) g:=λj k L g ε=>by
    rcases h.bh.oD j s k _ g o Γ ε (by rw[r4 j k _ g ε];simp) with e|⟨e,_⟩<;>cases e
   have S9:=h.eu.pw s o m Γ fq vr S8
   have S':Apart (c.H (.inr s)) (c.H (.inr m)):=h.hold.apart _ _ (Ne.symm r8)
   have Ta:Apart (c.H (.inl i)) (c.H (.inr m)):=h.hold.apart _ _ LV
   have dZ:bM (bM c.H (.inl i) (join (c.H (.inl i)) (c.H (.inr s)))) (.inr s) ψ.empty (.inl i)=join (c.H (.inl i)) (c.H (.inr s)):=by rw[bN _ _ pz,dD]
   have dM:bM (bM c.H (.inl i) (join (c.H (.inl i)) (c.H (.inr s)))) (.inr s) ψ.empty (.inr m)=c.H (.inr m):=by rw[bN _ _ r8,iF]
   have Tb:=LS.two (a:=.inl i) (b:=.inr m) (A:=join (join (c.H (.inl i)) (c.H (.inr s))) (c.H (.inr m))) (B:=ψ.empty) (O':=upd c.O s (some o)) (by simp) (by rw[dZ,dM];exact Sub.refl _) (Sub.empty _) (Apart.tv _) ⟨λs o' ο=>⟨o',ο,rfl⟩,λs o' ο=>⟨o',ο,rfl⟩⟩ λx U=>by
    rcases U with e|e
    ·cases e;exact⟨s,o,upd_same ..,hm⟩
    ·cases e
   have Tc:=LU.two (a:=.inl i) (b:=.inr m) (A:=join (join (c.H (.inl i)) (c.H (.inr s))) (c.H (.inr m))) (B:=ψ.empty) (O':=upd c.O s (some o)) (zo (zo (h.mem.fit _) (h.mem.fit _)) (h.mem.fit _)) (vj w) ma;refine⟨_,c.H (.inr m),h.mem.fit _,λ_=>S9,λx=>(by cases x),Ta,S',?_,λj ε=>?_,λb2 df=>?_,λb hb dG=>?_,Tb,Tc,λa=>?_⟩
   ·rw[bN _ _ LV,dD]
   ·have fP:(Sum.inl j:cF)≠.inl i:=λe=>ε (by cases e;rfl);rw[bN _ _ (by simp),bN _ _ fP,bN _ _ (by simp),bN _ _ fP]
   ·cases df;rw[dD]
   ·have fP:(Sum.inr b:cF)≠.inr s:=λe=>hb (by cases e;rfl)
    have Cw:(Sum.inr b:cF)≠.inr m:=λe=>dG (by cases e;rfl);rw[bN _ _ Cw,iF,bN _ _ fP,iF]
   ·by_cases a6:a=.inr m
    ·subst a6;rw[dD];exact dm.empty
    ·rw[bN _ _ a6];by_cases Ε:a=.inl i
     ·subst Ε;rw[dD];refine xz.join ((h.bQ.perms (.inr m)).m2 rfl λk χ=>?_);rcases χ with⟨p,op,a1,ba,cm,fY⟩|χ
      ·obtain⟨mb,dw⟩:=h.gb.iW s o m Γ fq p op a1 ba;obtain⟨_,_,c3,c4⟩:=LR op.g mb;have hb:=(dw c3).app #[y];refine Knows.of_before ?_ c4;rcases hb with e|hb
       ·rw[<-e];exact fY.app _
       ·exact .inr ((fY.app #[y]).hb hb)
      ·exact(χ s o Γ hm i (by rw[dK];simp)).app _
     ·rw[bN _ _ Ε];by_cases Ζ:a=.inr s
      ·subst Ζ;rw[dD];exact dm.empty
      ·rw[bN _ _ Ζ,bN _ _ Ε];exact h.bQ.xx a rfl cj nil
 have Td:Apart (c.H (.inl i)) (c.H (.inr s)):=h.hold.apart _ _ (by simp)
 have bg:=Gv o.af o.L (c.H (.inr s)) eB LQ S2 (λx=>⟨lq x,S4 x⟩) S5 Td S6 S7 ⟨w,h.mem.fit _,h.mem.fit _,S3⟩
 let dd:aU:={c.x i with G:=join (join (c.H (.inl i)) (c.H (.inr s))) eB,tok:=upd (c.tok i) s (.par n 0 .bF),view:=upd (c.view i) s none}
 let c':c5:={c with H:=bO,tok:=b1 c.tok i s (.par n 0 .bF),view:=upd c.view i (upd (c.view i) s none),O:=upd c.O s (some o),T:=upd c.T i (f (i==0,g',dd))}
 have nO:c'.x i=dd:=by simp[c',dd,c5.x,upd_same,vq,jz]
 have rX:∀j r,¬(j=i/\r=s)->b1 c.tok i s (.par n 0 .bF) j r=c.tok j r:=λj r e=>eT _ e
 have LW:∀r q b,c.O r=some q->r≠s->ei r q.toSpec b->b≠s/\o.aT≠some b:=λr q b Χ μ hb=>⟨λe=>μ (h.hold.ky r s q o b Χ Γ hb (.inl e)),λe=>μ (h.hold.ky r s q o b Χ Γ hb (.inr e))⟩;refine hV.go (c':=c') Υ ο ?_ _ rfl;rw[ofEvents_one];refine h.laid (c':=c') Υ GD GC (h.bQ.word (i:=i) rfl (.inl rfl) (h.low Γ kj) cj (λ_ _ _ x=>x) GF) (h.bh.gtake Γ dK g7) ⟨λr q b2 Χ df bj g4=>?_,λr q Χ bj=>?_⟩ ?_
  (h.gb.app h.bQ.low (λop Ν b hb=>by simp at Ν;subst Ν;cases hb) (λj b v hv=>.inl ⟨v,hv⟩) (λr q Χ=>?_) (λj r ab mu g e=>zx dK (λk m g e=>?_) j r ab mu g e))
  ⟨g',?_,.inl rfl⟩ (λj ε=>⟨?_,upd_ne _ _ ε⟩) (.inr λj r q _ a b=>?_)
 ·rcases ki Γ Χ with⟨rfl,rfl⟩|⟨e,b8⟩
  ·exact absurd (e1 ..) (bj i n 0)
  ·obtain⟨Ε,Ζ⟩:=LW r q b2 b8 e (.inr df);show q.aI q.L (bO (.inr b2));rw[kC b2 Ε Ζ];exact h.eu.pw r q b2 b8 df (λj q p x=>bj j q p (by show b1 c.tok i s _ j r=_;rw[rX j r (λy=>e y.2)];exact x)) λj k L g x=>g4 j k L g (by show b1 c.tok i s _ j r=_;rw[rX j r (λy=>e y.2)];exact x)
 ·rcases ki Γ Χ with⟨rfl,rfl⟩|⟨e,b8⟩
  ·exact absurd (e1 ..) (bj i n 0)
  ·obtain⟨Ε,Ζ⟩:=LW r q r b8 e (.inl rfl);show ll q.D q.af (bO (.inr r));rw[kC r Ε Ζ];exact h.eu.l' r q b8 (λj q p x=>bj j q p (by show b1 c.tok i s _ j r=_;rw[rX j r (λy=>e y.2)];exact x))
 ·refine⟨λab g' hs=>?_,λj fy ε=>?_,λj fy ε bj=>?_,λj fy ε a b=>(h.dY.c3 j fy ε a b).app _⟩
  ·obtain⟨op,Ν,hq⟩:=Option.map_eq_some_iff.1 hs;rcases getElem?_append_cases Ν with⟨_,kB⟩|⟨_,gd⟩
   ·exact h.dY.dC ab g' (by simp[Trace.g?,kB,hq])
   ·simp at gd;subst gd;rw[<-hq];exact bb
  ·obtain⟨op,a1,ba,cm,fY,hH⟩:=h.dY.c1 j fy ε;have ω:=lt_size_of_getElem? a1;refine⟨op,by rw[getElem?_append_old ω];exact a1,ba,cm,(heard_old ω).2 fY,λab hs ζ=>?_⟩;obtain⟨rY,Ν,hq⟩:=Option.map_eq_some_iff.1 hs;rcases getElem?_append_cases Ν with⟨qN,kB⟩|⟨hle,gd⟩
   ·exact(hH ab (by simp[Trace.g?,kB,hq]) ((zq qN).1 ζ)).app _
   ·exact absurd ζ (xv (u:=#[y]) (λop Ν=>by simp at Ν;subst Ν;rfl) ab hle)
  ·obtain⟨q,p,Χ⟩:=bj;by_cases e:c.bz (c.home j)=i/\c.home j=s
   ·obtain⟨Ε,Ζ⟩:=e;show Knows _ (c.bz (c.home j)) (c.dx j);rw[Ε];have e3:j<gs.size:=by
     obtain⟨op,a1,ba,_⟩:=h.dY.c1 j fy ε;exact h.dY.dC (c.dx j) j (by simp[Trace.g?,a1,ba])
    obtain⟨cy,ew,ag,eO⟩:=h.bh.rW j fy e3;rw[Ζ] at eO;exact(LR j ⟨cy,ew,ag,eO⟩).2.2.2
   ·refine(h.dY.c2 j fy ε ⟨q,p,?_⟩).app _;have:b1 c.tok i s (.par n 0 .bF) (c.bz (c.home j)) (c.home j)=.par q p .bF:=Χ
    rwa [rX _ _ e] at this
 ·rcases ki Γ Χ with⟨rfl,rfl⟩|⟨_,b8⟩
  ·exact⟨_,Γ,rfl⟩
  ·exact⟨q,b8,rfl⟩
 ·cases e
 ·rw[nO];show ju P Q (upd c.T i (f (i==0,g',dd)) i) _ _ _;rw[upd_same];exact bg
 ·simp[c',c5.x,upd_ne _ _ ε,r5 _ ε,iZ j ε]
 ·exact⟨q,by show upd c.O s (some o) r=some q;rw[Cq Γ];exact a,b⟩
end
section
variable {n:Nat} {tok:Nat->Nat->Tok} {spec:Nat->Nat->Option Spec} {view:Nat->Nat->Option (Nat×aM)} {rel:Nat->Bool} {O:Nat->Option aM} {bz home:Nat->Nat} {s i:Nat} {o:aM}
theorem eI.fork (h:eI n tok spec view rel O bz home) (ο:O s=some o) {q p:Nat} (Ξ:tok i s=.par q (p+1) .add) :
  eI (n+1) (upd (b1 tok i s (.par q p .add)) n (upd (λ_=>.nil) s (.ch (q-(p+1)) .idle .work))) (upd spec n (upd (λ_=>none) s (some o.toSpec))) (upd (upd view i (upd (view i) s none)) n λ_=>none) (upd rel n false) O bz (upd home n s):=by
 have bb:i<n:=h.lt (s:=s) (by rw[Ξ];simp)
 have kD:n≠i:=by omega
 have qM:=h.par i s q (p+1) .add Ξ
 have ck:=(h.bm s o ο).2
 have Χ:p+1<=q:=by
  have Ε:a7 n (λa=>tok a s) ia=q:=by
   rw[pq (φ:=ia) (λt Ξ=>by cases t<;>simp_all [eM,ia]) ck.nK bb (by rw[Ξ];rfl),Ξ];rfl
  have Ζ:a7 n (λa=>tok a s) hl=p+1:=by
   rw[pq (φ:=hl) (λt Ξ=>by cases t<;>simp_all [eM,hl]) ck.nK bb (by rw[Ξ];rfl),Ξ];rfl
  have:=ck.KW;omega
 generalize Cx:upd (b1 tok i s (.par q p .add)) n (upd (λ_=>.nil) s (.ch (q-(p+1)) .idle .work))=ev;have zA:ev n s=.ch (q-(p+1)) .idle .work:=by rw[<-Cx,upd_same,upd_same]
 have GG:∀r,r≠s->ev n r=.nil:=λr μ=>by rw[<-Cx,upd_same,upd_ne _ _ μ]
 have kE:ev i s=.par q p .add:=by rw[<-Cx,upd_ne _ _ (Ne.symm kD),e1]
 have to:∀j r,j≠n->¬(j=i/\r=s)->ev j r=tok j r:=λj r J γ=>by rw[<-Cx,upd_ne _ _ J,eT _ γ]
 have pA:∀j r,r≠s->ev j r=tok j r:=λj r μ=>by
  by_cases e:j=n
  ·subst e;rw[GG r μ,h.out _ r (Nat.le_refl _)]
  ·exact to j r e λx=>μ x.2
 have Cy:(λj=>ev j s)=upd (upd (λj=>tok j s) i (.par q p .add)) n (.ch (q-(p+1)) .idle .work):=by
  funext j
  by_cases e:j=n
  ·subst e;rw[zA,upd_same]
  ·rw[upd_ne _ _ e];by_cases aJ:j=i
   ·subst aJ;rw[kE,upd_same]
   ·rw[upd_ne _ _ aJ,to j s e λx=>aJ x.1]
 have LX:∀r,r≠s->(λj=>ev j r)=λj=>tok j r:=λr μ=>funext λj=>pA j r μ
 have g8:∀r,(λj=>tok j r) n=.nil:=λr=>h.out n r (Nat.le_refl _)
 have iV:∀j r k m g,ev j r=.ch k m g->(j=n/\r=s/\k=q-(p+1)/\m=.idle/\g=.work)\/(j≠n/\¬(j=i/\r=s)/\tok j r=.ch k m g):=λj r k m g ε=>by
  by_cases e:j=n
  ·subst e;by_cases aJ:r=s
   ·subst aJ;rw[zA] at ε;cases ε;exact .inl ⟨rfl,rfl,rfl,rfl,rfl⟩
   ·rw[GG r aJ] at ε;cases ε
  ·by_cases aJ:j=i/\r=s
   ·obtain⟨rfl,rfl⟩:=aJ;rw[kE] at ε;cases ε
   ·rw[to j r e aJ] at ε;exact .inr ⟨e,aJ,ε⟩
 have GH:∀j r m e2 ae,ev j r=.par m e2 ae->(j=i/\r=s/\m=q/\e2=p/\ae=.add)\/(j≠n/\r≠s/\tok j r=.par m e2 ae)\/(j≠n/\j≠i/\r=s/\tok j r=.par m e2 ae):=λj r m e2 ae ε=>by
  by_cases e:j=n
  ·subst e;by_cases aJ:r=s
   ·subst aJ;rw[zA] at ε;cases ε
   ·rw[GG r aJ] at ε;cases ε
  ·by_cases aJ:j=i/\r=s
   ·obtain⟨rfl,rfl⟩:=aJ;rw[kE] at ε;cases ε;exact .inl ⟨rfl,rfl,rfl,rfl,rfl⟩
   ·rw[to j r e aJ] at ε;by_cases Ζ:r=s
    ·exact .inr (.inr ⟨e,λx=>aJ ⟨x,Ζ⟩,Ζ,ε⟩)
    ·exact .inr (.inl ⟨e,Ζ,ε⟩)
 have GI:∀j r k m g,tok j r=.ch k m g->j≠n/\ev j r=.ch k m g:=λj r k m g ε=>by
  have e3:j≠n:=λe=>by rw[e,h.out n r (Nat.le_refl _)] at ε;cases ε
  refine⟨e3,?_⟩;rw[to j r e3 λe=>?_]
  ·exact ε
  ·obtain⟨rfl,rfl⟩:=e;rw[Ξ] at ε;cases ε
 have gΩ:eA (n+1) o (λj=>ev j s)<eA n o (λj=>tok j s):=by
  rw[Cy,<-K4 (N:=n) (τ:=λj=>tok j s) (g8 s)];exact Sd (N:=n+1) (by omega) (by omega) (Ne.symm kD) Ξ (g8 s) _
 refine⟨λr iY μ=>?_,λr μ j=>?_,λj r ε=>?_,λj r sp ε=>?_,λj r φ dH ε=>?_,λj r k L g iY b8 ε=>?_,λj r m e2 ae ε=>?_,λj r k m g ε=>?_,λj ah ε=>?_,λj k m g ah ε=>?_,?_,λj r ε μ=>?_,λj r k m g iY b8 ε Υ=>?_,λr j bK k m g b2 g' J γ=>?_,λr j k m g iY e2 ae J γ=>?_,λr iY μ=>?_,λr iY μ=>?_⟩
 ·by_cases e:r=s
  ·subst e;rw[ο] at μ;cases μ;rw[Cy];exact Sc (K3 (h.bm r o ο) (g8 r)) (by omega) (by omega) (Ne.symm kD) Ξ (g8 r) _
  ·rw[LX r e];exact K3 (h.bm r iY μ) (g8 r)
 ·have e:r≠s:=λe=>by rw[e,ο] at μ;cases μ
  rw[pA j r e];exact h.bare r μ j
 ·rw[to j r (by omega) (λx=>by omega)];exact h.out j r (by omega)
 ·by_cases e:j=n
  ·subst e;rw[upd_same] at ε;by_cases aJ:r=s
   ·subst aJ;rw[upd_same] at ε;cases ε;exact⟨o,ο,rfl⟩
   ·rw[upd_ne _ _ aJ] at ε;cases ε
  ·rw[upd_ne _ _ e] at ε;exact h.qE j r sp ε
 ·have old:∀j r φ dH,view j r=some (φ,dH)->∃iX,O r=some iX/\eA (n+1) iX (λa=>ev a r)<=φ/\(eA (n+1) iX (λa=>ev a r)=φ->iX=dH):=λj r φ dH hv=>by
   obtain⟨iX,J,γ,π⟩:=h.vf j r φ dH hv;refine⟨iX,J,?_⟩;by_cases e:r=s
   ·subst e;rw[ο] at J;cases J;exact⟨by omega,λx=>by omega⟩
   ·rw[LX r e,K4 (N:=n) (τ:=λj=>tok j r) (g8 r)];exact⟨γ,π⟩
  by_cases e:j=n
  ·subst e;rw[upd_same] at ε;cases ε
  ·rw[upd_ne _ _ e] at ε;by_cases aJ:j=i
   ·subst aJ;rw[upd_same] at ε;by_cases Ζ:r=s
    ·subst Ζ;rw[upd_same] at ε;cases ε
    ·rw[upd_ne _ _ Ζ] at ε;exact old _ _ _ _ ε
   ·rw[upd_ne _ _ aJ] at ε;exact old _ _ _ _ ε
 ·rcases iV j r k _ g ε with⟨_,_,_,Μ,_⟩|⟨_,_,π⟩
  ·cases Μ
  ·exact h.dj j r k L g iY b8 π
 ·rcases GH j r m e2 ae ε with⟨rfl,rfl,_⟩|⟨_,_,π⟩|⟨_,_,_,π⟩
  ·exact qM
  ·exact h.par j r m e2 ae π
  ·exact h.par j r m e2 ae π
 ·rcases iV j r k m g ε with⟨rfl,rfl,_⟩|⟨e3,_,π⟩
  ·exact⟨by omega,upd_same ..,by omega⟩
  ·obtain⟨a1,ba,cm⟩:=h.oB j r k m g π;exact⟨a1,by rw[upd_ne _ _ e3];exact ba,cm⟩
 ·by_cases e:j=n
  ·subst e;rw[upd_same];exact⟨_,_,_,zA⟩
  ·rw[upd_ne _ _ e];obtain⟨k,m,g,J⟩:=h.rW j ah (by omega);exact⟨k,m,g,(GI j _ k m g J).2⟩
 ·by_cases e:j=n
  ·subst e;rw[upd_same] at ε;rw[zA] at ε;cases ε;rw[upd_same];simp
  ·rw[upd_ne _ _ e] at ε;rw[upd_ne _ _ e];rcases iV j _ k m g ε with⟨x,_⟩|⟨_,_,π⟩
   ·exact absurd x e
   ·exact h.g3 j k m g ah π
 ·rw[upd_ne _ _ (show(0:Nat)≠n by omega)];exact h.ts
 ·by_cases e:j=n
  ·subst e;rw[upd_same] at ε;cases ε
  ·rw[upd_ne _ _ e] at ε μ;have:=h.oC j r ε μ;rw[to j r e λx=>?_]
   ·exact this
   ·obtain⟨rfl,rfl⟩:=x;rw[Ξ] at this;exact this
 ·rcases iV j r k m g ε with⟨_,_,_,_,Μ⟩|⟨_,_,π⟩
  ·exact absurd Μ Υ
  ·exact h.oD j r k m g iY b8 π Υ
 ·have key:∀j k m g,tok j s=.ch k m g->k<q-(p+1):=λj k m g ε=>by
   have:=h.tt s j k m g q (p+1) .add ε (by rw[<-qM];exact Ξ);omega
  rcases iV j r k m g J with⟨rfl,rfl,cm,_⟩|⟨_,_,π⟩<;>rcases iV bK r k b2 g' γ with⟨rfl,dw,fN,_⟩|⟨_,_,Μ⟩
  ·rfl
  ·have:=key bK k b2 g' Μ;omega
  ·subst dw;have:=key j k m g π;omega
  ·exact h.vg r j bK k m g b2 g' π Μ
 ·rcases iV j r k m g J with⟨_,rfl,cm,_⟩|⟨_,_,π⟩
  ·rcases GH _ r iY e2 ae γ with⟨_,_,rfl,rfl,_⟩|⟨_,x,_⟩|⟨_,x,_⟩
   ·omega
   ·exact absurd rfl x
   ·exact absurd qM.symm x
  ·rcases GH _ r iY e2 ae γ with⟨_,rfl,rfl,rfl,_⟩|⟨_,_,Μ⟩|⟨_,x,rfl,Μ⟩
   ·have:=h.tt r j k m g iY (e2+1) .add π (by rw[<-qM];exact Ξ);omega
   ·exact h.tt r j k m g iY e2 ae π Μ
   ·exact absurd qM.symm x
 ·obtain⟨a,b⟩:=h.fw r iY μ;refine⟨a,λk=>(b k).trans ⟨λ⟨j,m,g,Ε,Ζ⟩=>⟨j,m,g,(GI j r k m g Ε).2,Ζ⟩,λ⟨j,m,g,Ε,Ζ⟩=>?_⟩⟩;rcases iV j r k m g Ε with⟨_,_,_,Μ,_⟩|⟨_,_,π⟩
  ·subst Μ;exact Ζ.elim
  ·exact⟨j,m,g,π,Ζ⟩
 ·obtain⟨a,b⟩:=h.ga r iY μ;refine⟨a,λk=>(b k).trans ⟨λ⟨j,m,g,Ε,Ζ⟩=>⟨j,m,g,(GI j r k m g Ε).2,Ζ⟩,λ⟨j,m,g,Ε,Ζ⟩=>?_⟩⟩;rcases iV j r k m g Ε with⟨_,_,_,_,Μ⟩|⟨_,_,π⟩
  ·exact absurd Μ Ζ
  ·exact⟨j,m,g,π,Ζ⟩
def aM.new (sp:Spec):aM:={toSpec:=sp,cb:=0,wk:=0,sv:=0,nw:=0,c0:=0,L:=[],cnt:=0,wt:=0,cH:=0,af:=[]}
theorem Te (N:Nat) (φ:Tok->Nat) (et:φ .nil=0):a7 N (λ_=>.nil) φ=0:=by
 induction N with
 | zero=>rfl
 | succ N Δ=>rw[vb,Δ,et]
theorem eI.Tf (h:eI n tok spec view rel O bz home) (ο:O s=none) (bb:i<n) (μ:rel i=false) (sp:Spec) :
  eI n (b1 tok i s (.par 0 0 .add)) (upd spec i (upd (spec i) s (some sp))) (upd view i (upd (view i) s none)) rel (upd O s (some (aM.new sp))) (upd bz s i) home:=by
 have hb:=h.bare s ο
 have aS:∀j,j≠0->j<n->home j≠s:=λj ah ε e=>by
  obtain⟨k,m,g,J⟩:=h.rW j ah ε;rw[e,hb j] at J;cases J
 have Cy:(λj=>b1 tok i s (.par 0 0 .add) j s)=upd (λ_=>.nil) i (.par 0 0 .add):=by
  rw[Ll];have:(λj=>tok j s)=λ_=>.nil:=funext hb;rw[this]
 have pA:∀j r,r≠s->b1 tok i s (.par 0 0 .add) j r=tok j r:=λj r μ=>eT _ λx=>μ x.2
 have iV:∀j r k m g,b1 tok i s (.par 0 0 .add) j r=.ch k m g↔tok j r=.ch k m g:=λj r k m g=>by
  by_cases e:j=i/\r=s
  ·obtain⟨rfl,rfl⟩:=e;rw[e1,hb];simp
  ·rw[eT _ e]
 have xA:∀j k m g,tok j s≠.ch k m g:=λj k m g e=>by rw[hb] at e;cases e
 have g5:∀r q,upd O s (some (aM.new sp)) r=some q->(r=s/\q=aM.new sp)\/(r≠s/\O r=some q):=λr q Χ=>by
  by_cases e:r=s
  ·subst e;rw[upd_same] at Χ;cases Χ;exact .inl ⟨rfl,rfl⟩
  ·rw[upd_ne _ _ e] at Χ;exact .inr ⟨e,Χ⟩
 have one:∀φ:Tok->Nat,φ .nil=0->a7 n (upd (λ_=>.nil) i (.par 0 0 .add)) φ=φ (.par 0 0 .add):=λφ et=>by
  have e:=gv (N:=n) (λ_=>.nil) (.par 0 0 .add) φ bb;rw[Te n φ et] at e;simp only[et] at e;omega
 refine⟨λr q Χ=>?_,λr μ j=>?_,λj r ε=>?_,λj r LY ε=>?_,λj r φ dH ε=>?_,λj r k L g q Χ ε=>?_,λj r m p ae ε=>?_,λj r k m g ε=>?_,λj ah ε=>?_,λj k m g ah ε=>?_,h.ts,λj r ε fc=>?_,λj r k m g q Χ ε Υ=>?_,λr j bK k m g b2 g' J γ=>?_,λr j k m g q p ae J γ=>?_,λr q μ=>?_,λr q μ=>?_⟩
 ·rcases g5 r q Χ with⟨rfl,rfl⟩|⟨e,b8⟩
  ·rw[Cy];constructor
   ·unfold pn;rw[one h' rfl,one nI rfl,one l3 rfl,one lb rfl,one mX rfl,one lf rfl,one qz rfl,one nJ rfl,one qy rfl];constructor<;>simp[aM.new,h',nI,l3,lb,mX,lf,qz,nJ,qy]
   ·unfold oo;rw[one iU rfl,one jR rfl,one jS rfl,one lg rfl,one eM rfl,one hl rfl,one ia rfl,one l4 rfl,one lh rfl,one ib rfl];constructor<;>simp[aM.new,iU,jR,jS,lg,eM,hl,ia,l4,lh,ib]
  ·rw[Gg _ _ _ _ e];exact h.bm r q b8
 ·have e:r≠s:=λe=>by rw[e,upd_same] at μ;cases μ
  rw[upd_ne _ _ e] at μ;rw[pA j r e];exact h.bare r μ j
 ·rw[eT _ (λx=>by omega)];exact h.out j r ε
 ·by_cases e:j=i
  ·subst e;rw[upd_same] at ε;by_cases aJ:r=s
   ·subst aJ;rw[upd_same] at ε;cases ε;exact⟨_,upd_same ..,rfl⟩
   ·rw[upd_ne _ _ aJ] at ε;obtain⟨q,a,b⟩:=h.qE j r LY ε;exact⟨q,by rw[upd_ne _ _ aJ];exact a,b⟩
  ·rw[upd_ne _ _ e] at ε;obtain⟨q,a,b⟩:=h.qE j r LY ε;have aJ:r≠s:=λaJ=>by rw[aJ,ο] at a;cases a
   exact⟨q,by rw[upd_ne _ _ aJ];exact a,b⟩
 ·have old:∀j r φ dH,view j r=some (φ,dH)->∃iX,upd O s (some (aM.new sp)) r=some iX/\eA n iX (λa=>b1 tok i s (.par 0 0 .add) a r)<=φ/\(eA n iX (λa=>b1 tok i s (.par 0 0 .add) a r)=φ->iX=dH):=λj r φ dH hv=>by
   obtain⟨iX,a,b⟩:=h.vf j r φ dH hv;have aJ:r≠s:=λaJ=>by rw[aJ,ο] at a;cases a
   exact⟨iX,by rw[upd_ne _ _ aJ];exact a,by rw[Gg _ _ _ _ aJ];exact b⟩
  by_cases e:j=i
  ·subst e;rw[upd_same] at ε;by_cases aJ:r=s
   ·subst aJ;rw[upd_same] at ε;cases ε
   ·rw[upd_ne _ _ aJ] at ε;exact old _ _ _ _ ε
  ·rw[upd_ne _ _ e] at ε;exact old _ _ _ _ ε
 ·rw[iV] at ε;rcases g5 r q Χ with⟨rfl,rfl⟩|⟨e,b8⟩
  ·exact absurd ε (xA _ _ _ _)
  ·exact h.dj j r k L g q b8 ε
 ·by_cases e:j=i/\r=s
  ·obtain⟨rfl,rfl⟩:=e;rw[upd_same]
  ·rw[eT _ e] at ε;have aJ:r≠s:=λaJ=>by rw[aJ,hb] at ε;cases ε
   rw[upd_ne _ _ aJ];exact h.par j r m p ae ε
 ·rw[iV] at ε;have aJ:r≠s:=λaJ=>by rw[aJ] at ε;exact xA _ _ _ _ ε
  rw[upd_ne _ _ aJ];exact h.oB j r k m g ε
 ·obtain⟨k,m,g,J⟩:=h.rW j ah ε;exact⟨k,m,g,(iV _ _ _ _ _).2 J⟩
 ·rw[iV] at ε;exact h.g3 j k m g ah ε
 ·have e:j≠i:=λe=>by rw[e,μ] at ε;cases ε
  rw[r5 _ e];exact h.oC j r ε fc
 ·rw[iV] at ε;rcases g5 r q Χ with⟨rfl,rfl⟩|⟨e,b8⟩
  ·exact absurd ε (xA _ _ _ _)
  ·exact h.oD j r k m g q b8 ε Υ
 ·rw[iV] at J γ;exact h.vg r j bK k m g b2 g' J γ
 ·rw[iV] at J;have aJ:r≠s:=λaJ=>by rw[aJ] at J;exact xA _ _ _ _ J
  rw[upd_ne _ _ aJ,pA _ _ aJ] at γ;exact h.tt r j k m g q p ae J γ
 ·simp only[iV];rcases g5 r q μ with⟨rfl,rfl⟩|⟨e,b8⟩
  ·exact⟨List.nodup_nil,λk=>⟨λx=>(by cases x),λ⟨j,m,g,x,_⟩=>absurd x (xA _ _ _ _)⟩⟩
  ·exact h.fw r q b8
 ·simp only[iV];rcases g5 r q μ with⟨rfl,rfl⟩|⟨e,b8⟩
  ·exact⟨List.nodup_nil,λk=>⟨λx=>(by cases x),λ⟨j,m,g,x,_⟩=>absurd x (xA _ _ _ _)⟩⟩
  ·exact h.ga r q b8
end
theorem Tg (t:Trace) (u:Trace) {k:Nat} (hu:∀op∈u,op.g≠k):Deaf (t++u) k=Deaf t k:=by
 obtain⟨l⟩:=u;rw[Deaf_append]
 induction l generalizing t with
 | nil=>rfl
 | cons y l Δ=>
  have Ο:y.g≠k:=hu y (by simp)
  have Ε:deafStep k (Deaf t k) y=Deaf t k:=by
   unfold deafStep;split<;>simp[Ο]
  rw[List.foldl_cons,Ε];exact Δ t (λop Ν=>hu op (by simp at Ν ⊢;exact .inr Ν))
theorem Ti {said:Bool} {t:Trace} {y z:MemOp} (h:¬Race said t) (nt:∀op∈(#[y,z]:Trace),op.act.touch?=none):¬Race said (t++#[y,z]):=by
 have e:t++#[y,z]=(t++#[y])++#[z]:=by rw[Array.append_assoc];rfl
 rw[e];refine noRace_append (g:=z.g) (noRace_append (g:=y.g) h (λop Ν=>by simp at Ν;rw[Ν]) λk a _ op Ν b hb _=>?_) (λop Ν=>by simp at Ν;rw[Ν]) λk a _ op Ν b hb _=>?_
 ·simp at Ν;subst Ν;rw[nt op (by simp)] at hb;cases hb
 ·simp at Ν;subst Ν;rw[nt op (by simp)] at hb;cases hb
section
variable {P:Program} {Q:Value->Prop} {bs:World} {c c':c5} {gs:Array Goroutine} {w w':World} {t:Trace} {i:Nat} {g g':Goroutine} {es:Array Event}
variable {f:Bool×Goroutine×aU->fZ (Bool×Goroutine×aU)}
theorem Inv.GJ (h:Inv P Q bs c gs w t) (Υ:gs[i]?=some g) (χ:Ld P (i==0) (lp P Q f) g (c.x i)):hV P Q bs c gs w t i f:=by
 obtain⟨s,sp,n,p,g',ch,mZ,m0,J,π,Μ,aB,tp,bc,cE,mg,bg,Tj⟩:=χ;have bb:i<gs.size:=me Υ;obtain⟨o,Γ,bX⟩:=h.bh.qE i s sp J;subst bX;have dK:c.tok i s=.par n (p+1) .add:=π;have hd:c.deaf i=0:=Μ;have eb:c.rel i=false:=bc;have ο:=cE w (h.mem.fit (.inl i));have kD:gs.size≠i:=by omega
 let N:=gs.size
 let y:MemOp:={g:=i,fn:=g.frame.fn,pos:=g.frame.place,act:=.go gs.size}
 let z:MemOp:={g:=gs.size,fn:=ch.frame.fn,pos:=g.frame.place,act:=.start}
 have vu:Deaf t i=0:=by rw[h.bQ.hears];exact hd
 have kF:Deaf t gs.size=0:=by
  have:=Tg #[] t (k:=gs.size) (λop Ν e=>by
   obtain⟨k,χ⟩:=Array.mem_iff_getElem?.1 Ν;have:=h.dY.dC k op.g (by simp[Trace.g?,χ]);omega)
  rw[Array.empty_append] at this;exact this
 let Cz:aU:={c.x i with G:=mZ,tok:=upd (c.tok i) s (.par n p .add),view:=upd (c.view i) s none}
 let CA:aU:=⟨m0,λ_=>none,upd (λ_=>.nil) s (.ch (n-(p+1)) .idle .work),upd (λ_=>none) s (some o.toSpec),λ_=>none,0,false⟩
 let ev:=upd (b1 c.tok i s (.par n p .add)) gs.size (upd (λ_=>.nil) s (.ch (n-(p+1)) .idle .work))
 let c':c5:={c with H:=bM (bM c.H (.inl i) mZ) (.inl gs.size) m0,aF:=upd c.aF gs.size (λ_=>none),tok:=ev,spec:=upd c.spec gs.size (upd (λ_=>none) s (some o.toSpec)),view:=upd (upd c.view i (upd (c.view i) s none)) gs.size λ_=>none,deaf:=upd c.deaf gs.size 0,rel:=upd c.rel gs.size false,home:=upd c.home gs.size s,T:=upd (upd c.T i (f (i==0,g',Cz))) gs.size (f (false,ch,CA))}
 have Tk:=h.bh.fork Γ dK
 have dS:=runT_crowd_spawn (sl:=none) Υ ο
 have Tl:((MemOp.ofEvents i g.frame.fn g.frame.place #[]).push {g:=i,fn:=g.frame.fn,pos:=g.frame.place,act:=.go gs.size} |>.push {g:=gs.size,fn:=ch.frame.fn,pos:=g.frame.place,act:=.start})=#[y,z]:=by rw[LC];rfl
 have LZ:(Sum.inl i:cF)≠.inl gs.size:=λe=>kD (by cases e;rfl)
 have Tm:∀r,ev gs.size r≠.nil->r=s:=λr μ=>by
  apply Classical.byContradiction;intro e;apply μ;show upd (b1 c.tok i s (.par n p .add)) gs.size (upd (λ_=>.nil) s (.ch (n-(p+1)) .idle .work)) gs.size r=.nil;rw[upd_same,upd_ne _ _ e]
 have CB:∀j,j≠gs.size->ev j=b1 c.tok i s (.par n p .add) j:=λj ε=>upd_ne _ _ ε
 have Tn:∀j r,j≠gs.size->ev j r≠.nil->c.tok j r≠.nil:=λj r ε μ=>by
  rw[CB j ε] at μ;exact zw dK (by simp) j r μ
 have tE:∀j r q e2,ev j r=.par q e2 .bF↔c.tok j r=.par q e2 .bF:=λj r q e2=>by
  by_cases e:j=gs.size
  ·subst e;rw[h.bh.out gs.size r (Nat.le_refl _)];show upd (b1 c.tok i s (.par n p .add)) gs.size (upd (λ_=>.nil) s (.ch (n-(p+1)) .idle .work)) gs.size r=_↔_;rw[upd_same];by_cases aJ:r=s
   ·subst aJ;rw[upd_same];simp
   ·rw[upd_ne _ _ aJ]
  ·rw[CB j e];exact Ct dK (by simp) (by simp) j r q e2
 have Gs:∀j r k L g,c.tok j r=.ch k (.dj L) g->ev j r=.ch k (.dj L) g:=λj r k L g ε=>by
  have e:j≠gs.size:=λe=>by rw[e,h.bh.out _ r (Nat.le_refl _)] at ε;cases ε
  rw[CB j e,eT _ λx=>?_]
  ·exact ε
  ·obtain⟨rfl,rfl⟩:=x;rw[dK] at ε;cases ε
 have eW:∀j,j≠gs.size->c'.rel j=c.rel j:=λj ε=>upd_ne _ _ ε
 have CC:∀j,c'.rel j=true->j≠gs.size:=λj ε e=>by
  subst e;have:upd c.rel gs.size false gs.size=true:=ε;rw[upd_same] at this;cases this
 have fG:∀j b v,upd c.aF gs.size (λ_=>none) j b=some v->c.aF j b=some v:=λj b v hv=>by
  by_cases e:j=gs.size
  ·subst e;rw[upd_same] at hv;cases hv
  ·rw[upd_ne _ _ e] at hv;exact hv
 have nt:∀op∈(#[y,z]:Trace),op.act.touch?=none:=λop Ν=>by simp at Ν;rcases Ν with rfl|rfl<;>rfl
 have m3:∀op∈(#[y,z]:Trace),∀m,op.act≠.mark m:=λop Ν m=>by simp at Ν;rcases Ν with rfl|rfl<;>simp[y,z]
 have L0:∀k,Knows t i k->Knows (t++#[y,z]) gs.size k:=λk χ=>Knows.spawn χ rfl rfl rfl rfl vu kF
 have To:∀a k,jv c.tok c.O t a k->jv ev c.O (t++#[y,z]) a k:=λa k χ=>by
  cases a with
  | inl j=>exact Knows.app _ χ
  | inr b=>
   rcases χ with⟨p,op,J,γ,π,Μ⟩|χ
   ·have ω:=lt_size_of_getElem? J;exact .inl ⟨p,op,by rw[getElem?_append_old ω];exact J,γ,(heard_old ω).2 π,Μ.app _⟩
   ·refine .inr λbq o' iS hb j ε=>?_;by_cases e:j=gs.size
    ·subst e;have:=Tm bq ε;subst this;exact L0 k (χ _ o' iS hb i (by rw[dK];simp))
    ·exact(χ bq o' iS hb j (Tn j bq e ε)).app _
 have L1:∀a,dm (t++#[y,z]) (jv ev c.O (t++#[y,z]) a) (c.H a):=λa=>
  (h.bQ.perms a).others (To a) λop Ν x U=>by rw[nt op Ν] at U;cases U
 have hinv:Inv P Q bs c' ((gs.setIfInBounds i g').push ch) w (t++#[y,z]):=by
  have cp:((gs.setIfInBounds i g').push ch).size=gs.size+1:=by simp
  refine⟨by rw[cp];omega,(h.mem.two (mg.l.fits (h.mem.fit (.inl i))) (mg.r.fits (h.mem.fit (.inl i))) h.mem.fF).xy fG,(h.hold.two LZ mg.l.qF mg.r.qF mg.apart ⟨λs o ο=>⟨o,ο,rfl⟩,λs o ο=>⟨o,ο,rfl⟩⟩ λx U=>by rcases U with e|e<;>cases e).xy fG,?_,by rw[cp];exact Tk,?_,?_,?_,?_⟩
  ·refine⟨λsaid=>Ti (h.bQ.race said) nt,λop Ν=>?_,λop Ν a=>?_,λa=>?_,λj b v hv k a χ=>?_,λbq o' b iS hb k a χ fa=>?_,λj=>?_⟩
   ·rcases Array.mem_append.1 Ν with Ν|Ν
    ·exact h.bQ.low op Ν
    ·simp at Ν;rcases Ν with rfl|rfl<;>trivial
   ·rcases Array.mem_append.1 Ν with Ν|Ν
    ·exact h.bQ.norel op Ν a
    ·exact m3 op Ν _
   ·show dm _ _ (bM (bM c.H (.inl i) mZ) (.inl gs.size) m0 a);by_cases Ζ:a=.inl gs.size
    ·subst Ζ;rw[dD];exact(((h.bQ.perms (.inl i)).others L0 λop Ν x U=>by rw[nt op Ν] at U;cases U):dm _ (Knows _ gs.size) _).sub mg.r
    ·rw[bN _ _ Ζ];by_cases Ε:a=.inl i
     ·subst Ε;rw[dD];exact(L1 (.inl i)).sub mg.l
     ·rw[bN _ _ Ε];exact L1 a
   ·have:=fG j b v hv;rcases mW χ with hs|⟨_,op,Ν,_,U⟩
    ·exact h.bQ.ox j b v this k a hs
    ·rw[nt op Ν] at U;cases U
   ·rcases mW χ with hs|⟨_,op,Ν,_,U⟩
    ·rcases h.bQ.cont bq o' b iS hb k a hs fa with x|⟨x,dd⟩
     ·exact .inl x
     ·obtain⟨op,jx,_⟩:=touch_of hs;exact .inr ⟨x,by rw[g?_old (lt_size_of_getElem? jx)];exact dd⟩
    ·rw[nt op Ν] at U;cases U
   ·have Ε:Deaf (t++#[y,z]) j=Deaf t j:=by
     have e:t++#[y,z]=(t++#[y])++#[z]:=by rw[Array.append_assoc];rfl
     rw[e,Deaf_push,Deaf_push];simp[deafStep,y,z]
    rw[Ε];by_cases e:j=gs.size
    ·subst e;rw[kF];exact(upd_same ..).symm
    ·rw[h.bQ.hears];exact(upd_ne _ _ e).symm
  ·have iH:∀b,bM (bM c.H (.inl i) mZ) (.inl gs.size) m0 (.inr b)=c.H (.inr b):=λb=>by rw[iF,iF]
   refine⟨λr q m Χ hm bj g4=>?_,λr q Χ bj=>?_⟩
   ·show q.aI q.L (bM (bM c.H (.inl i) mZ) (.inl gs.size) m0 (.inr m));rw[iH];exact h.eu.pw r q m Χ hm (λj q p x=>bj j q p ((tE j r q p).2 x)) λj k L g x=>g4 j k L g (Gs _ _ _ _ _ x)
   ·show ll q.D q.af (bM (bM c.H (.inl i) mZ) (.inl gs.size) m0 (.inr r));rw[iH];exact h.eu.l' r q Χ (λj q p x=>bj j q p ((tE j r q p).2 x))
  ·rw[cp];refine⟨λk a χ=>?_,λj fy ε=>?_,λj fy ε bj=>?_,λj fy ε a b=>?_⟩
   ·obtain⟨op,Ν,hq⟩:=Option.map_eq_some_iff.1 χ;rcases getElem?_append_cases Ν with⟨_,kB⟩|⟨_,gd⟩
    ·have:=h.dY.dC k a (by simp[Trace.g?,kB,hq]);omega
    ·simp at gd;rcases gd with rfl|rfl
     ·rw[<-hq];show i<gs.size+1;omega
     ·rw[<-hq];show gs.size<gs.size+1;omega
   ·have e3:=CC j ε;rw[eW j e3] at ε;obtain⟨op,a1,ba,cm,fY,hH⟩:=h.dY.c1 j fy ε;have ω:=lt_size_of_getElem? a1;refine⟨op,?_,ba,?_,(heard_old ω).2 fY,λab hs ζ=>?_⟩
    ·show(t++#[y,z])[c.dx j]?=some op;rw[getElem?_append_old ω];exact a1
    ·show op.act=.mark (.releaseMerge ⟨upd c.home gs.size s j,0,none⟩);rw[upd_ne _ _ e3];exact cm
    ·obtain⟨rY,Ν,hq⟩:=Option.map_eq_some_iff.1 hs;rcases getElem?_append_cases Ν with⟨qN,kB⟩|⟨hle,gd⟩
     ·exact(hH ab (by simp[Trace.g?,kB,hq]) ((zq qN).1 ζ)).app _
     ·exact absurd ζ (xv nt ab hle)
   ·have e3:=CC j ε;rw[eW j e3] at ε;obtain⟨q,e2,Χ⟩:=bj;have zB:c'.home j=c.home j:=upd_ne _ _ e3;rw[zB] at Χ ⊢;exact(h.dY.c2 j fy ε ⟨q,e2,(tE _ _ _ _).1 Χ⟩).app _
   ·have e3:=CC j ε;rw[eW j e3] at ε;have zB:c'.home j=c.home j:=upd_ne _ _ e3;rw[zB] at a b ⊢;have Tp:=CC _ b;rw[eW _ Tp] at b;exact(h.dY.c3 j fy ε a b).app _
  ·refine⟨λr q b2 Χ df p op ω ν=>?_,λj b v hv op Ν ν=>?_⟩
   ·rcases getElem?_append_cases ω with⟨qN,hU⟩|⟨_,gd⟩
    ·obtain⟨⟨ab,GA,g,π⟩,Μ⟩:=h.gb.iW r q b2 Χ df p op hU ν;have e3:op.g≠gs.size:=λe=>by rw[e,h.bh.out _ r (Nat.le_refl _)] at π;cases π
     refine⟨?_,λμ=>?_⟩
     ·rw[show c'.tok op.g=b1 c.tok i s (.par n _ .add) op.g from CB _ e3];exact zx dK (λ_ _ _ e=>by cases e) _ _ _ _ _ π
     ·rw[eW _ e3] at μ;exact(Μ μ).app _
    ·exact absurd ν (m3 op gd _)
   ·rcases Array.mem_append.1 Ν with Ν|Ν
    ·exact h.gb.vn j b v (fG j b v hv) op Ν ν
    ·exact m3 op Ν _ ν
  ·intro j b hb;by_cases e:j=gs.size
   ·subst e;rw[Array.getElem?_push] at hb;simp at hb;subst hb;refine⟨ch,?_,.inl rfl⟩;have U:c'.x gs.size=CA:=by simp[c',CA,ev,c5.x,upd_same]
    have Θ:c'.T gs.size=f (false,ch,CA):=upd_same ..
    have hm:(gs.size==0)=false:=by rw[beq_eq_false_iff_ne];exact Nat.ne_of_gt h.pos
    rw[U,Θ,hm];exact Tj
   ·have dG:(gs.setIfInBounds i g')[j]?=some b:=by
     rw[Array.getElem?_push] at hb;simpa[e] using hb
    by_cases Ε:j=i
    ·subst Ε;rw[Array.getElem?_setIfInBounds_self_of_lt bb] at dG;cases dG;refine⟨g',?_,.inl rfl⟩;have U:c'.x j=Cz:=by simp[c',Cz,ev,c5.x,upd_same,upd_ne _ _ e,vq,bN _ _ LZ]
     have Θ:c'.T j=f (j==0,g',Cz):=by show upd (upd c.T j _) gs.size _ j=_;rw[upd_ne _ _ e,upd_same]
     rw[U,Θ];exact bg
    ·rw[Array.getElem?_setIfInBounds_ne (Ne.symm Ε)] at dG;obtain⟨cP,Gi,kl⟩:=h.vo j b dG;have hI:(Sum.inl j:cF)≠.inl gs.size:=λx=>e (by cases x;rfl);have fP:(Sum.inl j:cF)≠.inl i:=λx=>Ε (by cases x;rfl);have U:c'.x j=c.x j:=by simp[c',ev,c5.x,upd_ne _ _ e,upd_ne _ _ Ε,r5 _ Ε,bN _ _ hI,bN _ _ fP]
     have Θ:c'.T j=c.T j:=by show upd (upd c.T i _) gs.size _ j=_;rw[upd_ne _ _ e,upd_ne _ _ Ε]
     have Ξ:c'.tok j=c.tok j:=congrArg aU.tok U;refine⟨cP,by rw[U,Θ];exact Gi,?_⟩;rw[Ξ];exact kl
 refine λsl=>⟨c',_,w,_,runT_crowd_spawn Υ ο,?_,.inr (.inl ⟨by simp,_,_,rfl⟩)⟩;rw[Tl];exact hinv
end
end Go.TL
