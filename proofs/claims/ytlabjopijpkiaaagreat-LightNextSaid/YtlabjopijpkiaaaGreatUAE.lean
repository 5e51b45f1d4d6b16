import Derived.Test.YtlabjopijpkiaaaGreatUAD
set_option maxHeartbeats 16000000
set_option maxRecDepth 20000
set_option linter.unusedSectionVars false
set_option linter.unusedSimpArgs false
set_option linter.unusedVariables false
namespace Go.TL
open Go.Conc
open Go.ConcM (OsLater)
open Go.ConcN (sumTo upd sumTo_upd upd_ne upd_same sumTo_congr le_sumTo)
theorem My:∀(q:Nat) (l:List Nat),l.Nodup->(∀x∈l,x<q)->l.length<=q:=by
 intro q
 induction q with
 | zero=>intro l _ h;cases l with
  | nil=>simp
  | cons a l=>exact absurd (h a θ) R
 | succ q Β=>
  intro l Η h;have:=Β (l.erase q) (Η.erase q) (λx γ=>by
   have I:=(Η.mem_erase_iff).1 γ
   have:=h x I.2
   have:=I.1;omega)
  by_cases Ψ:q∈l
  ·have:=List.length_erase_of_mem Ψ;omega
  ·rw[List.erase_of_not_mem Ψ] at this;omega
theorem Up (l:List Nat) (q:Nat) (Η:l.Nodup) (h:∀x∈l,x<q) (υ:l.length=q):∀k,k<q->k∈l:=λk ς=>by
 apply Classical.byContradiction;intro jd;have:=My q (k::l) (List.nodup_cons.2 ⟨jd,Η⟩) (λx γ=>by
  rcases List.mem_cons.1 γ with rfl|γ
  ·exact ς
  ·exact h x γ)
 simp at this;omega
section
variable {n:Nat} {tok:Nat->Nat->Tok} {spec:Nat->Nat->Option Spec} {view:Nat->Nat->Option (Nat×aP)} {rel:Nat->Bool} {O:Nat->Option aP} {bz home:Nat->Nat} {s i:Nat} {o:aP}
theorem eQ.fin (h:eQ n tok spec view rel O bz home) (ν:O s=some o) {j q p:Nat} {aJ:sf} (Ν:tok j s=.par q p aJ) (he:ic (.par q p aJ)=1):p=0/\o.cnt=0/\∀a k m g,tok a s=.ch k m g->g=.gone:=by
 have δ:j<n:=h.lt (s:=s) (by rw[Ν];simp)
 have Η:=(h.bg s o ν).2
 have tN:a' n (λa=>tok a s) ic=1:=by
  rw[pR (φ:=ic) (λt Ν=>by cases t<;>simp_all [eV,ic]) Η.nY δ (by rw[Ν];rfl),Ν,he]
 have jξ:a' n (λa=>tok a s) hn=p:=by
  rw[pR (φ:=hn) (λt Ν=>by cases t<;>simp_all [eV,hn]) Η.nY δ (by rw[Ν];rfl),Ν];rfl
 obtain⟨f1,f2,f3,f4,f5,f6⟩:=Η.LP tN;refine⟨R,f4,λa k m g μ=>?_⟩;have GY:a<n:=h.lt (s:=s) (by rw[μ];simp);have CC:=Η.Gr;have l1:=fv (λa=>tok a s) i' GY;have l2:=fv (λa=>tok a s) j3 GY;have oM:=fv (λa=>tok a s) j4 GY;simp only[μ,i',j3,j4] at l1 l2 oM;cases g with
 | gone=>rfl
 | work=>simp only[sg] at l1;omega
 | rel=>simp only[sg] at l1;omega
 | l2=>simp only[ve] at l2;omega
 | hN=>simp only[vf] at oM;omega
theorem eQ.Mz (h:eQ n tok spec view rel O bz home) (ν:O s=some o) {k:Nat} {m:lH} {g:tB} (Ν:tok i s=.ch k m g) (Ρ:g≠.gone):∀j q p,tok j s≠.par q p .bB:=λj q p δ=>
 Ρ ((h.fin ν δ rfl).2.2 i k m g Ν)
theorem eQ.only (h:eQ n tok spec view rel O bz home) (ν:O s=some o) (Ν:ia (tok i s)=1):∀j k L g,tok j s=.ch k (.dh L) g->j=i:=λj k L g δ=>by
 apply Classical.byContradiction;intro bA;have bq:i<n:=h.lt (s:=s) (by intro e;rw[e] at Ν;cases Ν);have e0:j<n:=h.lt (s:=s) (by rw[δ];simp);have Δ:=gA (λa=>tok a s) .nil ia bq;have Γ:=fv (upd (λa=>tok a s) i .nil) ia e0;rw[upd_ne _ _ bA] at Γ;have vD:ia .nil=0:=rfl;have q9:ia (tok j s)=1:=by rw[δ];rfl
 simp only[Ν,vD] at Δ;simp only[q9] at Γ;have:=(h.bg s o ν).1.LN;have:=(h.bg s o ν).1.f1;omega
def ra (tok:Nat->Nat->Tok) (s:Nat):Nat->List Nat
 | 0=>[]
 | n+1=>match tok n s with
  | .ch k _ _=>k::ra tok s n
  | _=>ra tok s n
theorem zB (tok:Nat->Nat->Tok) (s:Nat):∀n k,k∈ra tok s n↔∃j m g,j<n/\tok j s=.ch k m g
 | 0,k=>by simp[ra]
 | n+1,k=>by
  have Β:=zB tok s n k
  have old:(∃j m g,j<n/\tok j s=.ch k m g)->∃j m g,j<n+1/\tok j s=.ch k m g:=λ⟨j,m,g,I,U⟩=>⟨j,m,g,R,U⟩
  have split:(∃j m g,j<n+1/\tok j s=.ch k m g)->(∃j m g,j<n/\tok j s=.ch k m g)\/∃m g,tok n s=.ch k m g:=λ⟨j,m,g,I,U⟩=>by
   by_cases e:j=n
   ·subst e;exact .inr ⟨m,g,U⟩
   ·exact .inl ⟨j,m,g,R,U⟩
  unfold ra;cases γ:tok n s with
  | nil=>exact Β.trans ⟨old,λh=>(split h).elim id λ⟨m,g,e⟩=>by rw[γ] at e;cases e⟩
  | par=>exact Β.trans ⟨old,λh=>(split h).elim id λ⟨m,g,e⟩=>by rw[γ] at e;cases e⟩
  | ch ae b7 g'=>
   rw[List.mem_cons,Β];constructor
   ·rintro(rfl|h)
    ·exact⟨n,b7,g',R,γ⟩
    ·exact old h
   ·intro h;rcases split h with h|⟨m,g,e⟩
    ·exact .inr h
    ·rw[γ] at e;cases e;exact .inl rfl
theorem MA (tok:Nat->Nat->Tok) (s:Nat):∀n,(ra tok s n).length=a' n (λa=>tok a s) lK
 | 0=>rfl
 | n+1=>by
  have Β:=MA tok s n;rw[vm];unfold ra;cases γ:tok n s<;>simp[lK,Β]
theorem MB (υ:∀j bK k m g b7 g',tok j s=.ch k m g->tok bK s=.ch k b7 g'->j=bK):∀n,(ra tok s n).Nodup
 | 0=>List.nodup_nil
 | n+1=>by
  have Β:=MB υ n;unfold ra;cases γ:tok n s with
  | nil=>exact Β
  | par=>exact Β
  | ch k m g=>
   refine List.nodup_cons.2 ⟨λh=>?_,Β⟩;obtain⟨j,b7,g',I,U⟩:=(zB tok s n k).1 h;have:=υ j n k b7 g' m g U γ;omega
theorem eQ.full (h:eQ n tok spec view rel O bz home) (ν:O s=some o) {q:Nat} {aJ:sf} (Ν:tok i s=.par q 0 aJ) (my:aJ=.mm\/aJ=.w4) :
  o.ah.Perm (List.range q)/\(o.aW≠none->o.L.Perm (List.range q))/\∀a k m g,tok a s=.ch k m g->g=.gone:=by
 have bq:i<n:=h.lt (s:=s) (by rw[Ν];simp)
 have he:ic (.par q 0 aJ)=1:=by rcases my with rfl|rfl<;>rfl
 obtain⟨_,_,so⟩:=h.fin ν Ν he;have Η:=(h.bg s o ν).2;have cl:a' n (λa=>tok a s) ib=q:=by
  rw[pR (φ:=ib) (λt Ν=>by cases t<;>simp_all [eV,ib]) Η.nY bq (by rw[Ν];rfl),Ν];rfl
 have dY:a' n (λa=>tok a s) hn=0:=by
  rw[pR (φ:=hn) (λt Ν=>by cases t<;>simp_all [eV,hn]) Η.nY bq (by rw[Ν];rfl),Ν];rfl
 have jο:=Η.LO
 have xv:=h.par i s q 0 aJ Ν;subst xv;have Uq:=MB (tok:=tok) (s:=s) (λj bK k m g b7 g' I U=>h.vr s j bK k m g b7 g' I U) n;have lt:∀k∈ra tok s n,k<q:=λk ς=>by
  obtain⟨j,m,g,_,δ⟩:=(zB tok s n k).1 ς;have:=h.tI s j k m g q 0 aJ δ Ν;omega
 have full:=Up _ q Uq lt (by rw[MA];omega);obtain⟨e2,gq⟩:=h.gp s o ν;obtain⟨Ur,lm⟩:=h.fG s o ν;refine⟨(List.perm_ext_iff_of_nodup e2 List.nodup_range).2 λk=>?_,λfw=>(List.perm_ext_iff_of_nodup Ur List.nodup_range).2 λk=>?_,so⟩
 ·rw[gq,List.mem_range];constructor
  ·rintro⟨j,m,g,δ,_⟩;have:=h.tI s j k m g q 0 aJ δ Ν;omega
  ·intro ς;obtain⟨j,m,g,_,δ⟩:=(zB tok s n k).1 (full k ς);exact⟨j,m,g,δ,by rw[so j k m g δ];simp⟩
 ·rw[lm,List.mem_range];constructor
  ·rintro⟨j,m,g,δ,_⟩;have:=h.tI s j k m g q 0 aJ δ Ν;omega
  ·intro ς;obtain⟨j,m,g,_,δ⟩:=(zB tok s n k).1 (full k ς);refine⟨j,m,g,δ,?_⟩;rcases h.oX j s k m g o ν δ (by rw[so j k m g δ];simp) with rfl|⟨_,e⟩
   ·trivial
   ·exact absurd e fw
end
section
variable {H H':cI->χ} {aK pW:Nat->Nat->Option (Array Value×TypeId)} {tok eA:Nat->Nat->Tok} {O O':Nat->Option aP} {bz:Nat->Nat} {deaf:Nat->Nat} {N hp:Nat} {t:Trace} {bs w w':World} {i:Nat} {y:MemOp} {b s:Nat} {o:aP}
theorem ofEvents_one {fn:FuncId} {pos:String} {e:Event}:MemOp.ofEvents i fn pos #[e]=#[{g:=i,fn,pos,act:=.ofEvent e}]:=by rw[ofEvents_eq];simp
theorem iF.word (h:iF H aK tok O bz deaf N t) (Ο:y.g=i) (μ:y.act=.mark (.acquire ⟨b,0,none⟩)\/y.act=.mark (.releaseMerge ⟨b,0,none⟩)) (hb:b<N) (cO:mz O O') (hv:∀j b v,pW j b=some v->aK j b=some v)
  (ψ:∀k,dk (t++#[y]) (jE eA O' (t++#[y]) k) (H' k)):iF H' pW eA O' bz deaf N (t++#[y]):=by
 have nt:y.act.touch?=none:=by rcases μ with e|e<;>rw[e]<;>rfl
 have old:∀k a,touchAt (t++#[y]) k=some a->touchAt t k=some a/\k<t.size:=λk a ς=>by
  obtain⟨x,γ,qW⟩:=touch_of ς;rcases getElem?_append_cases γ with⟨aB,hM⟩|⟨_,gr⟩
  ·exact⟨by rw[touchAt_of hM];exact qW,aB⟩
  ·simp at gr;subst gr;rw[nt] at qW;cases qW
 refine⟨λsaid=>noRace_append (g:=i) (h.race said) (λop Ξ=>by simp at Ξ;subst Ξ;exact Ο) (λk a _ op Ξ c ε _=>by simp at Ξ;subst Ξ;rw[nt] at ε;cases ε),λop Ξ=>?_,λop Ξ a=>?_,ψ,λj c v ε k a ς=>h.oR j c v (hv j c v ε) k a (old k a ς).1,λs o' c ν ε k a ς fj=>?_,λj=>?_⟩
 ·rcases Array.mem_append.1 Ξ with Ξ|Ξ
  ·exact h.low op Ξ
  ·simp at Ξ;subst Ξ;rcases μ with e|e<;>rw[e]<;>exact hb
 ·rcases Array.mem_append.1 Ξ with Ξ|Ξ
  ·exact h.norel op Ξ a
  ·simp at Ξ;subst Ξ;rcases μ with e|e<;>rw[e]<;>simp
 ·obtain⟨lN,I,U⟩:=cO.1 s o' ν;obtain⟨ξ,Κ⟩:=old k a ς;rcases h.cont s lN c I (by rw[U];exact ε) k a ξ fj with x|⟨x,df⟩
  ·exact .inl x
  ·exact .inr ⟨x,by rw[g?_old Κ];exact df⟩
 ·rw[Deaf_push,<-h.hears j];rcases μ with e|e<;>simp[deafStep,e]
theorem iF.xw (h:iF H aK tok O bz deaf N t) (k:cI) (nt:y.act.touch?=none) (cO:mz O O') (dI:∀i s,eA i s≠.nil->tok i s≠.nil):dk (t++#[y]) (jE eA O' (t++#[y]) k) (H k):=
 (h.perms k).others (λ_ ς=>Cw cO.1 dI (GG _ ς)) λop Ξ a μ=>by simp at Ξ;subst Ξ;rw[nt] at μ;cases μ
theorem Knows.marked {p:Nat} {op:MemOp} (I:t[p]?=some op) (U:op.act=.mark (.releaseMerge ⟨b,0,none⟩)) (ξ:t.heard p) (eh:∀op∈t,∀a,op.act≠.mark (.release a)) (Ρ:y.g=i) (Ο:y.act=.mark (.acquire ⟨b,0,none⟩)) (hd:Deaf t i=0):Knows (t++#[y]) i p:=by
 have jG:(t++#[y])[t.size]?=some y:=θ
 have zu:(t++#[y]).heard t.size:=⟨i,by simp[Trace.g?,Ρ],by rw[deaf_old (Nat.le_refl _)];exact hd⟩
 have ψ:=lt_size_of_getElem? I;refine⟨t.size,y,jG,Ρ,.inr (.single (.inr ⟨.marked (a:=⟨b,0,none⟩) ψ (.inr ?_) ?_ ?_,(heard_old ψ).2 ξ,zu⟩))⟩
 ·rw[act?_old ψ,act?_of I,U]
 ·rw[act?_of jG,Ο]
 ·intro ae ij ej jH;rw[act?_old ej] at jH;obtain⟨sm,jI,ig⟩:=Option.map_eq_some_iff.1 jH;exact eh sm (mem_of_getElem? jI) _ ig
theorem dk.nm {jB:Nat->Prop} {G:χ} (h:dk t jB G) (nt:y.act.touch?=none) (ς:∀k,jB k->Knows (t++#[y]) i k):dk (t++#[y]) (Knows (t++#[y]) i) G:=
 h.others ς λop Ξ a μ=>by simp at Ξ;subst Ξ;rw[nt] at μ;cases μ
theorem Sub.empty (G:χ):Sub χ.empty G:=⟨λ_ _ _ _ h=>(by cases h),λ_ _ h=>(by cases h),λ_ _ h=>(by cases h)⟩
theorem Sub.both {A B aN:χ} (h:Sub A aN) (k:Sub B aN):Sub (join A B) aN:=by
 refine⟨λb o v p ε=>?_,λb x κ=>?_,λb x hv=>?_⟩
 ·simp only[join] at ε;cases Ρ:A.aL b o with
  | none=>rw[Ρ] at ε;exact k.aL b o v p ε
  | some z=>rw[Ρ] at ε;cases ε;exact h.aL b o v p Ρ
 ·simp only[join] at κ;cases Ρ:A.row b with
  | none=>rw[Ρ] at κ;exact k.row b x κ
  | some z=>rw[Ρ] at κ;cases κ;exact h.row b _ Ρ
 ·simp only[join] at hv;cases Ρ:A.obj b with
  | none=>rw[Ρ] at hv;exact k.obj b x hv
  | some z=>rw[Ρ] at hv;cases hv;exact h.obj b _ Ρ
theorem Sub.Us {G H:χ} (c5:Fits G w) (ω:Fits H w) (ap:Apart G H):Sub H (join G H):=by
 refine⟨λb o v p ε=>?_,λb x κ=>?_,λb x hv=>?_⟩
 ·simp only[join];cases Ρ:G.aL b o with
  | none=>exact⟨p,ε,id⟩
  | some z=>
   obtain⟨fi,fb⟩:=z;have Δ:=c5.aL b o fi fb Ρ;have Γ:=ω.aL b o v p ε;rw[Δ] at Γ;cases Γ;refine⟨fb,rfl,λψ=>?_⟩;subst ψ;exact absurd ⟨_,Ρ⟩ (ap.qU b o ⟨_,ε⟩)
 ·simp only[join];cases Ρ:G.row b with
  | none=>exact κ
  | some z=>
   obtain⟨t1,hP⟩:=z;obtain⟨t2,gb⟩:=x;obtain⟨c1,a1,bk⟩:=c5.row b t1 hP Ρ;obtain⟨c2,bJ,c8⟩:=ω.row b t2 gb κ;rw[a1] at bJ;cases bJ;rw[<-bk,<-c8]
 ·simp only[join];cases Ρ:G.obj b with
  | none=>exact hv
  | some z=>exact absurd ⟨x,hv⟩ (ap.obj b ⟨z,Ρ⟩)
theorem GZ (G:χ):join G χ.empty=G:=by
 obtain⟨a,b,c⟩:=G;simp only[join,χ.empty];congr
 ·funext x y;cases a x y<;>rfl
 ·funext x;cases b x<;>rfl
 ·funext x;cases c x<;>rfl
theorem g7.xx (h:g7 H aK O bs w) (hv:∀j b v,pW j b=some v->aK j b=some v):g7 H pW O bs w:=⟨h.fit,λj b c t hb=>h.mx j b c t (hv j b _ hb),h.fQ,h.keep⟩
theorem ie.xx (h:ie H aK O hp) (hv:∀j b v,pW j b=some v->aK j b=some v):ie H pW O hp:=by
 have MC:∀j b,aK j b=none->pW j b=none:=λj b e=>by
  cases γ:pW j b with
  | none=>rfl
  | some v=>rw[hv j b v γ] at e;cases e
 exact⟨h.apart,h.high,h.n1,λj b v hb=>let ⟨a1,bk,cz⟩:=h.fresh j b v (hv j b v hb);⟨a1,bk,λk ς=>MC k b (cz k ς)⟩,λs o b ν hb=>let ⟨a1,bk,cz⟩:=h.kC s o b ν hb;⟨a1,bk,λk=>MC k b (cz k)⟩,h.kU,h.pU,h.ez⟩
theorem kF {o':aP} (Α:O s=some o) {r:Nat} {q:aP} (h:upd O s (some o') r=some q):(r=s/\q=o')\/(r≠s/\O r=some q):=by
 by_cases e:r=s
 ·subst e;rw[upd_same] at h;cases h;exact .inl ⟨rfl,rfl⟩
 ·rw[upd_ne _ _ e] at h;exact .inr ⟨e,h⟩
theorem CH {a b:Tok} (Ν:tok i s=a) (μ:∀q p,a≠.par q p .bB) (hb:∀q p,b≠.par q p .bB) (j r q p:Nat):b5 tok i s b j r=.par q p .bB↔tok j r=.par q p .bB:=by
 by_cases e:j=i/\r=s
 ·obtain⟨rfl,rfl⟩:=e;rw[fa,Ν];exact⟨λx=>absurd x (hb q p),λx=>absurd x (μ q p)⟩
 ·rw[eY _ e]
theorem zC {a b:Tok} (Ν:tok i s=a) (μ:a≠.nil) (j r:Nat) (h:b5 tok i s b j r≠.nil):tok j r≠.nil:=by
 by_cases e:j=i/\r=s
 ·obtain⟨rfl,rfl⟩:=e;rw[Ν];exact μ
 ·rw[eY _ e] at h;exact h
theorem zD {a b:Tok} (Ν:tok i s=a) (hb:∀k m g,a=.ch k m g->∃k m g,b=.ch k m g) (j r k:Nat) (m:lH) (g:tB) (h:tok j r=.ch k m g):∃k m g,b5 tok i s b j r=.ch k m g:=by
 by_cases e:j=i/\r=s
 ·obtain⟨rfl,rfl⟩:=e;rw[fa];exact hb k m g (Ν▸h)
 ·rw[eY _ e];exact⟨k,m,g,h⟩
end
section
variable {P:Program} {Q:Value->Prop} {bs:World} {c c':c9} {gs:Array Goroutine} {w w':World} {t:Trace} {i:Nat} {g g':Goroutine} {es:Array Event}
variable {f:Bool×Goroutine×aX->gn (Bool×Goroutine×aX)}
theorem Inv.CI (h:Inv P Q bs c gs w t) (Ρ:gs[i]?=some g) (ς:L1 P (i==0) (lQ P Q f) g (c.x i)):h0 P Q bs c gs w t i f:=by
 obtain⟨s,sp,m,k,g',I,U,ξ,Κ,aE,bd,cH,G1⟩:=ς;have bq:i<gs.size:=mF Ρ;obtain⟨o,Α,b2⟩:=h.bj.q3 i s sp I;subst b2;have dI:c.tok i s=.ch k .own .work:=ξ;have hd:c.deaf i=0:=Κ;have eh:c.rel i=false:=bd;have ν:=cH w (h.mem.fit (.inl i));have vF:=h.bj.Mz Α dI θ;have dn:=h.ez.pV s o m Α U vF (λj ae L g δ=>by
  have:=h.bj.only Α (i:=i) (by rw[dI];rfl) j ae L g δ;subst this;rw[dI] at δ;cases δ)
 have bc:=G1 o.L (c.H (.inr m)) dn (h.hold.apart _ _ θ) ⟨(h.bj.fG s o Α).1,λς=>(by
  obtain⟨j,b7,af,Δ,Γ⟩:=((h.bj.fG s o Α).2 k).1 ς;have:=h.bj.vr s j i k b7 af _ _ Δ dI;subst this;rw[dI] at Δ;cases Δ;exact Γ),w,h.mem.fit _,h.mem.fit _⟩
 let df:aX:={c.x i with G:=join (c.H (.inl i)) (c.H (.inr m)),tok:=upd (c.tok i) s (.ch k (.dh o.L) .work),view:=upd (c.view i) s none}
 let c':c9:={c with H:=bO (bO c.H (.inl i) (join (c.H (.inl i)) (c.H (.inr m)))) (.inr m) χ.empty,tok:=b5 c.tok i s (.ch k (.dh o.L) .work),view:=upd c.view i (upd (c.view i) s none),O:=upd c.O s (some o),T:=upd c.T i (f (i==0,g',df))}
 have cO:=mz.upd (o':=o) Α rfl
 have bB:=CH (b:=.ch k (.dh o.L) .work) dI θ θ
 have nil:=zC (b:=.ch k (.dh o.L) .work) dI θ
 have hm:ep s o.toSpec m:=.inr U;refine h0.go (c':=c') Ρ ν ?_ _ rfl;rw[ofEvents_one];have n4:c'.x i=df:=by
  have:(Sum.inl i:cI)≠.inr m:=θ;simp[c',df,c9.x,upd_same,vE,bP _ _ this]
 refine h.laid (c':=c') Ρ (h.mem.two (zv (h.mem.fit _) (h.mem.fit _)) (vw w) λr q Ψ=>?_) ?_ ?_ (h.bj.Gs Α dI) ⟨λr q b7 Ψ dg bX hq=>?_,λr q Ψ bX=>?_⟩
  (h.ec.app bq (λop Ξ=>by simp at Ξ;subst Ξ;rfl) (λγ=>by rw[eh] at γ;cases γ) (λs q p ⟨j,x⟩=>⟨j,(bB j s q p).1 x⟩) (λj s q p x=>(bB j s q p).1 x))
  (h.gq.app h.bU.low (λop Ξ b hb=>by simp at Ξ;subst Ξ;cases hb) (λj b v hv=>.inl ⟨v,hv⟩) (λr q Ψ=>?_) (λj r ae mu g e=>zD dI (λ_ _ _ _=>⟨_,_,_,rfl⟩) j r ae mu g e))
  ⟨g',?_,.inl rfl⟩ (λj δ=>⟨?_,upd_ne _ _ δ⟩) (.inr λj r q _ a b=>?_)
 ·rcases kF Α Ψ with⟨rfl,rfl⟩|⟨_,cb⟩
  ·exact h.mem.fQ _ _ Α
  ·exact h.mem.fQ _ _ cb
 ·exact h.hold.two θ (Sub.refl _) (Sub.empty _) (Apart.tK _) cO λx γ=>by
   rcases γ with e|e
   ·cases e;exact⟨s,o,Α,hm⟩
   ·cases e
 ·refine h.bU.word (i:=i) rfl (.inl rfl) (h.low Α hm) cO (λ_ _ _ x=>x) λa=>?_;by_cases Γ:a=.inr m
  ·subst Γ;show dk _ _ (bO _ _ _ _);rw[dC];exact dk.empty
  ·show dk _ _ (bO _ _ _ _);rw[bP _ _ Γ];by_cases Δ:a=.inl i
   ·subst Δ;rw[dC];exact((h.bU.perms (.inl i)).own (λop Ξ=>by simp at Ξ;subst Ξ;rfl)).join ((h.bU.perms (.inr m)).acquire h.bU.norel Α hm (by rw[dI];simp) rfl rfl (by rw[h.bU.hears];exact hd))
   ·rw[bP _ _ Δ];exact h.bU.xw a rfl cO nil
 ·rcases kF Α Ψ with⟨rfl,rfl⟩|⟨e,cb⟩
  ·exact absurd (fa ..) (hq i k q.L .work)
  ·have bA:(.inr b7:cI)≠.inr m:=λx=>by cases x;exact e (h.hold.kU r s q o m cb Α (.inr dg) hm)
   show q.aN q.L (bO (bO c.H _ _) (.inr m) _ (.inr b7));rw[bP _ _ bA,iH];exact h.ez.pV r q b7 cb dg (λj q p x=>bX j q p ((bB j r q p).2 x)) λj k L g x=>hq j k L g (by show b5 c.tok i s _ j r=_;rw[eY _ (λy=>e y.2)];exact x)
 ·rcases kF Α Ψ with⟨rfl,rfl⟩|⟨e,cb⟩
  ·have bA:(.inr r:cI)≠.inr m:=λx=>by cases x;exact h.hold.pU _ q m Α U rfl
   show lO q.D q.ah (bO (bO c.H _ _) (.inr m) _ (.inr r));rw[bP _ _ bA,iH];exact h.ez.mB r q Α (λj q p x=>bX j q p ((bB j r q p).2 x))
  ·have bA:(.inr r:cI)≠.inr m:=λx=>by cases x;exact e (h.hold.kU m s q o m cb Α (.inl rfl) hm)
   show lO q.D q.ah (bO (bO c.H _ _) (.inr m) _ (.inr r));rw[bP _ _ bA,iH];exact h.ez.mB r q cb (λj q p x=>bX j q p ((bB j r q p).2 x))
 ·rcases kF Α Ψ with⟨rfl,rfl⟩|⟨_,cb⟩
  ·exact⟨_,Α,rfl⟩
  ·exact⟨q,cb,rfl⟩
 ·rw[n4];show jD P Q (upd c.T i (f (i==0,g',df)) i) _ _ _;rw[upd_same];exact bc
 ·have hP:(Sum.inl j:cI)≠.inr m:=by simp
  have gb:(Sum.inl j:cI)≠.inl i:=λe=>δ (by cases e;rfl);simp[c',c9.x,upd_ne _ _ δ,sr _ δ,bP _ _ hP,bP _ _ gb]
 ·exact⟨q,by show upd c.O s (some o) r=some q;rw[CE Α];exact a,b⟩
theorem Inv.G2 (h:Inv P Q bs c gs w t) (Ρ:gs[i]?=some g) (ς:L2 P (i==0) (lQ P Q f) g (c.x i)):h0 P Q bs c gs w t i f:=by
 obtain⟨s,sp,m,k,L,g',G',E,I,U,ξ,Κ,aE,bd,cH,mG,dp,bc⟩:=ς;have bq:i<gs.size:=mF Ρ;obtain⟨o,Α,b2⟩:=h.bj.q3 i s sp I;subst b2;have dI:c.tok i s=.ch k (.dh L) .work:=ξ;have hd:c.deaf i=0:=Κ;have eh:c.rel i=false:=bd;have ν:=cH w (h.mem.fit (.inl i));have aG:o.L=L:=h.bj.dh i s k L .work o Α dI;let o':aP:={o with L:=o.L++[k]};let df:aX:={c.x i with G:=G',tok:=upd (c.tok i) s (.ch k .fin .work),view:=upd (c.view i) s none};let c':c9:={c with H:=bO (bO c.H (.inl i) G') (.inr m) E,tok:=b5 c.tok i s (.ch k .fin .work),view:=upd c.view i (upd (c.view i) s none),O:=upd c.O s (some o'),T:=upd c.T i (f (i==0,g',df))};have cO:mz c.O (upd c.O s (some o')):=mz.upd Α rfl;have bB:=CH (b:=.ch k .fin .work) dI θ θ;have nil:=zC (b:=.ch k .fin .work) dI θ;have hm:ep s o.toSpec m:=.inr U;refine h0.go (c':=c') Ρ ν ?_ _ rfl;rw[ofEvents_one];have n4:c'.x i=df:=by
  have:(Sum.inl i:cI)≠.inr m:=θ;simp[c',df,c9.x,upd_same,vE,bP _ _ this]
 refine h.laid (c':=c') Ρ (h.mem.two (mG.l.fits (h.mem.fit (.inl i))) (mG.r.fits (h.mem.fit (.inl i))) λr q Ψ=>?_) ?_ ?_ (h.bj.T1 Α dI) ⟨λr q b7 Ψ dg bX hq=>?_,λr q Ψ bX=>?_⟩
  (h.ec.app bq (λop Ξ=>by simp at Ξ;subst Ξ;rfl) (λγ=>by rw[eh] at γ;cases γ) (λs q p ⟨j,x⟩=>⟨j,(bB j s q p).1 x⟩) (λj s q p x=>(bB j s q p).1 x))
  ⟨λr q b7 Ψ dg p op ψ μ=>?_,λj b v hv op Ξ μ=>?_⟩
  ⟨g',?_,.inl rfl⟩ (λj δ=>⟨?_,upd_ne _ _ δ⟩) (.inr λj r q _ a b=>?_)
 ·rcases kF Α Ψ with⟨rfl,rfl⟩|⟨_,cb⟩
  ·exact(h.mem.fQ r o Α:At r o w)
  ·exact h.mem.fQ _ _ cb
 ·exact h.hold.two θ mG.l.q4 mG.r.q4 mG.apart cO λx γ=>by
   rcases γ with e|e
   ·cases e;exact⟨s,o,Α,hm⟩
   ·cases e
 ·refine h.bU.word (i:=i) rfl (.inr rfl) (h.low Α hm) cO (λ_ _ _ x=>x) λa=>?_;by_cases Γ:a=.inr m
  ·subst Γ;show dk _ _ (bO _ _ _ _);rw[dC];exact((dk.release (h.bU.perms (.inl i)) rfl rfl (by rw[h.bU.hears];exact hd)).sub mG.r).mono λ_ x=>Cw cO.1 nil x
  ·show dk _ _ (bO _ _ _ _);rw[bP _ _ Γ];by_cases Δ:a=.inl i
   ·subst Δ;rw[dC];exact((h.bU.perms (.inl i)).own (λop Ξ=>by simp at Ξ;subst Ξ;rfl)).sub mG.l
   ·rw[bP _ _ Δ];exact h.bU.xw a rfl cO nil
 ·rcases kF Α Ψ with⟨rfl,rfl⟩|⟨e,cb⟩
  ·have e:b7=m:=by have:o.aW=some b7:=dg;rw[U] at this;cases this;rfl
   subst e;show o.aN (o.L++[k]) (bO (bO c.H _ _) (.inr b7) _ (.inr b7));rw[dC,aG];exact dp
  ·have bA:(.inr b7:cI)≠.inr m:=λx=>by cases x;exact e (h.hold.kU r s q o m cb Α (.inr dg) hm)
   show q.aN q.L (bO (bO c.H _ _) (.inr m) _ (.inr b7));rw[bP _ _ bA,iH];exact h.ez.pV r q b7 cb dg (λj q p x=>bX j q p ((bB j r q p).2 x)) λj k L g x=>hq j k L g (by show b5 c.tok i s _ j r=_;rw[eY _ (λy=>e y.2)];exact x)
 ·rcases kF Α Ψ with⟨rfl,rfl⟩|⟨e,cb⟩
  ·have bA:(.inr r:cI)≠.inr m:=λx=>by cases x;exact h.hold.pU _ o m Α U rfl
   show lO o.D o.ah (bO (bO c.H _ _) (.inr m) _ (.inr r));rw[bP _ _ bA,iH];exact h.ez.mB r o Α (λj q p x=>bX j q p ((bB j r q p).2 x))
  ·have bA:(.inr r:cI)≠.inr m:=λx=>by cases x;exact e (h.hold.kU m s q o m cb Α (.inl rfl) hm)
   show lO q.D q.ah (bO (bO c.H _ _) (.inr m) _ (.inr r));rw[bP _ _ bA,iH];exact h.ez.mB r q cb (λj q p x=>bX j q p ((bB j r q p).2 x))
 ·rcases getElem?_append_cases ψ with⟨_,gf⟩|⟨_,gr⟩
  ·have zE:∀ik,c.O r=some ik->ik.aW=some b7->(∃ae mu g,b5 c.tok i s (.ch k .fin .work) op.g r=.ch ae mu g)/\(c.rel op.g=true->Before (t++#[{g:=i,fn:=g.frame.fn,pos:=g.frame.place,act:=MemAct.ofEvent (Go.ConcR.mk (Mark.releaseMerge {block:=m,off:=0}))}]) p (c.dx op.g)):=λik Δ Γ=>by
    obtain⟨⟨ae,mu,g,ξ⟩,Κ⟩:=h.gq.jb r ik b7 Δ Γ p op gf μ;exact⟨zD dI (λ_ _ _ _=>⟨_,_,_,rfl⟩) _ _ _ _ _ ξ,λκ=>(Κ κ).app _⟩
   rcases kF Α Ψ with⟨rfl,rfl⟩|⟨_,cb⟩
   ·exact zE o Α dg
   ·exact zE q cb dg
  ·simp at gr;subst gr;cases μ;have:r=s:=by
    rcases kF Α Ψ with⟨rfl,rfl⟩|⟨_,cb⟩
    ·rfl
    ·exact h.hold.kU r s q o m cb Α (.inr dg) hm
   subst this;exact⟨⟨k,.fin,.work,fa ..⟩,λκ=>by
    have:c.rel i=true:=κ;rw[eh] at this;cases this⟩
 ·rcases Array.mem_append.1 Ξ with Ξ|Ξ
  ·exact h.gq.vA j b v hv op Ξ μ
  ·simp at Ξ;subst Ξ;cases μ;have:=(h.hold.kC s o m Α hm).2.2 j;have lP:c.aK j m=some v:=hv;rw[this] at lP;cases lP
 ·rw[n4];show jD P Q (upd c.T i (f (i==0,g',df)) i) _ _ _;rw[upd_same];exact bc
 ·have hP:(Sum.inl j:cI)≠.inr m:=by simp
  have gb:(Sum.inl j:cI)≠.inl i:=λe=>δ (by cases e;rfl);simp[c',c9.x,upd_ne _ _ δ,sr _ δ,bP _ _ hP,bP _ _ gb]
 ·by_cases e:r=s
  ·subst e;rw[Α] at a;cases a;exact⟨o',upd_same ..,b⟩
  ·exact⟨q,by show upd c.O s (some o') r=some q;rw[upd_ne _ _ e];exact a,b⟩
end
section
variable {P:Program} {Q:Value->Prop} {bs:World} {c c':c9} {gs:Array Goroutine} {w w':World} {t:Trace} {i:Nat} {g g':Goroutine} {es:Array Event}
variable {f:Bool×Goroutine×aX->gn (Bool×Goroutine×aX)}
theorem Inv.parent (h:Inv P Q bs c gs w t) {s:Nat} {o:aP} (Α:c.O s=some o):c.bz s<gs.size/\∃q p aJ,c.tok (c.bz s) s=.par q p aJ:=by
 obtain⟨i0,j6,ψ⟩:=Cj (φ:=eV) (N:=gs.size) (τ:=λa=>c.tok a s) (by rw[(h.bj.bg s o Α).2.nY];exact Nat.one_pos);have zy:∃q p aJ,c.tok i0 s=.par q p aJ:=by
  cases γ:c.tok i0 s with
  | par q p aJ=>exact⟨q,p,aJ,rfl⟩
  | nil=>simp[γ,eV] at ψ
  | ch=>simp[γ,eV] at ψ
 obtain⟨q,p,aJ,γ⟩:=zy;have cD:=h.bj.par i0 _ q p aJ γ;subst cD;exact⟨j6,q,p,aJ,γ⟩
theorem Inv.G3 (h:Inv P Q bs c gs w t) (Ρ:gs[i]?=some g) (ς:L3 P (i==0) (lQ P Q f) g (c.x i)):h0 P Q bs c gs w t i f:=by
 obtain⟨s,sp,k,mu,g',E,I,ξ,tJ,Ut,Κ,aE,bd,cH,j7,dZ,bc⟩:=ς;have bq:i<gs.size:=mF Ρ;obtain⟨o,Α,b2⟩:=h.bj.q3 i s sp I;subst b2;have dI:c.tok i s=.ch k mu .work:=ξ;have hd:c.deaf i=0:=Κ;have eh:c.rel i=false:=bd;have MD:∀bp,bp≠s->fZ (c.tok i bp):=Ut;have ν:=cH w (h.mem.fit (.inl i));obtain⟨j6,sn,aB⟩:=h.bj.oV i s k mu .work dI;have vF:=h.bj.Mz Α dI θ;let y:MemOp:={g:=i,fn:=g.frame.fn,pos:=g.frame.place,act:=MemAct.ofEvent (Go.ConcR.mk (Mark.releaseMerge ⟨s,0,none⟩))};have G4:y.act=.mark (.releaseMerge ⟨s,0,none⟩):=rfl;have jG:(t++#[y])[t.size]?=some y:=θ;have Uu:(t++#[y]).heard t.size:=⟨i,by simp[Trace.g?,y],by rw[deaf_old (Nat.le_refl _)];exact(h.bU.hears i).trans hd⟩;let o':aP:={o with ah:=k::o.ah};let df:aX:={c.x i with G:=χ.empty,aK:=λ_=>none,tok:=upd (c.tok i) s (.ch k mu .rel),view:=upd (c.view i) s none,rel:=true};let c':c9:={c with H:=bO (bO c.H (.inl i) χ.empty) (.inr s) (join E (c.H (.inr s))),aK:=upd c.aK i λ_=>none,tok:=b5 c.tok i s (.ch k mu .rel),view:=upd c.view i (upd (c.view i) s none),O:=upd c.O s (some o'),rel:=upd c.rel i true,dx:=upd c.dx i t.size,T:=upd c.T i (f (i==0,g',df))};have cO:mz c.O (upd c.O s (some o')):=mz.upd Α rfl;have bB:=CH (b:=.ch k mu .rel) dI θ θ;have nil:=zC (b:=.ch k mu .rel) dI θ;have ht:ep s o.toSpec s:=.inl rfl;have fR:∀j b v,upd c.aK i (λ_=>none) j b=some v->c.aK j b=some v:=λj b v hv=>by
  by_cases e:j=i
  ·subst e;rw[upd_same] at hv;cases hv
  ·rw[upd_ne _ _ e] at hv;exact hv
 have iI:=h.hold.apart (.inl i) (.inr s) θ
 have hSub:Sub (join E (c.H (.inr s))) (join (c.H (.inl i)) (c.H (.inr s))):=Sub.both (Sub.q4 j7) (Sub.Us (h.mem.fit _) (h.mem.fit _) iI)
 have ME:∀j r ae L g,c.tok j r=.ch ae (.dh L) g->b5 c.tok i s (.ch k mu .rel) j r=.ch ae (.dh L) g:=λj r ae L g δ=>by
  rw[eY _ (λe=>?_)]
  ·exact δ
  ·obtain⟨rfl,rfl⟩:=e;rw[dI] at δ;rcases tJ with rfl|⟨rfl,_⟩<;>cases δ
 have sk:∀j,j≠i->∀r,b5 c.tok i s (.ch k mu .rel) j r=c.tok j r:=λj δ r=>eY _ λe=>δ e.1;refine h0.go (c':=c') Ρ ν ?_ _ rfl;rw[ofEvents_one];have n4:c'.x i=df:=by
  have:(Sum.inl i:cI)≠.inr s:=θ;simp[c',df,c9.x,upd_same,vE,bP _ _ this]
 have Uv:vz gs.size c'.tok c'.rel c'.bz c'.home c'.dx (t++#[y]):=by
  refine⟨λae g' hs=>?_,λj fH δ=>?_,λj fH δ bX=>?_,λj fH δ rb bF=>?_⟩
  ·obtain⟨op,Ξ,hr⟩:=Option.map_eq_some_iff.1 hs;rcases getElem?_append_cases Ξ with⟨_,kX⟩|⟨_,gr⟩
   ·exact h.ec.er ae g' (by simp[Trace.g?,kX,hr])
   ·simp at gr;subst gr;rw[<-hr];exact bq
  ·by_cases e:j=i
   ·subst e;have Δ:c'.dx j=t.size:=upd_same ..;rw[Δ];refine⟨y,jG,rfl,by rw[G4];show _=MemAct.mark (.releaseMerge ⟨c.home j,0,none⟩);rw[sn],Uu,λae hs ε=>?_⟩;obtain⟨op,Ξ,hr⟩:=Option.map_eq_some_iff.1 hs;rcases getElem?_append_cases Ξ with⟨re,kX⟩|⟨hle,gr⟩
    ·exact .inr (hb_po re Ξ jG hr)
    ·exact absurd ε (xu (u:=#[y]) (λop Ξ=>by simp at Ξ;subst Ξ;rfl) ae hle)
   ·have bn:c.rel j=true:=by have:upd c.rel i true j=true:=δ;rwa [upd_ne _ _ e] at this
    have Δ:c'.dx j=c.dx j:=upd_ne _ _ e;rw[Δ];obtain⟨op,a1,bk,cz,gm,hO⟩:=h.ec.c1 j fH bn;have ψ:=lt_size_of_getElem? a1;refine⟨op,by rw[getElem?_append_old ψ];exact a1,bk,cz,(heard_old ψ).2 gm,λae hs ε=>?_⟩;obtain⟨sm,Ξ,hr⟩:=Option.map_eq_some_iff.1 hs;rcases getElem?_append_cases Ξ with⟨re,kX⟩|⟨hle,gr⟩
    ·exact(hO ae (by simp[Trace.g?,kX,hr]) ((zx re).1 ε)).app _
    ·exact absurd ε (xu (u:=#[y]) (λop Ξ=>by simp at Ξ;subst Ξ;rfl) ae hle)
  ·obtain⟨q,p,Ψ⟩:=bX;have cb:c.tok (c.bz (c.home j)) (c.home j)=.par q p .bB:=(bB _ _ q p).1 Ψ;by_cases e:j=i
   ·subst e;rw[sn] at cb;exact absurd cb (vF _ q p)
   ·have bn:c.rel j=true:=by have:upd c.rel i true j=true:=δ;rwa [upd_ne _ _ e] at this
    have Δ:c'.dx j=c.dx j:=upd_ne _ _ e;rw[Δ];exact(h.ec.c2 j fH bn ⟨q,p,cb⟩).app _
  ·by_cases e:j=i
   ·subst e;exfalso;have Uw:c.bz s≠0:=by rw[<-sn];exact rb
    have bA:c.bz s≠j:=R
    have zF:c.rel (c.bz s)=true:=by
     have:upd c.rel j true (c.bz (c.home j))=true:=bF;rw[sn,upd_ne _ _ bA] at this;exact this
    obtain⟨_,q,p,aJ,ss⟩:=h.parent Α;have cN:fZ (c.tok (c.bz s) s):=by
     by_cases Γ:s=c.home (c.bz s)
     ·obtain⟨cJ,eB,af,ej⟩:=h.bj.sj (c.bz s) Uw R;rw[<-Γ,ss] at ej;cases ej
     ·exact h.bj.oW _ s zF Γ
    rw[ss] at cN;cases aJ<;>first|exact cN.elim|exact vF _ _ _ ss
   ·have bn:c.rel j=true:=by have:upd c.rel i true j=true:=δ;rwa [upd_ne _ _ e] at this
    have Δ:c'.dx j=c.dx j:=upd_ne _ _ e;rw[Δ];by_cases Γ:c.bz (c.home j)=i
    ·have a0:c'.dx (c.bz (c.home j))=t.size:=by rw[Γ];exact upd_same ..
     show Before _ _ (c'.dx (c.bz (c.home j)));rw[a0];obtain⟨op,a1,_⟩:=h.ec.c1 j fH bn;have e0:j<gs.size:=by
      obtain⟨op,a1,bk,_⟩:=h.ec.c1 j fH bn;exact h.ec.er (c.dx j) j (by simp[Trace.g?,a1,bk])
     obtain⟨cJ,eB,af,ej⟩:=h.bj.sj j fH e0;obtain⟨hZ,vG⟩:=h.obj (i:=j) (s:=c.home j) (by rw[ej];simp);obtain⟨_,q,p,aJ,ss⟩:=h.parent vG;rw[Γ] at ss;have bA:c.home j≠s:=λcG=>by rw[cG,dI] at ss;cases ss
     have cN:=MD _ bA;rw[ss] at cN;have my:aJ=.bB:=by cases aJ<;>first|exact cN.elim|rfl
     subst my;have MF:=h.ec.c2 j fH bn ⟨q,p,by rw[Γ];exact ss⟩;rw[Γ] at MF;exact .inr (MF.hb_new (u:=#[y]) (Nat.le_refl _) jG rfl)
    ·have a0:c'.dx (c.bz (c.home j))=c.dx (c.bz (c.home j)):=upd_ne _ _ Γ
     show Before _ _ (c'.dx (c.bz (c.home j)));rw[a0];refine(h.ec.c3 j fH bn rb ?_).app _;have:upd c.rel i true (c.bz (c.home j))=true:=bF
     rwa [upd_ne _ _ Γ] at this
 refine h.laid (c':=c') Ρ ((h.mem.two (vw w) (zv (j7.fits (h.mem.fit (.inl i))) (h.mem.fit _)) λr q Ψ=>?_).xx fR) ((h.hold.two θ (Sub.empty _) hSub (Apart.tK _).symm cO λx γ=>?_).xx fR) ?_ (h.bj.T2 Α dI tJ MD) ⟨λr q b7 Ψ dg bX hq=>?_,λr q Ψ bX=>?_⟩
  Uv ⟨λr q b7 Ψ dg p op ψ μ=>?_,λj b v hv op Ξ μ=>?_⟩
  ⟨g',?_,.inl rfl⟩ (λj δ=>⟨?_,upd_ne _ _ δ⟩) (.inr λj r q _ a b=>?_)
 ·rcases kF Α Ψ with⟨rfl,rfl⟩|⟨_,cb⟩
  ·exact(h.mem.fQ r o Α:At r o w)
  ·exact h.mem.fQ _ _ cb
 ·rcases γ with e|e
  ·cases e;exact⟨s,o,Α,ht⟩
  ·cases e
 ·refine h.bU.word (i:=i) rfl (.inr rfl) (h.low Α ht) cO fR λa=>?_;by_cases Γ:a=.inr s
  ·subst Γ;show dk _ _ (bO _ _ _ _);rw[dC];exact(((dk.release (h.bU.perms (.inl i)) rfl rfl (by rw[h.bU.hears];exact hd)).sub j7).mono λ_ x=>Cw cO.1 nil x).join (h.bU.xw (.inr s) rfl cO nil)
  ·show dk _ _ (bO _ _ _ _);rw[bP _ _ Γ];by_cases Δ:a=.inl i
   ·subst Δ;rw[dC];exact dk.empty
   ·rw[bP _ _ Δ];exact h.bU.xw a rfl cO nil
 ·rcases kF Α Ψ with⟨rfl,rfl⟩|⟨e,cb⟩
  ·have bA:(.inr b7:cI)≠.inr r:=λx=>by cases x;exact h.hold.pU _ o _ Α dg rfl
   show o.aN o.L (bO (bO c.H _ _) (.inr r) _ (.inr b7));rw[bP _ _ bA,iH];exact h.ez.pV r o b7 Α dg (λj q p x=>bX j q p ((bB j r q p).2 x)) λj k L g x=>hq j k L g (ME _ _ _ _ _ x)
  ·have bA:(.inr b7:cI)≠.inr s:=λx=>e (h.hold.kU r s q o b7 cb Α (.inr dg) (by cases x;exact ht))
   show q.aN q.L (bO (bO c.H _ _) (.inr s) _ (.inr b7));rw[bP _ _ bA,iH];exact h.ez.pV r q b7 cb dg (λj q p x=>bX j q p ((bB j r q p).2 x)) λj k L g x=>hq j k L g (ME _ _ _ _ _ x)
 ·rcases kF Α Ψ with⟨rfl,rfl⟩|⟨e,cb⟩
  ·show lO o.D (k::o.ah) (bO (bO c.H _ _) (.inr r) _ (.inr r));rw[dC];exact⟨E,c.H (.inr r),dZ,h.ez.mB r o Α (λj q p x=>bX j q p ((bB j r q p).2 x)),iI.sub j7 (Sub.refl _),rfl⟩
  ·have bA:(.inr r:cI)≠.inr s:=λx=>by cases x;exact e rfl
   show lO q.D q.ah (bO (bO c.H _ _) (.inr s) _ (.inr r));rw[bP _ _ bA,iH];exact h.ez.mB r q cb (λj q p x=>bX j q p ((bB j r q p).2 x))
 ·rcases getElem?_append_cases ψ with⟨re,gf⟩|⟨_,gr⟩
  ·have zE:∀ik,c.O r=some ik->ik.aW=some b7->(∃ae G5 g,b5 c.tok i s (.ch k mu .rel) op.g r=.ch ae G5 g)/\(c'.rel op.g=true->Before (t++#[y]) p (c'.dx op.g)):=λik Δ Γ=>by
    obtain⟨⟨ae,G5,g,ξ⟩,Κ⟩:=h.gq.jb r ik b7 Δ Γ p op gf μ;refine⟨zD dI (λ_ _ _ _=>⟨_,_,_,rfl⟩) _ _ _ _ _ ξ,λκ=>?_⟩;by_cases e:op.g=i
    ·have Δ:c'.dx op.g=t.size:=by rw[e];exact upd_same ..
     rw[Δ];exact .inr (hb_po re ψ jG e)
    ·have Δ:c'.dx op.g=c.dx op.g:=upd_ne _ _ e
     have Γ:c.rel op.g=true:=by have:upd c.rel i true op.g=true:=κ;rwa [upd_ne _ _ e] at this
     rw[Δ];exact(Κ Γ).app _
   rcases kF Α Ψ with⟨rfl,rfl⟩|⟨_,cb⟩
   ·exact zE o Α dg
   ·exact zE q cb dg
  ·simp at gr;subst gr;cases μ;exfalso;rcases kF Α Ψ with⟨rfl,rfl⟩|⟨e,cb⟩
   ·exact h.hold.pU _ o _ Α dg rfl
   ·exact e (h.hold.kU r s q o s cb Α (.inr dg) ht)
 ·have lP:=fR j b v hv;rcases Array.mem_append.1 Ξ with Ξ|Ξ
  ·exact h.gq.vA j b v lP op Ξ μ
  ·simp at Ξ;subst Ξ;cases μ;have:=(h.hold.kC s o s Α ht).2.2 j;rw[this] at lP;cases lP
 ·rw[n4];show jD P Q (upd c.T i (f (i==0,g',df)) i) _ _ _;rw[upd_same];exact bc
 ·have hP:(Sum.inl j:cI)≠.inr s:=by simp
  have gb:(Sum.inl j:cI)≠.inl i:=λe=>δ (by cases e;rfl);simp[c',c9.x,upd_ne _ _ δ,sr _ δ,bP _ _ hP,bP _ _ gb]
 ·by_cases e:r=s
  ·subst e;rw[Α] at a;cases a;exact⟨o',upd_same ..,b⟩
  ·exact⟨q,by show upd c.O s (some o') r=some q;rw[upd_ne _ _ e];exact a,b⟩
theorem Inv.CJ (h:Inv P Q bs c gs w t) (Ρ:gs[i]?=some g) (ς:L4 P (i==0) (lQ P Q f) g (c.x i)):h0 P Q bs c gs w t i f:=by
 obtain⟨s,sp,n,aJ,g',I,ξ,my,Κ,aE,bd,cH,G1⟩:=ς;have bq:i<gs.size:=mF Ρ;obtain⟨o,Α,b2⟩:=h.bj.q3 i s sp I;subst b2;have dI:c.tok i s=.par n 0 aJ:=ξ;have hd:c.deaf i=0:=Κ;have eh:c.rel i=false:=bd;have ν:=cH w (h.mem.fit (.inl i));have rb:=h.bj.par i s n 0 aJ dI;obtain⟨MG,lR,so⟩:=h.bj.full Α dI my;have ht:ep s o.toSpec s:=.inl rfl;have vF:∀j q p,c.tok j s≠.par q p .bB:=λj q p δ=>by
  have e:=h.bj.par j s q p .bB δ;rw[<-rb] at e;subst e;rw[dI] at δ;rcases my with rfl|rfl<;>cases δ
 let y:MemOp:={g:=i,fn:=g.frame.fn,pos:=g.frame.place,act:=MemAct.ofEvent (Go.ConcR.mk (Mark.acquire ⟨s,0,none⟩))}
 have G4:y.act=.mark (.acquire ⟨s,0,none⟩):=rfl
 have vH:Deaf t i=0:=by rw[h.bU.hears];exact hd
 have cO:mz c.O (upd c.O s (some o)):=mz.upd Α rfl
 have nil:=zC (b:=.par n 0 .bB) dI θ
 have MH:∀j,(∃k m g,c.tok j s=.ch k m g)->j≠0/\c.home j=s/\c.rel j=true/\Knows (t++#[y]) i (c.dx j):=λj ⟨k,m,g,δ⟩=>by
  obtain⟨a1,bk,_⟩:=h.bj.oV j s k m g δ;have cz:c.rel j=true:=(h.bj.g8 j k m g a1 (by rw[bk];exact δ)).2 (by rw[so j k m g δ];simp);obtain⟨op,bJ,c8,fY,mD,_⟩:=h.ec.c1 j a1 cz;rw[bk] at fY;exact⟨a1,bk,cz,Knows.marked bJ fY mD h.bU.norel rfl G4 vH⟩
 have Ux:=h.ez.mB s o Α vF;obtain⟨bQ,eI,Uy,Uz,UA,UB,UC,jL,je,G6,kY,G7,G8,G9⟩:∃(bQ:cI->χ) (eI:χ),Fits eI w/\(o.aW≠none->o.aN o.L eI)/\(o.aW=none->eI=χ.empty)/\Apart (c.H (.inl i)) eI/\Apart (c.H (.inr s)) eI/\
   bQ (.inl i)=join (join (c.H (.inl i)) (c.H (.inr s))) eI/\(∀j,j≠i->bQ (.inl j)=c.H (.inl j))/\(∀m,o.aW=some m->bQ (.inr m)=χ.empty)/\(∀b,b≠s->o.aW≠some b->bQ (.inr b)=c.H (.inr b))/\
   ie bQ c.aK (upd c.O s (some o)) bs.heap.size/\g7 bQ c.aK (upd c.O s (some o)) bs w/\∀a,dk (t++#[y]) (jE (b5 c.tok i s (.par n 0 .bB)) (upd c.O s (some o)) (t++#[y]) a) (bQ a):=by
  have mC:∀r q,upd c.O s (some o) r=some q->At r q w:=λr q Ψ=>by
   rcases kF Α Ψ with⟨rfl,rfl⟩|⟨_,cb⟩
   ·exact h.mem.fQ _ _ Α
   ·exact h.mem.fQ _ _ cb
  have xy:dk (t++#[y]) (Knows (t++#[y]) i) (join (c.H (.inl i)) (c.H (.inr s))):=
   ((h.bU.perms (.inl i)).own (λop Ξ=>by simp at Ξ;subst Ξ;rfl)).join ((h.bU.perms (.inr s)).acquire h.bU.norel Α ht (by rw[dI];simp) rfl rfl vH)
  have MI:ie (bO (bO c.H (.inl i) (join (c.H (.inl i)) (c.H (.inr s)))) (.inr s) χ.empty) c.aK (upd c.O s (some o)) bs.heap.size:=
   h.hold.two θ (Sub.refl _) (Sub.empty _) (Apart.tK _) cO λx γ=>by
    rcases γ with e|e
    ·cases e;exact⟨s,o,Α,ht⟩
    ·cases e
  have MJ:g7 (bO (bO c.H (.inl i) (join (c.H (.inl i)) (c.H (.inr s)))) (.inr s) χ.empty) c.aK (upd c.O s (some o)) bs w:=h.mem.two (zv (h.mem.fit _) (h.mem.fit _)) (vw w) mC
  have pX:(Sum.inl i:cI)≠.inr s:=θ;cases fw:o.aW with
  | none=>
   refine⟨bO (bO c.H (.inl i) (join (c.H (.inl i)) (c.H (.inr s)))) (.inr s) χ.empty,χ.empty,vw w,λx=>absurd rfl x,λ_=>rfl,Apart.tK _,Apart.tK _,?_,λj δ=>?_,λm hm=>(by cases hm),λb hb _=>?_,MI,MJ,λa=>?_⟩
   ·rw[bP _ _ pX,dC,GZ]
   ·have gb:(Sum.inl j:cI)≠.inl i:=λe=>δ (by cases e;rfl);rw[bP _ _ θ,bP _ _ gb]
   ·have gb:(Sum.inr b:cI)≠.inr s:=λe=>hb (by cases e;rfl);rw[bP _ _ gb,iH]
   ·by_cases Γ:a=.inr s
    ·subst Γ;rw[dC];exact dk.empty
    ·rw[bP _ _ Γ];by_cases Δ:a=.inl i
     ·subst Δ;rw[dC];exact xy
     ·rw[bP _ _ Δ];exact h.bU.xw a rfl cO nil
  | some m=>
   have hm:ep s o.toSpec m:=.inr fw
   have su:m≠s:=h.hold.pU s o m Α fw
   have rf:(Sum.inr m:cI)≠.inr s:=λe=>su (by cases e;rfl)
   have MK:(Sum.inl i:cI)≠.inr m:=θ
   have UD:∀j k L g,c.tok j s≠.ch k (.dh L) g:=λj k L g δ=>by
    rcases h.bj.oX j s k _ g o Α δ (by rw[so j k _ g δ];simp) with e|⟨e,_⟩<;>cases e
   have UE:=h.ez.pV s o m Α fw vF UD
   have UF:Apart (c.H (.inr s)) (c.H (.inr m)):=h.hold.apart _ _ (Ne.symm rf)
   have UG:Apart (c.H (.inl i)) (c.H (.inr m)):=h.hold.apart _ _ MK
   have e3:bO (bO c.H (.inl i) (join (c.H (.inl i)) (c.H (.inr s)))) (.inr s) χ.empty (.inl i)=join (c.H (.inl i)) (c.H (.inr s)):=by rw[bP _ _ pX,dC]
   have eK:bO (bO c.H (.inl i) (join (c.H (.inl i)) (c.H (.inr s)))) (.inr s) χ.empty (.inr m)=c.H (.inr m):=by rw[bP _ _ rf,iH]
   have UH:=MI.two (a:=.inl i) (b:=.inr m) (A:=join (join (c.H (.inl i)) (c.H (.inr s))) (c.H (.inr m))) (B:=χ.empty) (O':=upd c.O s (some o)) θ (by rw[e3,eK];exact Sub.refl _) (Sub.empty _) (Apart.tK _) ⟨λs o' ν=>⟨o',ν,rfl⟩,λs o' ν=>⟨o',ν,rfl⟩⟩ λx γ=>by
    rcases γ with e|e
    ·cases e;exact⟨s,o,upd_same ..,hm⟩
    ·cases e
   have UI:=MJ.two (a:=.inl i) (b:=.inr m) (A:=join (join (c.H (.inl i)) (c.H (.inr s))) (c.H (.inr m))) (B:=χ.empty) (O':=upd c.O s (some o)) (zv (zv (h.mem.fit _) (h.mem.fit _)) (h.mem.fit _)) (vw w) mC;refine⟨_,c.H (.inr m),h.mem.fit _,λ_=>UE,λx=>(by cases x),UG,UF,?_,λj δ=>?_,λb7 dg=>?_,λb hb dF=>?_,UH,UI,λa=>?_⟩
   ·rw[bP _ _ MK,dC]
   ·have gb:(Sum.inl j:cI)≠.inl i:=λe=>δ (by cases e;rfl);rw[bP _ _ θ,bP _ _ gb,bP _ _ θ,bP _ _ gb]
   ·cases dg;rw[dC]
   ·have gb:(Sum.inr b:cI)≠.inr s:=λe=>hb (by cases e;rfl)
    have CK:(Sum.inr b:cI)≠.inr m:=λe=>dF (by cases e;rfl);rw[bP _ _ CK,iH,bP _ _ gb,iH]
   ·by_cases a0:a=.inr m
    ·subst a0;rw[dC];exact dk.empty
    ·rw[bP _ _ a0];by_cases Δ:a=.inl i
     ·subst Δ;rw[dC];refine xy.join ((h.bU.perms (.inr m)).nm rfl λk ς=>?_);rcases ς with⟨p,op,a1,bk,cz,gm⟩|ς
      ·obtain⟨oZ,c8⟩:=h.gq.jb s o m Α fw p op a1 bk;obtain⟨_,_,c3,c4⟩:=MH op.g oZ;have hb:=(c8 c3).app #[y];refine Knows.of_before ?_ c4;rcases hb with e|hb
       ·rw[<-e];exact gm.app _
       ·exact .inr ((gm.app #[y]).hb hb)
      ·exact(ς s o Α hm i (by rw[dI];simp)).app _
     ·rw[bP _ _ Δ];by_cases Γ:a=.inr s
      ·subst Γ;rw[dC];exact dk.empty
      ·rw[bP _ _ Γ,bP _ _ Δ];exact h.bU.xw a rfl cO nil
 have UJ:Apart (c.H (.inl i)) (c.H (.inr s)):=h.hold.apart _ _ θ
 have bc:=G1 o.ah o.L (c.H (.inr s)) eI MG Ux (λx=>⟨lR x,Uz x⟩) UA UJ UB UC ⟨w,h.mem.fit _,h.mem.fit _,Uy⟩
 let df:aX:={c.x i with G:=join (join (c.H (.inl i)) (c.H (.inr s))) eI,tok:=upd (c.tok i) s (.par n 0 .bB),view:=upd (c.view i) s none}
 let c':c9:={c with H:=bQ,tok:=b5 c.tok i s (.par n 0 .bB),view:=upd c.view i (upd (c.view i) s none),O:=upd c.O s (some o),T:=upd c.T i (f (i==0,g',df))}
 have n4:c'.x i=df:=by simp[c',df,c9.x,upd_same,vE,jL]
 have sk:∀j r,¬(j=i/\r=s)->b5 c.tok i s (.par n 0 .bB) j r=c.tok j r:=λj r e=>eY _ e
 have ML:∀r q b,c.O r=some q->r≠s->ep r q.toSpec b->b≠s/\o.aW≠some b:=λr q b Ψ κ hb=>⟨λe=>κ (h.hold.kU r s q o b Ψ Α hb (.inl e)),λe=>κ (h.hold.kU r s q o b Ψ Α hb (.inr e))⟩;refine h0.go (c':=c') Ρ ν ?_ _ rfl;rw[ofEvents_one];refine h.laid (c':=c') Ρ G8 G7 (h.bU.word (i:=i) rfl (.inl rfl) (h.low Α ht) cO (λ_ _ _ x=>x) G9) (h.bj.gtake Α dI my) ⟨λr q b7 Ψ dg bX hq=>?_,λr q Ψ bX=>?_⟩ ?_
  (h.gq.app h.bU.low (λop Ξ b hb=>by simp at Ξ;subst Ξ;cases hb) (λj b v hv=>.inl ⟨v,hv⟩) (λr q Ψ=>?_) (λj r ae mu g e=>zD dI (λk m g e=>?_) j r ae mu g e))
  ⟨g',?_,.inl rfl⟩ (λj δ=>⟨?_,upd_ne _ _ δ⟩) (.inr λj r q _ a b=>?_)
 ·rcases kF Α Ψ with⟨rfl,rfl⟩|⟨e,cb⟩
  ·exact absurd (fa ..) (bX i n 0)
  ·obtain⟨Δ,Γ⟩:=ML r q b7 cb e (.inr dg);show q.aN q.L (bQ (.inr b7));rw[kY b7 Δ Γ];exact h.ez.pV r q b7 cb dg (λj q p x=>bX j q p (by show b5 c.tok i s _ j r=_;rw[sk j r (λy=>e y.2)];exact x)) λj k L g x=>hq j k L g (by show b5 c.tok i s _ j r=_;rw[sk j r (λy=>e y.2)];exact x)
 ·rcases kF Α Ψ with⟨rfl,rfl⟩|⟨e,cb⟩
  ·exact absurd (fa ..) (bX i n 0)
  ·obtain⟨Δ,Γ⟩:=ML r q r cb e (.inl rfl);show lO q.D q.ah (bQ (.inr r));rw[kY r Δ Γ];exact h.ez.mB r q cb (λj q p x=>bX j q p (by show b5 c.tok i s _ j r=_;rw[sk j r (λy=>e y.2)];exact x))
 ·refine⟨λae g' hs=>?_,λj fH δ=>?_,λj fH δ bX=>?_,λj fH δ a b=>(h.ec.c3 j fH δ a b).app _⟩
  ·obtain⟨op,Ξ,hr⟩:=Option.map_eq_some_iff.1 hs;rcases getElem?_append_cases Ξ with⟨_,kX⟩|⟨_,gr⟩
   ·exact h.ec.er ae g' (by simp[Trace.g?,kX,hr])
   ·simp at gr;subst gr;rw[<-hr];exact bq
  ·obtain⟨op,a1,bk,cz,gm,hO⟩:=h.ec.c1 j fH δ;have ψ:=lt_size_of_getElem? a1;refine⟨op,by rw[getElem?_append_old ψ];exact a1,bk,cz,(heard_old ψ).2 gm,λae hs ε=>?_⟩;obtain⟨sm,Ξ,hr⟩:=Option.map_eq_some_iff.1 hs;rcases getElem?_append_cases Ξ with⟨re,kX⟩|⟨hle,gr⟩
   ·exact(hO ae (by simp[Trace.g?,kX,hr]) ((zx re).1 ε)).app _
   ·exact absurd ε (xu (u:=#[y]) (λop Ξ=>by simp at Ξ;subst Ξ;rfl) ae hle)
  ·obtain⟨q,p,Ψ⟩:=bX;by_cases e:c.bz (c.home j)=i/\c.home j=s
   ·obtain⟨Δ,Γ⟩:=e;show Knows _ (c.bz (c.home j)) (c.dx j);rw[Δ];have e0:j<gs.size:=by
     obtain⟨op,a1,bk,_⟩:=h.ec.c1 j fH δ;exact h.ec.er (c.dx j) j (by simp[Trace.g?,a1,bk])
    obtain⟨cJ,eB,af,ej⟩:=h.bj.sj j fH e0;rw[Γ] at ej;exact(MH j ⟨cJ,eB,af,ej⟩).2.2.2
   ·refine(h.ec.c2 j fH δ ⟨q,p,?_⟩).app _;have:b5 c.tok i s (.par n 0 .bB) (c.bz (c.home j)) (c.home j)=.par q p .bB:=Ψ
    rwa [sk _ _ e] at this
 ·rcases kF Α Ψ with⟨rfl,rfl⟩|⟨_,cb⟩
  ·exact⟨_,Α,rfl⟩
  ·exact⟨q,cb,rfl⟩
 ·cases e
 ·rw[n4];show jD P Q (upd c.T i (f (i==0,g',df)) i) _ _ _;rw[upd_same];exact bc
 ·simp[c',c9.x,upd_ne _ _ δ,sr _ δ,je j δ]
 ·exact⟨q,by show upd c.O s (some o) r=some q;rw[CE Α];exact a,b⟩
end
section
variable {n:Nat} {tok:Nat->Nat->Tok} {spec:Nat->Nat->Option Spec} {view:Nat->Nat->Option (Nat×aP)} {rel:Nat->Bool} {O:Nat->Option aP} {bz home:Nat->Nat} {s i:Nat} {o:aP}
theorem eQ.fork (h:eQ n tok spec view rel O bz home) (ν:O s=some o) {q p:Nat} (Ν:tok i s=.par q (p+1) .add) :
  eQ (n+1) (upd (b5 tok i s (.par q p .add)) n (upd (λ_=>.nil) s (.ch (q-(p+1)) .idle .work))) (upd spec n (upd (λ_=>none) s (some o.toSpec))) (upd (upd view i (upd (view i) s none)) n λ_=>none) (upd rel n false) O bz (upd home n s):=by
 have bq:i<n:=h.lt (s:=s) (by rw[Ν];simp)
 have kZ:n≠i:=R
 have rb:=h.par i s q (p+1) .add Ν
 have cl:=(h.bg s o ν).2
 have Ψ:p+1<=q:=by
  have Δ:a' n (λa=>tok a s) ib=q:=by
   rw[pR (φ:=ib) (λt Ν=>by cases t<;>simp_all [eV,ib]) cl.nY bq (by rw[Ν];rfl),Ν];rfl
  have Γ:a' n (λa=>tok a s) hn=p+1:=by
   rw[pR (φ:=hn) (λt Ν=>by cases t<;>simp_all [eV,hn]) cl.nY bq (by rw[Ν];rfl),Ν];rfl
  have:=cl.LO;omega
 generalize CL:upd (b5 tok i s (.par q p .add)) n (upd (λ_=>.nil) s (.ch (q-(p+1)) .idle .work))=eA;have zG:eA n s=.ch (q-(p+1)) .idle .work:=by rw[<-CL,upd_same,upd_same]
 have Ha:∀r,r≠s->eA n r=.nil:=λr κ=>by rw[<-CL,upd_same,upd_ne _ _ κ]
 have k0:eA i s=.par q p .add:=by rw[<-CL,upd_ne _ _ (Ne.symm kZ),fa]
 have to:∀j r,j≠n->¬(j=i/\r=s)->eA j r=tok j r:=λj r I U=>by rw[<-CL,upd_ne _ _ I,eY _ U]
 have pY:∀j r,r≠s->eA j r=tok j r:=λj r κ=>by
  by_cases e:j=n
  ·subst e;rw[Ha r κ,h.out _ r (Nat.le_refl _)]
  ·exact to j r e λx=>κ x.2
 have CM:(λj=>eA j s)=upd (upd (λj=>tok j s) i (.par q p .add)) n (.ch (q-(p+1)) .idle .work):=by
  funext j
  by_cases e:j=n
  ·subst e;rw[zG,upd_same]
  ·rw[upd_ne _ _ e];by_cases aM:j=i
   ·subst aM;rw[k0,upd_same]
   ·rw[upd_ne _ _ aM,to j s e λx=>aM x.1]
 have MM:∀r,r≠s->(λj=>eA j r)=λj=>tok j r:=λr κ=>funext λj=>pY j r κ
 have hc:∀r,(λj=>tok j r) n=.nil:=λr=>h.out n r (Nat.le_refl _)
 have ja:∀j r k m g,eA j r=.ch k m g->(j=n/\r=s/\k=q-(p+1)/\m=.idle/\g=.work)\/(j≠n/\¬(j=i/\r=s)/\tok j r=.ch k m g):=λj r k m g δ=>by
  by_cases e:j=n
  ·subst e;by_cases aM:r=s
   ·subst aM;rw[zG] at δ;cases δ;exact .inl ⟨rfl,rfl,rfl,rfl,rfl⟩
   ·rw[Ha r aM] at δ;cases δ
  ·by_cases aM:j=i/\r=s
   ·obtain⟨rfl,rfl⟩:=aM;rw[k0] at δ;cases δ
   ·rw[to j r e aM] at δ;exact .inr ⟨e,aM,δ⟩
 have Hb:∀j r m fb aJ,eA j r=.par m fb aJ->(j=i/\r=s/\m=q/\fb=p/\aJ=.add)\/(j≠n/\r≠s/\tok j r=.par m fb aJ)\/(j≠n/\j≠i/\r=s/\tok j r=.par m fb aJ):=λj r m fb aJ δ=>by
  by_cases e:j=n
  ·subst e;by_cases aM:r=s
   ·subst aM;rw[zG] at δ;cases δ
   ·rw[Ha r aM] at δ;cases δ
  ·by_cases aM:j=i/\r=s
   ·obtain⟨rfl,rfl⟩:=aM;rw[k0] at δ;cases δ;exact .inl ⟨rfl,rfl,rfl,rfl,rfl⟩
   ·rw[to j r e aM] at δ;by_cases Γ:r=s
    ·exact .inr (.inr ⟨e,λx=>aM ⟨x,Γ⟩,Γ,δ⟩)
    ·exact .inr (.inl ⟨e,Γ,δ⟩)
 have Hc:∀j r k m g,tok j r=.ch k m g->j≠n/\eA j r=.ch k m g:=λj r k m g δ=>by
  have e0:j≠n:=λe=>by rw[e,h.out n r (Nat.le_refl _)] at δ;cases δ
  refine⟨e0,?_⟩;rw[to j r e0 λe=>?_]
  ·exact δ
  ·obtain⟨rfl,rfl⟩:=e;rw[Ν] at δ;cases δ
 have jπ:eH (n+1) o (λj=>eA j s)<eH n o (λj=>tok j s):=by
  rw[CM,<-LW (N:=n) (τ:=λj=>tok j s) (hc s)];exact TM (N:=n+1) R R (Ne.symm kZ) Ν (hc s) _
 refine⟨λr jc κ=>?_,λr κ j=>?_,λj r δ=>?_,λj r sp δ=>?_,λj r φ dz δ=>?_,λj r k L g jc cb δ=>?_,λj r m fb aJ δ=>?_,λj r k m g δ=>?_,λj ai δ=>?_,λj k m g ai δ=>?_,?_,λj r δ κ=>?_,λj r k m g jc cb δ Ρ=>?_,λr j bK k m g b7 g' I U=>?_,λr j k m g jc fb aJ I U=>?_,λr jc κ=>?_,λr jc κ=>?_⟩
 ·by_cases e:r=s
  ·subst e;rw[ν] at κ;cases κ;rw[CM];exact TK (LV (h.bg r o ν) (hc r)) R R (Ne.symm kZ) Ν (hc r) _
  ·rw[MM r e];exact LV (h.bg r jc κ) (hc r)
 ·have e:r≠s:=λe=>by rw[e,ν] at κ;cases κ
  rw[pY j r e];exact h.bare r κ j
 ·rw[to j r R (λx=>R)];exact h.out j r R
 ·by_cases e:j=n
  ·subst e;rw[upd_same] at δ;by_cases aM:r=s
   ·subst aM;rw[upd_same] at δ;cases δ;exact⟨o,ν,rfl⟩
   ·rw[upd_ne _ _ aM] at δ;cases δ
  ·rw[upd_ne _ _ e] at δ;exact h.q3 j r sp δ
 ·have old:∀j r φ dz,view j r=some (φ,dz)->∃hZ,O r=some hZ/\eH (n+1) hZ (λa=>eA a r)<=φ/\(eH (n+1) hZ (λa=>eA a r)=φ->hZ=dz):=λj r φ dz hv=>by
   obtain⟨hZ,I,U,ξ⟩:=h.vq j r φ dz hv;refine⟨hZ,I,?_⟩;by_cases e:r=s
   ·subst e;rw[ν] at I;cases I;exact⟨R,λx=>R⟩
   ·rw[MM r e,LW (N:=n) (τ:=λj=>tok j r) (hc r)];exact⟨U,ξ⟩
  by_cases e:j=n
  ·subst e;rw[upd_same] at δ;cases δ
  ·rw[upd_ne _ _ e] at δ;by_cases aM:j=i
   ·subst aM;rw[upd_same] at δ;by_cases Γ:r=s
    ·subst Γ;rw[upd_same] at δ;cases δ
    ·rw[upd_ne _ _ Γ] at δ;exact old _ _ _ _ δ
   ·rw[upd_ne _ _ aM] at δ;exact old _ _ _ _ δ
 ·rcases ja j r k _ g δ with⟨_,_,_,Κ,_⟩|⟨_,_,ξ⟩
  ·cases Κ
  ·exact h.dh j r k L g jc cb ξ
 ·rcases Hb j r m fb aJ δ with⟨rfl,rfl,_⟩|⟨_,_,ξ⟩|⟨_,_,_,ξ⟩
  ·exact rb
  ·exact h.par j r m fb aJ ξ
  ·exact h.par j r m fb aJ ξ
 ·rcases ja j r k m g δ with⟨rfl,rfl,_⟩|⟨e0,_,ξ⟩
  ·exact⟨R,upd_same ..,R⟩
  ·obtain⟨a1,bk,cz⟩:=h.oV j r k m g ξ;exact⟨a1,by rw[upd_ne _ _ e0];exact bk,cz⟩
 ·by_cases e:j=n
  ·subst e;rw[upd_same];exact⟨_,_,_,zG⟩
  ·rw[upd_ne _ _ e];obtain⟨k,m,g,I⟩:=h.sj j ai R;exact⟨k,m,g,(Hc j _ k m g I).2⟩
 ·by_cases e:j=n
  ·subst e;rw[upd_same] at δ;rw[zG] at δ;cases δ;rw[upd_same];simp
  ·rw[upd_ne _ _ e] at δ;rw[upd_ne _ _ e];rcases ja j _ k m g δ with⟨x,_⟩|⟨_,_,ξ⟩
   ·exact absurd x e
   ·exact h.g8 j k m g ai ξ
 ·rw[upd_ne _ _ (show(0:Nat)≠n by omega)];exact h.tH
 ·by_cases e:j=n
  ·subst e;rw[upd_same] at δ;cases δ
  ·rw[upd_ne _ _ e] at δ κ;have:=h.oW j r δ κ;rw[to j r e λx=>?_]
   ·exact this
   ·obtain⟨rfl,rfl⟩:=x;rw[Ν] at this;exact this
 ·rcases ja j r k m g δ with⟨_,_,_,_,Κ⟩|⟨_,_,ξ⟩
  ·exact absurd Κ Ρ
  ·exact h.oX j r k m g jc cb ξ Ρ
 ·have key:∀j k m g,tok j s=.ch k m g->k<q-(p+1):=λj k m g δ=>by
   have:=h.tI s j k m g q (p+1) .add δ (by rw[<-rb];exact Ν);omega
  rcases ja j r k m g I with⟨rfl,rfl,cz,_⟩|⟨_,_,ξ⟩<;>rcases ja bK r k b7 g' U with⟨rfl,c8,fY,_⟩|⟨_,_,Κ⟩
  ·rfl
  ·have:=key bK k b7 g' Κ;omega
  ·subst c8;have:=key j k m g ξ;omega
  ·exact h.vr r j bK k m g b7 g' ξ Κ
 ·rcases ja j r k m g I with⟨_,rfl,cz,_⟩|⟨_,_,ξ⟩
  ·rcases Hb _ r jc fb aJ U with⟨_,_,rfl,rfl,_⟩|⟨_,x,_⟩|⟨_,x,_⟩
   ·omega
   ·exact absurd rfl x
   ·exact absurd rb.symm x
  ·rcases Hb _ r jc fb aJ U with⟨_,rfl,rfl,rfl,_⟩|⟨_,_,Κ⟩|⟨_,x,rfl,Κ⟩
   ·have:=h.tI r j k m g jc (fb+1) .add ξ (by rw[<-rb];exact Ν);omega
   ·exact h.tI r j k m g jc fb aJ ξ Κ
   ·exact absurd rb.symm x
 ·obtain⟨a,b⟩:=h.fG r jc κ;refine⟨a,λk=>(b k).trans ⟨λ⟨j,m,g,Δ,Γ⟩=>⟨j,m,g,(Hc j r k m g Δ).2,Γ⟩,λ⟨j,m,g,Δ,Γ⟩=>?_⟩⟩;rcases ja j r k m g Δ with⟨_,_,_,Κ,_⟩|⟨_,_,ξ⟩
  ·subst Κ;exact Γ.elim
  ·exact⟨j,m,g,ξ,Γ⟩
 ·obtain⟨a,b⟩:=h.gp r jc κ;refine⟨a,λk=>(b k).trans ⟨λ⟨j,m,g,Δ,Γ⟩=>⟨j,m,g,(Hc j r k m g Δ).2,Γ⟩,λ⟨j,m,g,Δ,Γ⟩=>?_⟩⟩;rcases ja j r k m g Δ with⟨_,_,_,_,Κ⟩|⟨_,_,ξ⟩
  ·exact absurd Κ Γ
  ·exact⟨j,m,g,ξ,Γ⟩
def aP.new (sp:Spec):aP:={toSpec:=sp,ck:=0,wk:=0,sv:=0,nw:=0,c7:=0,L:=[],cnt:=0,wt:=0,cL:=0,ah:=[]}
theorem UK (N:Nat) (φ:Tok->Nat) (ey:φ .nil=0):a' N (λ_=>.nil) φ=0:=by
 induction N with
 | zero=>rfl
 | succ N Β=>rw[vm,Β,ey]
theorem eQ.UL (h:eQ n tok spec view rel O bz home) (ν:O s=none) (bq:i<n) (κ:rel i=false) (sp:Spec) :
  eQ n (b5 tok i s (.par 0 0 .add)) (upd spec i (upd (spec i) s (some sp))) (upd view i (upd (view i) s none)) rel (upd O s (some (aP.new sp))) (upd bz s i) home:=by
 have hb:=h.bare s ν
 have aY:∀j,j≠0->j<n->home j≠s:=λj ai δ e=>by
  obtain⟨k,m,g,I⟩:=h.sj j ai δ;rw[e,hb j] at I;cases I
 have CM:(λj=>b5 tok i s (.par 0 0 .add) j s)=upd (λ_=>.nil) i (.par 0 0 .add):=by
  rw[Mc];have:(λj=>tok j s)=λ_=>.nil:=funext hb;rw[this]
 have pY:∀j r,r≠s->b5 tok i s (.par 0 0 .add) j r=tok j r:=λj r κ=>eY _ λx=>κ x.2
 have ja:∀j r k m g,b5 tok i s (.par 0 0 .add) j r=.ch k m g↔tok j r=.ch k m g:=λj r k m g=>by
  by_cases e:j=i/\r=s
  ·obtain⟨rfl,rfl⟩:=e;rw[fa,hb];simp
  ·rw[eY _ e]
 have xz:∀j k m g,tok j s≠.ch k m g:=λj k m g e=>by rw[hb] at e;cases e
 have g9:∀r q,upd O s (some (aP.new sp)) r=some q->(r=s/\q=aP.new sp)\/(r≠s/\O r=some q):=λr q Ψ=>by
  by_cases e:r=s
  ·subst e;rw[upd_same] at Ψ;cases Ψ;exact .inl ⟨rfl,rfl⟩
  ·rw[upd_ne _ _ e] at Ψ;exact .inr ⟨e,Ψ⟩
 have one:∀φ:Tok->Nat,φ .nil=0->a' n (upd (λ_=>.nil) i (.par 0 0 .add)) φ=φ (.par 0 0 .add):=λφ ey=>by
  have e:=gA (N:=n) (λ_=>.nil) (.par 0 0 .add) φ bq;rw[UK n φ ey] at e;simp only[ey] at e;omega
 refine⟨λr q Ψ=>?_,λr κ j=>?_,λj r δ=>?_,λj r MN δ=>?_,λj r φ dz δ=>?_,λj r k L g q Ψ δ=>?_,λj r m p aJ δ=>?_,λj r k m g δ=>?_,λj ai δ=>?_,λj k m g ai δ=>?_,h.tH,λj r δ fp=>?_,λj r k m g q Ψ δ Ρ=>?_,λr j bK k m g b7 g' I U=>?_,λr j k m g q p aJ I U=>?_,λr q κ=>?_,λr q κ=>?_⟩
 ·rcases g9 r q Ψ with⟨rfl,rfl⟩|⟨e,cb⟩
  ·rw[CM];constructor
   ·unfold pP;rw[one ia rfl,one nW rfl,one mo rfl,one lI rfl,one ng rfl,one lJ rfl,one qY rfl,one nX rfl,one qX rfl];constructor<;>simp[aP.new,ia,nW,mo,lI,ng,lJ,qY,nX,qX]
   ·unfold oL;rw[one i' rfl,one j3 rfl,one j4 rfl,one lK rfl,one eV rfl,one hn rfl,one ib rfl,one mq rfl,one lL rfl,one ic rfl];constructor<;>simp[aP.new,i',j3,j4,lK,eV,hn,ib,mq,lL,ic]
  ·rw[GK _ _ _ _ e];exact h.bg r q cb
 ·have e:r≠s:=λe=>by rw[e,upd_same] at κ;cases κ
  rw[upd_ne _ _ e] at κ;rw[pY j r e];exact h.bare r κ j
 ·rw[eY _ (λx=>R)];exact h.out j r δ
 ·by_cases e:j=i
  ·subst e;rw[upd_same] at δ;by_cases aM:r=s
   ·subst aM;rw[upd_same] at δ;cases δ;exact⟨_,upd_same ..,rfl⟩
   ·rw[upd_ne _ _ aM] at δ;obtain⟨q,a,b⟩:=h.q3 j r MN δ;exact⟨q,by rw[upd_ne _ _ aM];exact a,b⟩
  ·rw[upd_ne _ _ e] at δ;obtain⟨q,a,b⟩:=h.q3 j r MN δ;have aM:r≠s:=λaM=>by rw[aM,ν] at a;cases a
   exact⟨q,by rw[upd_ne _ _ aM];exact a,b⟩
 ·have old:∀j r φ dz,view j r=some (φ,dz)->∃hZ,upd O s (some (aP.new sp)) r=some hZ/\eH n hZ (λa=>b5 tok i s (.par 0 0 .add) a r)<=φ/\(eH n hZ (λa=>b5 tok i s (.par 0 0 .add) a r)=φ->hZ=dz):=λj r φ dz hv=>by
   obtain⟨hZ,a,b⟩:=h.vq j r φ dz hv;have aM:r≠s:=λaM=>by rw[aM,ν] at a;cases a
   exact⟨hZ,by rw[upd_ne _ _ aM];exact a,by rw[GK _ _ _ _ aM];exact b⟩
  by_cases e:j=i
  ·subst e;rw[upd_same] at δ;by_cases aM:r=s
   ·subst aM;rw[upd_same] at δ;cases δ
   ·rw[upd_ne _ _ aM] at δ;exact old _ _ _ _ δ
  ·rw[upd_ne _ _ e] at δ;exact old _ _ _ _ δ
 ·rw[ja] at δ;rcases g9 r q Ψ with⟨rfl,rfl⟩|⟨e,cb⟩
  ·exact absurd δ (xz _ _ _ _)
  ·exact h.dh j r k L g q cb δ
 ·by_cases e:j=i/\r=s
  ·obtain⟨rfl,rfl⟩:=e;rw[upd_same]
  ·rw[eY _ e] at δ;have aM:r≠s:=λaM=>by rw[aM,hb] at δ;cases δ
   rw[upd_ne _ _ aM];exact h.par j r m p aJ δ
 ·rw[ja] at δ;have aM:r≠s:=λaM=>by rw[aM] at δ;exact xz _ _ _ _ δ
  rw[upd_ne _ _ aM];exact h.oV j r k m g δ
 ·obtain⟨k,m,g,I⟩:=h.sj j ai δ;exact⟨k,m,g,(ja _ _ _ _ _).2 I⟩
 ·rw[ja] at δ;exact h.g8 j k m g ai δ
 ·have e:j≠i:=λe=>by rw[e,κ] at δ;cases δ
  rw[sr _ e];exact h.oW j r δ fp
 ·rw[ja] at δ;rcases g9 r q Ψ with⟨rfl,rfl⟩|⟨e,cb⟩
  ·exact absurd δ (xz _ _ _ _)
  ·exact h.oX j r k m g q cb δ Ρ
 ·rw[ja] at I U;exact h.vr r j bK k m g b7 g' I U
 ·rw[ja] at I;have aM:r≠s:=λaM=>by rw[aM] at I;exact xz _ _ _ _ I
  rw[upd_ne _ _ aM,pY _ _ aM] at U;exact h.tI r j k m g q p aJ I U
 ·simp only[ja];rcases g9 r q κ with⟨rfl,rfl⟩|⟨e,cb⟩
  ·exact⟨List.nodup_nil,λk=>⟨λx=>(by cases x),λ⟨j,m,g,x,_⟩=>absurd x (xz _ _ _ _)⟩⟩
  ·exact h.fG r q cb
 ·simp only[ja];rcases g9 r q κ with⟨rfl,rfl⟩|⟨e,cb⟩
  ·exact⟨List.nodup_nil,λk=>⟨λx=>(by cases x),λ⟨j,m,g,x,_⟩=>absurd x (xz _ _ _ _)⟩⟩
  ·exact h.gp r q cb
end
theorem UM (t:Trace) (u:Trace) {k:Nat} (hu:∀op∈u,op.g≠k):Deaf (t++u) k=Deaf t k:=by
 obtain⟨l⟩:=u;rw[Deaf_append]
 induction l generalizing t with
 | nil=>rfl
 | cons y l Β=>
  have Ο:y.g≠k:=hu y θ
  have Δ:deafStep k (Deaf t k) y=Deaf t k:=by
   unfold deafStep;split<;>simp[Ο]
  rw[List.foldl_cons,Δ];exact Β t (λop Ξ=>hu op (by simp at Ξ ⊢;exact .inr Ξ))
theorem UN {said:Bool} {t:Trace} {y z:MemOp} (h:¬Race said t) (nt:∀op∈(#[y,z]:Trace),op.act.touch?=none):¬Race said (t++#[y,z]):=by
 have e:t++#[y,z]=(t++#[y])++#[z]:=by rw[Array.append_assoc];rfl
 rw[e];refine noRace_append (g:=z.g) (noRace_append (g:=y.g) h (λop Ξ=>by simp at Ξ;rw[Ξ]) λk a _ op Ξ b hb _=>?_) (λop Ξ=>by simp at Ξ;rw[Ξ]) λk a _ op Ξ b hb _=>?_
 ·simp at Ξ;subst Ξ;rw[nt op θ] at hb;cases hb
 ·simp at Ξ;subst Ξ;rw[nt op θ] at hb;cases hb
section
variable {P:Program} {Q:Value->Prop} {bs:World} {c c':c9} {gs:Array Goroutine} {w w':World} {t:Trace} {i:Nat} {g g':Goroutine} {es:Array Event}
variable {f:Bool×Goroutine×aX->gn (Bool×Goroutine×aX)}
theorem Inv.Hd (h:Inv P Q bs c gs w t) (Ρ:gs[i]?=some g) (ς:L5 P (i==0) (lQ P Q f) g (c.x i)):h0 P Q bs c gs w t i f:=by
 obtain⟨s,sp,n,p,g',ch,ni,nj,I,ξ,Κ,aE,tE,bd,cH,mG,bc,UO⟩:=ς;have bq:i<gs.size:=mF Ρ;obtain⟨o,Α,b2⟩:=h.bj.q3 i s sp I;subst b2;have dI:c.tok i s=.par n (p+1) .add:=ξ;have hd:c.deaf i=0:=Κ;have eh:c.rel i=false:=bd;have ν:=cH w (h.mem.fit (.inl i));have kZ:gs.size≠i:=R;let N:=gs.size;let y:MemOp:={g:=i,fn:=g.frame.fn,pos:=g.frame.place,act:=.go gs.size};let z:MemOp:={g:=gs.size,fn:=ch.frame.fn,pos:=g.frame.place,act:=.start};have vH:Deaf t i=0:=by rw[h.bU.hears];exact hd
 have k2:Deaf t gs.size=0:=by
  have:=UM #[] t (k:=gs.size) (λop Ξ e=>by
   obtain⟨k,ς⟩:=Array.mem_iff_getElem?.1 Ξ;have:=h.ec.er k op.g (by simp[Trace.g?,ς]);omega)
  rw[Array.empty_append] at this;exact this
 let CN:aX:={c.x i with G:=ni,tok:=upd (c.tok i) s (.par n p .add),view:=upd (c.view i) s none}
 let CO:aX:=⟨nj,λ_=>none,upd (λ_=>.nil) s (.ch (n-(p+1)) .idle .work),upd (λ_=>none) s (some o.toSpec),λ_=>none,0,false⟩
 let eA:=upd (b5 c.tok i s (.par n p .add)) gs.size (upd (λ_=>.nil) s (.ch (n-(p+1)) .idle .work))
 let c':c9:={c with H:=bO (bO c.H (.inl i) ni) (.inl gs.size) nj,aK:=upd c.aK gs.size (λ_=>none),tok:=eA,spec:=upd c.spec gs.size (upd (λ_=>none) s (some o.toSpec)),view:=upd (upd c.view i (upd (c.view i) s none)) gs.size λ_=>none,deaf:=upd c.deaf gs.size 0,rel:=upd c.rel gs.size false,home:=upd c.home gs.size s,T:=upd (upd c.T i (f (i==0,g',CN))) gs.size (f (false,ch,CO))}
 have UP:=h.bj.fork Α dI
 have dR:=runT_crowd_spawn (sl:=none) Ρ ν
 have UQ:((MemOp.ofEvents i g.frame.fn g.frame.place #[]).push {g:=i,fn:=g.frame.fn,pos:=g.frame.place,act:=.go gs.size} |>.push {g:=gs.size,fn:=ch.frame.fn,pos:=g.frame.place,act:=.start})=#[y,z]:=by rw[Ms];rfl
 have MO:(Sum.inl i:cI)≠.inl gs.size:=λe=>kZ (by cases e;rfl)
 have UR:∀r,eA gs.size r≠.nil->r=s:=λr κ=>by
  apply Classical.byContradiction;intro e;apply κ;show upd (b5 c.tok i s (.par n p .add)) gs.size (upd (λ_=>.nil) s (.ch (n-(p+1)) .idle .work)) gs.size r=.nil;rw[upd_same,upd_ne _ _ e]
 have CP:∀j,j≠gs.size->eA j=b5 c.tok i s (.par n p .add) j:=λj δ=>upd_ne _ _ δ
 have US:∀j r,j≠gs.size->eA j r≠.nil->c.tok j r≠.nil:=λj r δ κ=>by
  rw[CP j δ] at κ;exact zC dI θ j r κ
 have tR:∀j r q fb,eA j r=.par q fb .bB↔c.tok j r=.par q fb .bB:=λj r q fb=>by
  by_cases e:j=gs.size
  ·subst e;rw[h.bj.out gs.size r (Nat.le_refl _)];show upd (b5 c.tok i s (.par n p .add)) gs.size (upd (λ_=>.nil) s (.ch (n-(p+1)) .idle .work)) gs.size r=_↔_;rw[upd_same];by_cases aM:r=s
   ·subst aM;rw[upd_same];simp
   ·rw[upd_ne _ _ aM]
  ·rw[CP j e];exact CH dI θ θ j r q fb
 have GX:∀j r k L g,c.tok j r=.ch k (.dh L) g->eA j r=.ch k (.dh L) g:=λj r k L g δ=>by
  have e:j≠gs.size:=λe=>by rw[e,h.bj.out _ r (Nat.le_refl _)] at δ;cases δ
  rw[CP j e,eY _ λx=>?_]
  ·exact δ
  ·obtain⟨rfl,rfl⟩:=x;rw[dI] at δ;cases δ
 have e2:∀j,j≠gs.size->c'.rel j=c.rel j:=λj δ=>upd_ne _ _ δ
 have CQ:∀j,c'.rel j=true->j≠gs.size:=λj δ e=>by
  subst e;have:upd c.rel gs.size false gs.size=true:=δ;rw[upd_same] at this;cases this
 have fR:∀j b v,upd c.aK gs.size (λ_=>none) j b=some v->c.aK j b=some v:=λj b v hv=>by
  by_cases e:j=gs.size
  ·subst e;rw[upd_same] at hv;cases hv
  ·rw[upd_ne _ _ e] at hv;exact hv
 have nt:∀op∈(#[y,z]:Trace),op.act.touch?=none:=λop Ξ=>by simp at Ξ;rcases Ξ with rfl|rfl<;>rfl
 have nn:∀op∈(#[y,z]:Trace),∀m,op.act≠.mark m:=λop Ξ m=>by simp at Ξ;rcases Ξ with rfl|rfl<;>simp[y,z]
 have MP:∀k,Knows t i k->Knows (t++#[y,z]) gs.size k:=λk ς=>Knows.spawn ς rfl rfl rfl rfl vH k2
 have UT:∀a k,jE c.tok c.O t a k->jE eA c.O (t++#[y,z]) a k:=λa k ς=>by
  cases a with
  | inl j=>exact Knows.app _ ς
  | inr b=>
   rcases ς with⟨p,op,I,U,ξ,Κ⟩|ς
   ·have ψ:=lt_size_of_getElem? I;exact .inl ⟨p,op,by rw[getElem?_append_old ψ];exact I,U,(heard_old ψ).2 ξ,Κ.app _⟩
   ·refine .inr λbp o' iY hb j δ=>?_;by_cases e:j=gs.size
    ·subst e;have:=UR bp δ;subst this;exact MP k (ς _ o' iY hb i (by rw[dI];simp))
    ·exact(ς bp o' iY hb j (US j bp e δ)).app _
 have MQ:∀a,dk (t++#[y,z]) (jE eA c.O (t++#[y,z]) a) (c.H a):=λa=>
  (h.bU.perms a).others (UT a) λop Ξ x γ=>by rw[nt op Ξ] at γ;cases γ
 have hinv:Inv P Q bs c' ((gs.setIfInBounds i g').push ch) w (t++#[y,z]):=by
  have cv:((gs.setIfInBounds i g').push ch).size=gs.size+1:=θ;refine⟨by rw[cv];omega,(h.mem.two (mG.l.fits (h.mem.fit (.inl i))) (mG.r.fits (h.mem.fit (.inl i))) h.mem.fQ).xx fR,(h.hold.two MO mG.l.q4 mG.r.q4 mG.apart ⟨λs o ν=>⟨o,ν,rfl⟩,λs o ν=>⟨o,ν,rfl⟩⟩ λx γ=>by rcases γ with e|e<;>cases e).xx fR,?_,by rw[cv];exact UP,?_,?_,?_,?_⟩
  ·refine⟨λsaid=>UN (h.bU.race said) nt,λop Ξ=>?_,λop Ξ a=>?_,λa=>?_,λj b v hv k a ς=>?_,λbp o' b iY hb k a ς fj=>?_,λj=>?_⟩
   ·rcases Array.mem_append.1 Ξ with Ξ|Ξ
    ·exact h.bU.low op Ξ
    ·simp at Ξ;rcases Ξ with rfl|rfl<;>trivial
   ·rcases Array.mem_append.1 Ξ with Ξ|Ξ
    ·exact h.bU.norel op Ξ a
    ·exact nn op Ξ _
   ·show dk _ _ (bO (bO c.H (.inl i) ni) (.inl gs.size) nj a);by_cases Γ:a=.inl gs.size
    ·subst Γ;rw[dC];exact(((h.bU.perms (.inl i)).others MP λop Ξ x γ=>by rw[nt op Ξ] at γ;cases γ):dk _ (Knows _ gs.size) _).sub mG.r
    ·rw[bP _ _ Γ];by_cases Δ:a=.inl i
     ·subst Δ;rw[dC];exact(MQ (.inl i)).sub mG.l
     ·rw[bP _ _ Δ];exact MQ a
   ·have:=fR j b v hv;rcases nf ς with hs|⟨_,op,Ξ,_,γ⟩
    ·exact h.bU.oR j b v this k a hs
    ·rw[nt op Ξ] at γ;cases γ
   ·rcases nf ς with hs|⟨_,op,Ξ,_,γ⟩
    ·rcases h.bU.cont bp o' b iY hb k a hs fj with x|⟨x,df⟩
     ·exact .inl x
     ·obtain⟨op,jI,_⟩:=touch_of hs;exact .inr ⟨x,by rw[g?_old (lt_size_of_getElem? jI)];exact df⟩
    ·rw[nt op Ξ] at γ;cases γ
   ·have Δ:Deaf (t++#[y,z]) j=Deaf t j:=by
     have e:t++#[y,z]=(t++#[y])++#[z]:=by rw[Array.append_assoc];rfl
     rw[e,Deaf_push,Deaf_push];simp[deafStep,y,z]
    rw[Δ];by_cases e:j=gs.size
    ·subst e;rw[k2];exact(upd_same ..).symm
    ·rw[h.bU.hears];exact(upd_ne _ _ e).symm
  ·have iJ:∀b,bO (bO c.H (.inl i) ni) (.inl gs.size) nj (.inr b)=c.H (.inr b):=λb=>by rw[iH,iH]
   refine⟨λr q m Ψ hm bX hq=>?_,λr q Ψ bX=>?_⟩
   ·show q.aN q.L (bO (bO c.H (.inl i) ni) (.inl gs.size) nj (.inr m));rw[iJ];exact h.ez.pV r q m Ψ hm (λj q p x=>bX j q p ((tR j r q p).2 x)) λj k L g x=>hq j k L g (GX _ _ _ _ _ x)
   ·show lO q.D q.ah (bO (bO c.H (.inl i) ni) (.inl gs.size) nj (.inr r));rw[iJ];exact h.ez.mB r q Ψ (λj q p x=>bX j q p ((tR j r q p).2 x))
  ·rw[cv];refine⟨λk a ς=>?_,λj fH δ=>?_,λj fH δ bX=>?_,λj fH δ a b=>?_⟩
   ·obtain⟨op,Ξ,hr⟩:=Option.map_eq_some_iff.1 ς;rcases getElem?_append_cases Ξ with⟨_,kX⟩|⟨_,gr⟩
    ·have:=h.ec.er k a (by simp[Trace.g?,kX,hr]);omega
    ·simp at gr;rcases gr with rfl|rfl
     ·rw[<-hr];show i<gs.size+1;omega
     ·rw[<-hr];show gs.size<gs.size+1;omega
   ·have e0:=CQ j δ;rw[e2 j e0] at δ;obtain⟨op,a1,bk,cz,gm,hO⟩:=h.ec.c1 j fH δ;have ψ:=lt_size_of_getElem? a1;refine⟨op,?_,bk,?_,(heard_old ψ).2 gm,λae hs ε=>?_⟩
    ·show(t++#[y,z])[c.dx j]?=some op;rw[getElem?_append_old ψ];exact a1
    ·show op.act=.mark (.releaseMerge ⟨upd c.home gs.size s j,0,none⟩);rw[upd_ne _ _ e0];exact cz
    ·obtain⟨sm,Ξ,hr⟩:=Option.map_eq_some_iff.1 hs;rcases getElem?_append_cases Ξ with⟨re,kX⟩|⟨hle,gr⟩
     ·exact(hO ae (by simp[Trace.g?,kX,hr]) ((zx re).1 ε)).app _
     ·exact absurd ε (xu nt ae hle)
   ·have e0:=CQ j δ;rw[e2 j e0] at δ;obtain⟨q,fb,Ψ⟩:=bX;have zH:c'.home j=c.home j:=upd_ne _ _ e0;rw[zH] at Ψ ⊢;exact(h.ec.c2 j fH δ ⟨q,fb,(tR _ _ _ _).1 Ψ⟩).app _
   ·have e0:=CQ j δ;rw[e2 j e0] at δ;have zH:c'.home j=c.home j:=upd_ne _ _ e0;rw[zH] at a b ⊢;have UU:=CQ _ b;rw[e2 _ UU] at b;exact(h.ec.c3 j fH δ a b).app _
  ·refine⟨λr q b7 Ψ dg p op ψ μ=>?_,λj b v hv op Ξ μ=>?_⟩
   ·rcases getElem?_append_cases ψ with⟨re,gf⟩|⟨_,gr⟩
    ·obtain⟨⟨ae,G5,g,ξ⟩,Κ⟩:=h.gq.jb r q b7 Ψ dg p op gf μ;have e0:op.g≠gs.size:=λe=>by rw[e,h.bj.out _ r (Nat.le_refl _)] at ξ;cases ξ
     refine⟨?_,λκ=>?_⟩
     ·rw[show c'.tok op.g=b5 c.tok i s (.par n _ .add) op.g from CP _ e0];exact zD dI (λ_ _ _ e=>by cases e) _ _ _ _ _ ξ
     ·rw[e2 _ e0] at κ;exact(Κ κ).app _
    ·exact absurd μ (nn op gr _)
   ·rcases Array.mem_append.1 Ξ with Ξ|Ξ
    ·exact h.gq.vA j b v (fR j b v hv) op Ξ μ
    ·exact nn op Ξ _ μ
  ·intro j b hb;by_cases e:j=gs.size
   ·subst e;rw[Array.getElem?_push] at hb;simp at hb;subst hb;refine⟨ch,?_,.inl rfl⟩;have γ:c'.x gs.size=CO:=by simp[c',CO,eA,c9.x,upd_same]
    have Ι:c'.T gs.size=f (false,ch,CO):=upd_same ..
    have hm:(gs.size==0)=false:=by rw[beq_eq_false_iff_ne];exact Nat.ne_of_gt h.pos
    rw[γ,Ι,hm];exact UO
   ·have dF:(gs.setIfInBounds i g')[j]?=some b:=by
     rw[Array.getElem?_push] at hb;simpa[e] using hb
    by_cases Δ:j=i
    ·subst Δ;rw[Array.getElem?_setIfInBounds_self_of_lt bq] at dF;cases dF;refine⟨g',?_,.inl rfl⟩;have γ:c'.x j=CN:=by simp[c',CN,eA,c9.x,upd_same,upd_ne _ _ e,vE,bP _ _ MO]
     have Ι:c'.T j=f (j==0,g',CN):=by show upd (upd c.T j _) gs.size _ j=_;rw[upd_ne _ _ e,upd_same]
     rw[γ,Ι];exact bc
    ·rw[Array.getElem?_setIfInBounds_ne (Ne.symm Δ)] at dF;obtain⟨cV,GM,jM⟩:=h.vB j b dF;have hP:(Sum.inl j:cI)≠.inl gs.size:=λx=>e (by cases x;rfl);have gb:(Sum.inl j:cI)≠.inl i:=λx=>Δ (by cases x;rfl);have γ:c'.x j=c.x j:=by simp[c',eA,c9.x,upd_ne _ _ e,upd_ne _ _ Δ,sr _ Δ,bP _ _ hP,bP _ _ gb]
     have Ι:c'.T j=c.T j:=by show upd (upd c.T i _) gs.size _ j=_;rw[upd_ne _ _ e,upd_ne _ _ Δ]
     have Ν:c'.tok j=c.tok j:=congrArg aX.tok γ;refine⟨cV,by rw[γ,Ι];exact GM,?_⟩;rw[Ν];exact jM
 refine λsl=>⟨c',_,w,_,runT_crowd_spawn Ρ ν,?_,.inr (.inl ⟨θ,_,_,rfl⟩)⟩;rw[UQ];exact hinv
end
end Go.TL
