import Derived.Test.YtlabjopijpkiaaaGreatDAD
set_option maxHeartbeats 16000000
set_option maxRecDepth 20000
set_option linter.unusedSectionVars false
set_option linter.unusedSimpArgs false
set_option linter.unusedVariables false
namespace Go.TL
open Go.Conc
open Go.ConcM (OsLater)
open Go.ConcN (sumTo upd sumTo_upd upd_ne upd_same sumTo_congr le_sumTo)
theorem KW:∀(q:Nat) (l:List Nat),l.Nodup->(∀x∈l,x<q)->l.length<=q:=by
 intro q
 induction q with
 | zero=>intro l _ h;cases l with
  | nil=>simp
  | cons a l=>exact absurd (h a η) γ
 | succ q ω=>
  intro l Ε h;have:=ω (l.erase q) (Ε.erase q) (λx U=>by
   have I:=(Ε.mem_erase_iff).1 U
   have:=h x I.2
   have:=I.1;omega)
  by_cases Χ:q∈l
  ·have:=List.length_erase_of_mem Χ;omega
  ·rw[List.erase_of_not_mem Χ] at this;omega
theorem RP (l:List Nat) (q:Nat) (Ε:l.Nodup) (h:∀x∈l,x<q) (υ:l.length=q):∀k,k<q->k∈l:=λk ψ=>by
 apply Classical.byContradiction;intro gI;have:=KW q (k::l) (List.nodup_cons.2 ⟨gI,Ε⟩) (λx U=>by
  rcases List.mem_cons.1 U with rfl|U
  ·exact ψ
  ·exact h x U)
 simp at this;omega
section
variable {n:Nat} {tok:Nat->Nat->Tok} {spec:Nat->Nat->Option Spec} {view:Nat->Nat->Option (Nat×aN)} {rel:Nat->Bool} {O:Nat->Option aN} {bx home:Nat->Nat} {s i:Nat} {o:aN}
theorem eR.fin (h:eR n tok spec view rel O bx home) (μ:O s=some o) {j q p:Nat} {aF:rF} (Ν:tok j s=.par q p aF) (he:h7 (.par q p aF)=1):p=0/\o.cnt=0/\∀a k m g,tok a s=.ch k m g->g=.gone:=by
 have δ:j<n:=h.lt (s:=s) (by rw[Ν];simp)
 have Ε:=(h.fS s o μ).2
 have ta:a8 n (λa=>tok a s) h7=1:=by
  rw[pn (φ:=h7) (λt Ν=>by cases t<;>simp_all [eT,h7]) Ε.np δ (by rw[Ν];rfl),Ν,he]
 have eΦ:a8 n (λa=>tok a s) hf=p:=by
  rw[pn (φ:=hf) (λt Ν=>by cases t<;>simp_all [eT,hf]) Ε.np δ (by rw[Ν];rfl),Ν];rfl
 obtain⟨f1,f2,f3,f4,f5,f6⟩:=Ε.Ka ta;refine⟨γ,f4,λa k m g κ=>?_⟩;have FA:a<n:=h.lt (s:=s) (by rw[κ];simp);have BG:=Ε.E1;have l1:=fq (λa=>tok a s) iM FA;have l2:=fq (λa=>tok a s) jX FA;have og:=fq (λa=>tok a s) jY FA;simp only[κ,iM,jX,jY] at l1 l2 og;cases g with
 | gone=>rfl
 | work=>simp only[rG] at l1;omega
 | rel=>simp only[rG] at l1;omega
 | l2=>simp only[uq] at l2;omega
 | hz=>simp only[uu] at og;omega
theorem eR.KX (h:eR n tok spec view rel O bx home) (μ:O s=some o) {k:Nat} {m:lh} {g:sU} (Ν:tok i s=.ch k m g) (Ο:g≠.gone):∀j q p,tok j s≠.par q p .cq:=λj q p δ=>
 Ο ((h.fin μ δ rfl).2.2 i k m g Ν)
theorem eR.only (h:eR n tok spec view rel O bx home) (μ:O s=some o) (Ν:h5 (tok i s)=1):∀j k L g,tok j s=.ch k (.dj L) g->j=i:=λj k L g δ=>by
 apply Classical.byContradiction;intro bC;have a4:i<n:=h.lt (s:=s) (by intro e;rw[e] at Ν;cases Ν);have fg:j<n:=h.lt (s:=s) (by rw[δ];simp);have Γ:=gr (λa=>tok a s) .nil h5 a4;have Θ:=fq (upd (λa=>tok a s) i .nil) h5 fg;rw[upd_ne _ _ bC] at Θ;have uQ:h5 .nil=0:=rfl;have pq:h5 (tok j s)=1:=by rw[δ];rfl
 simp only[Ν,uQ] at Γ;simp only[pq] at Θ;have:=(h.fS s o μ).1.J9;have:=(h.fS s o μ).1.f1;omega
def qJ (tok:Nat->Nat->Tok) (s:Nat):Nat->List Nat
 | 0=>[]
 | n+1=>match tok n s with
  | .ch k _ _=>k::qJ tok s n
  | _=>qJ tok s n
theorem yS (tok:Nat->Nat->Tok) (s:Nat):∀n k,k∈qJ tok s n↔∃j m g,j<n/\tok j s=.ch k m g
 | 0,k=>by simp[qJ]
 | n+1,k=>by
  have ω:=yS tok s n k
  have old:(∃j m g,j<n/\tok j s=.ch k m g)->∃j m g,j<n+1/\tok j s=.ch k m g:=λ⟨j,m,g,I,R⟩=>⟨j,m,g,γ,R⟩
  have split:(∃j m g,j<n+1/\tok j s=.ch k m g)->(∃j m g,j<n/\tok j s=.ch k m g)\/∃m g,tok n s=.ch k m g:=λ⟨j,m,g,I,R⟩=>by
   by_cases e:j=n
   ·subst e;exact .inr ⟨m,g,R⟩
   ·exact .inl ⟨j,m,g,γ,R⟩
  unfold qJ;cases U:tok n s with
  | nil=>exact ω.trans ⟨old,λh=>(split h).elim id λ⟨m,g,e⟩=>by rw[U] at e;cases e⟩
  | par=>exact ω.trans ⟨old,λh=>(split h).elim id λ⟨m,g,e⟩=>by rw[U] at e;cases e⟩
  | ch af b1 g'=>
   rw[List.mem_cons,ω];constructor
   ·rintro(rfl|h)
    ·exact⟨n,b1,g',γ,U⟩
    ·exact old h
   ·intro h;rcases split h with h|⟨m,g,e⟩
    ·exact .inr h
    ·rw[U] at e;cases e;exact .inl rfl
theorem KY (tok:Nat->Nat->Tok) (s:Nat):∀n,(qJ tok s n).length=a8 n (λa=>tok a s) ll
 | 0=>rfl
 | n+1=>by
  have ω:=KY tok s n;rw[uB];unfold qJ;cases U:tok n s<;>simp[ll,ω]
theorem KZ (υ:∀j bI k m g b1 g',tok j s=.ch k m g->tok bI s=.ch k b1 g'->j=bI):∀n,(qJ tok s n).Nodup
 | 0=>List.nodup_nil
 | n+1=>by
  have ω:=KZ υ n;unfold qJ;cases U:tok n s with
  | nil=>exact ω
  | par=>exact ω
  | ch k m g=>
   refine List.nodup_cons.2 ⟨λh=>?_,ω⟩;obtain⟨j,b1,g',I,R⟩:=(yS tok s n k).1 h;have:=υ j n k b1 g' m g R U;omega
theorem eR.full (h:eR n tok spec view rel O bx home) (μ:O s=some o) {q:Nat} {aF:rF} (Ν:tok i s=.par q 0 aF) (iQ:aF=.lW\/aF=.w4) :
  o.aj.Perm (List.range q)/\(o.aU≠none->o.L.Perm (List.range q))/\∀a k m g,tok a s=.ch k m g->g=.gone:=by
 have a4:i<n:=h.lt (s:=s) (by rw[Ν];simp)
 have he:h7 (.par q 0 aF)=1:=by rcases iQ with rfl|rfl<;>rfl
 obtain⟨_,_,rL⟩:=h.fin μ Ν he;have Ε:=(h.fS s o μ).2;have c5:a8 n (λa=>tok a s) h6=q:=by
  rw[pn (φ:=h6) (λt Ν=>by cases t<;>simp_all [eT,h6]) Ε.np a4 (by rw[Ν];rfl),Ν];rfl
 have dW:a8 n (λa=>tok a s) hf=0:=by
  rw[pn (φ:=hf) (λt Ν=>by cases t<;>simp_all [eT,hf]) Ε.np a4 (by rw[Ν];rfl),Ν];rfl
 have eΧ:=Ε.J'
 have wG:=h.par i s q 0 aF Ν;subst wG;have RQ:=KZ (tok:=tok) (s:=s) (λj bI k m g b1 g' I R=>h.uG s j bI k m g b1 g' I R) n;have lt:∀k∈qJ tok s n,k<q:=λk ψ=>by
  obtain⟨j,m,g,_,δ⟩:=(yS tok s n k).1 ψ;have:=h.s6 s j k m g q 0 aF δ Ν;omega
 have full:=RP _ q RQ lt (by rw[KY];omega);obtain⟨e3,gd⟩:=h.gb s o μ;obtain⟨RR,lm⟩:=h.fx s o μ;refine⟨(List.perm_ext_iff_of_nodup e3 List.nodup_range).2 λk=>?_,λfr=>(List.perm_ext_iff_of_nodup RR List.nodup_range).2 λk=>?_,rL⟩
 ·rw[gd,List.mem_range];constructor
  ·rintro⟨j,m,g,δ,_⟩;have:=h.s6 s j k m g q 0 aF δ Ν;omega
  ·intro ψ;obtain⟨j,m,g,_,δ⟩:=(yS tok s n k).1 (full k ψ);exact⟨j,m,g,δ,by rw[rL j k m g δ];simp⟩
 ·rw[lm,List.mem_range];constructor
  ·rintro⟨j,m,g,δ,_⟩;have:=h.s6 s j k m g q 0 aF δ Ν;omega
  ·intro ψ;obtain⟨j,m,g,_,δ⟩:=(yS tok s n k).1 (full k ψ);refine⟨j,m,g,δ,?_⟩;rcases h.ow j s k m g o μ δ (by rw[rL j k m g δ];simp) with rfl|⟨_,e⟩
   ·trivial
   ·exact absurd e fr
end
section
variable {H H':cy->π} {aG ps:Nat->Nat->Option (Array Value×TypeId)} {tok eB:Nat->Nat->Tok} {O O':Nat->Option aN} {bx:Nat->Nat} {deaf:Nat->Nat} {N hh:Nat} {t:Trace} {bl w w':World} {i:Nat} {y:MemOp} {b s:Nat} {o:aN}
theorem ofEvents_one {fn:FuncId} {pos:String} {e:Event}:MemOp.ofEvents i fn pos #[e]=#[{g:=i,fn,pos,act:=.ofEvent e}]:=by rw[ofEvents_eq];simp
theorem iu.word (h:iu H aG tok O bx deaf N t) (Φ:y.g=i) (κ:y.act=.mark (.acquire ⟨b,0,none⟩)\/y.act=.mark (.releaseMerge ⟨b,0,none⟩)) (hb:b<N) (cK:l5 O O') (hv:∀j b v,ps j b=some v->aG j b=some v)
  (ς:∀k,dm (t++#[y]) (jx eB O' (t++#[y]) k) (H' k)):iu H' ps eB O' bx deaf N (t++#[y]):=by
 have nt:y.act.touch?=none:=by rcases κ with e|e<;>rw[e]<;>rfl
 have old:∀k a,touchAt (t++#[y]) k=some a->touchAt t k=some a/\k<t.size:=λk a ψ=>by
  obtain⟨x,U,wq⟩:=touch_of ψ;rcases getElem?_append_cases U with⟨aI,hy⟩|⟨_,gf⟩
  ·exact⟨by rw[touchAt_of hy];exact wq,aI⟩
  ·simp at gf;subst gf;rw[nt] at wq;cases wq
 refine⟨λsaid=>noRace_append (g:=i) (h.race said) (λop Κ=>by simp at Κ;subst Κ;exact Φ) (λk a _ op Κ c ε _=>by simp at Κ;subst Κ;rw[nt] at ε;cases ε),λop Κ=>?_,λop Κ a=>?_,ς,λj c v ε k a ψ=>h.oo j c v (hv j c v ε) k a (old k a ψ).1,λs o' c μ ε k a ψ fe=>?_,λj=>?_⟩
 ·rcases Array.mem_append.1 Κ with Κ|Κ
  ·exact h.low op Κ
  ·simp at Κ;subst Κ;rcases κ with e|e<;>rw[e]<;>exact hb
 ·rcases Array.mem_append.1 Κ with Κ|Κ
  ·exact h.norel op Κ a
  ·simp at Κ;subst Κ;rcases κ with e|e<;>rw[e]<;>simp
 ·obtain⟨lr,I,R⟩:=cK.1 s o' μ;obtain⟨ν,Ι⟩:=old k a ψ;rcases h.cont s lr c I (by rw[R];exact ε) k a ν fe with x|⟨x,de⟩
  ·exact .inl x
  ·exact .inr ⟨x,by rw[g?_old Ι];exact de⟩
 ·rw[Deaf_push,<-h.hears j];rcases κ with e|e<;>simp[deafStep,e]
theorem iu.wH (h:iu H aG tok O bx deaf N t) (k:cy) (nt:y.act.touch?=none) (cK:l5 O O') (dK:∀i s,eB i s≠.nil->tok i s≠.nil):dm (t++#[y]) (jx eB O' (t++#[y]) k) (H k):=
 (h.perms k).others (λ_ ψ=>BA cK.1 dK (Fh _ ψ)) λop Κ a κ=>by simp at Κ;subst Κ;rw[nt] at κ;cases κ
theorem Knows.marked {p:Nat} {op:MemOp} (I:t[p]?=some op) (R:op.act=.mark (.releaseMerge ⟨b,0,none⟩)) (ν:t.heard p) (ee:∀op∈t,∀a,op.act≠.mark (.release a)) (Ο:y.g=i) (Φ:y.act=.mark (.acquire ⟨b,0,none⟩)) (hd:Deaf t i=0):Knows (t++#[y]) i p:=by
 have kH:(t++#[y])[t.size]?=some y:=η
 have yK:(t++#[y]).heard t.size:=⟨i,by simp[Trace.g?,Ο],by rw[deaf_old (Nat.le_refl _)];exact hd⟩
 have ς:=lt_size_of_getElem? I;refine⟨t.size,y,kH,Ο,.inr (.single (.inr ⟨.marked (a:=⟨b,0,none⟩) ς (.inr ?_) ?_ ?_,(heard_old ς).2 ν,yK⟩))⟩
 ·rw[act?_old ς,act?_of I,R]
 ·rw[act?_of kH,Φ]
 ·intro af hj eC hB;rw[act?_old eC] at hB;obtain⟨rJ,jy,h'⟩:=Option.map_eq_some_iff.1 hB;exact ee rJ (mem_of_getElem? jy) _ h'
theorem dm.mZ {ju:Nat->Prop} {G:π} (h:dm t ju G) (nt:y.act.touch?=none) (ψ:∀k,ju k->Knows (t++#[y]) i k):dm (t++#[y]) (Knows (t++#[y]) i) G:=
 h.others ψ λop Κ a κ=>by simp at Κ;subst Κ;rw[nt] at κ;cases κ
theorem Sub.empty (G:π):Sub π.empty G:=⟨λ_ _ _ _ h=>(by cases h),λ_ _ h=>(by cases h),λ_ _ h=>(by cases h)⟩
theorem Sub.both {A B bb:π} (h:Sub A bb) (k:Sub B bb):Sub (join A B) bb:=by
 refine⟨λb o v p ε=>?_,λb x ι=>?_,λb x hv=>?_⟩
 ·simp only[join] at ε;cases Ο:A.aJ b o with
  | none=>rw[Ο] at ε;exact k.aJ b o v p ε
  | some z=>rw[Ο] at ε;cases ε;exact h.aJ b o v p Ο
 ·simp only[join] at ι;cases Ο:A.row b with
  | none=>rw[Ο] at ι;exact k.row b x ι
  | some z=>rw[Ο] at ι;cases ι;exact h.row b _ Ο
 ·simp only[join] at hv;cases Ο:A.obj b with
  | none=>rw[Ο] at hv;exact k.obj b x hv
  | some z=>rw[Ο] at hv;cases hv;exact h.obj b _ Ο
theorem Sub.RS {G H:π} (dn:Fits G w) (χ:Fits H w) (ap:Apart G H):Sub H (join G H):=by
 refine⟨λb o v p ε=>?_,λb x ι=>?_,λb x hv=>?_⟩
 ·simp only[join];cases Ο:G.aJ b o with
  | none=>exact⟨p,ε,id⟩
  | some z=>
   obtain⟨fc,e9⟩:=z;have Γ:=dn.aJ b o fc e9 Ο;have Θ:=χ.aJ b o v p ε;rw[Γ] at Θ;cases Θ;refine⟨e9,rfl,λς=>?_⟩;subst ς;exact absurd ⟨_,Ο⟩ (ap.qv b o ⟨_,ε⟩)
 ·simp only[join];cases Ο:G.row b with
  | none=>exact ι
  | some z=>
   obtain⟨t1,iR⟩:=z;obtain⟨t2,fT⟩:=x;obtain⟨c1,a1,a2⟩:=dn.row b t1 iR Ο;obtain⟨c2,bK,da⟩:=χ.row b t2 fT ι;rw[a1] at bK;cases bK;rw[<-a2,<-da]
 ·simp only[join];cases Ο:G.obj b with
  | none=>exact hv
  | some z=>exact absurd ⟨x,hv⟩ (ap.obj b ⟨z,Ο⟩)
theorem FB (G:π):join G π.empty=G:=by
 obtain⟨a,b,c⟩:=G;simp only[join,π.empty];congr
 ·funext x y;cases a x y<;>rfl
 ·funext x;cases b x<;>rfl
 ·funext x;cases c x<;>rfl
theorem gX.wI (h:gX H aG O bl w) (hv:∀j b v,ps j b=some v->aG j b=some v):gX H ps O bl w:=⟨h.fit,λj b c t hb=>h.l4 j b c t (hv j b _ hb),h.fH,h.keep⟩
theorem h8.wI (h:h8 H aG O hh) (hv:∀j b v,ps j b=some v->aG j b=some v):h8 H ps O hh:=by
 have K0:∀j b,aG j b=none->ps j b=none:=λj b e=>by
  cases U:ps j b with
  | none=>rfl
  | some v=>rw[hv j b v U] at e;cases e
 exact⟨h.apart,h.high,h.ns,λj b v hb=>let ⟨a1,a2,ck⟩:=h.fresh j b v (hv j b v hb);⟨a1,a2,λk ψ=>K0 k b (ck k ψ)⟩,λs o b μ hb=>let ⟨a1,a2,ck⟩:=h.kr s o b μ hb;⟨a1,a2,λk=>K0 k b (ck k)⟩,h.kE,h.po,h.eA⟩
theorem ku {o':aN} (Α:O s=some o) {r:Nat} {q:aN} (h:upd O s (some o') r=some q):(r=s/\q=o')\/(r≠s/\O r=some q):=by
 by_cases e:r=s
 ·subst e;rw[upd_same] at h;cases h;exact .inl ⟨rfl,rfl⟩
 ·rw[upd_ne _ _ e] at h;exact .inr ⟨e,h⟩
theorem BM {a b:Tok} (Ν:tok i s=a) (κ:∀q p,a≠.par q p .cq) (hb:∀q p,b≠.par q p .cq) (j r q p:Nat):b0 tok i s b j r=.par q p .cq↔tok j r=.par q p .cq:=by
 by_cases e:j=i/\r=s
 ·obtain⟨rfl,rfl⟩:=e;rw[e8,Ν];exact⟨λx=>absurd x (hb q p),λx=>absurd x (κ q p)⟩
 ·rw[e0 _ e]
theorem yT {a b:Tok} (Ν:tok i s=a) (κ:a≠.nil) (j r:Nat) (h:b0 tok i s b j r≠.nil):tok j r≠.nil:=by
 by_cases e:j=i/\r=s
 ·obtain⟨rfl,rfl⟩:=e;rw[Ν];exact κ
 ·rw[e0 _ e] at h;exact h
theorem yU {a b:Tok} (Ν:tok i s=a) (hb:∀k m g,a=.ch k m g->∃k m g,b=.ch k m g) (j r k:Nat) (m:lh) (g:sU) (h:tok j r=.ch k m g):∃k m g,b0 tok i s b j r=.ch k m g:=by
 by_cases e:j=i/\r=s
 ·obtain⟨rfl,rfl⟩:=e;rw[e8];exact hb k m g (Ν▸h)
 ·rw[e0 _ e];exact⟨k,m,g,h⟩
end
section
variable {P:Program} {Q:Value->Prop} {bl:World} {c c':c0} {gs:Array Goroutine} {w w':World} {t:Trace} {i:Nat} {g g':Goroutine} {es:Array Event}
variable {f:Bool×Goroutine×aW->ga (Bool×Goroutine×aW)}
theorem Inv.BN (h:Inv P Q bl c gs w t) (Ο:gs[i]?=some g) (ψ:Km P (i==0) (lz P Q f) g (c.x i)):hP P Q bl c gs w t i f:=by
 obtain⟨s,sp,m,k,g',I,R,ν,Ι,aB,bn,cT,FC⟩:=ψ;have a4:i<gs.size:=mb Ο;obtain⟨o,Α,b2⟩:=h.bh.qD i s sp I;subst b2;have dK:c.tok i s=.ch k .own .work:=ν;have hd:c.deaf i=0:=Ι;have ee:c.rel i=false:=bn;have μ:=cT w (h.mem.fit (.inl i));have uS:=h.bh.KX Α dK η;have df:=h.eA.l7 s o m Α R uS (λj af L g δ=>by
  have:=h.bh.only Α (i:=i) (by rw[dK];rfl) j af L g δ;subst this;rw[dK] at δ;cases δ)
 have bm:=FC o.L (c.H (.inr m)) df (h.hold.apart _ _ η) ⟨(h.bh.fx s o Α).1,λψ=>(by
  obtain⟨j,b1,ah,Γ,Θ⟩:=((h.bh.fx s o Α).2 k).1 ψ;have:=h.bh.uG s j i k b1 ah _ _ Γ dK;subst this;rw[dK] at Γ;cases Γ;exact Θ),w,h.mem.fit _,h.mem.fit _⟩
 let de:aW:={c.x i with G:=join (c.H (.inl i)) (c.H (.inr m)),tok:=upd (c.tok i) s (.ch k (.dj o.L) .work),view:=upd (c.view i) s none}
 let c':c0:={c with H:=bL (bL c.H (.inl i) (join (c.H (.inl i)) (c.H (.inr m)))) (.inr m) π.empty,tok:=b0 c.tok i s (.ch k (.dj o.L) .work),view:=upd c.view i (upd (c.view i) s none),O:=upd c.O s (some o),T:=upd c.T i (f (i==0,g',de))}
 have cK:=l5.upd (o':=o) Α rfl
 have cq:=BM (b:=.ch k (.dj o.L) .work) dK η η
 have nil:=yT (b:=.ch k (.dj o.L) .work) dK η
 have hm:ep s o.toSpec m:=.inr R;refine hP.go (c':=c') Ο μ ?_ _ rfl;rw[ofEvents_one];have nv:c'.x i=de:=by
  have:(Sum.inl i:cy)≠.inr m:=η;simp[c',de,c0.x,upd_same,uR,bM _ _ this]
 refine h.laid (c':=c') Ο (h.mem.two (yL (h.mem.fit _) (h.mem.fit _)) (uJ w) λr q Χ=>?_) ?_ ?_ (h.bh.E2 Α dK) ⟨λr q b1 Χ dg bA ia=>?_,λr q Χ bA=>?_⟩
  (h.ea.app a4 (λop Κ=>by simp at Κ;subst Κ;rfl) (λU=>by rw[ee] at U;cases U) (λs q p ⟨j,x⟩=>⟨j,(cq j s q p).1 x⟩) (λj s q p x=>(cq j s q p).1 x))
  (h.gd.app h.bS.low (λop Κ b hb=>by simp at Κ;subst Κ;cases hb) (λj b v hv=>.inl ⟨v,hv⟩) (λr q Χ=>?_) (λj r af mu g e=>yU dK (λ_ _ _ _=>⟨_,_,_,rfl⟩) j r af mu g e))
  ⟨g',?_,.inl rfl⟩ (λj δ=>⟨?_,upd_ne _ _ δ⟩) (.inr λj r q _ a b=>?_)
 ·rcases ku Α Χ with⟨rfl,rfl⟩|⟨_,b'⟩
  ·exact h.mem.fH _ _ Α
  ·exact h.mem.fH _ _ b'
 ·exact h.hold.two η (Sub.refl _) (Sub.empty _) (Apart.s8 _) cK λx U=>by
   rcases U with e|e
   ·cases e;exact⟨s,o,Α,hm⟩
   ·cases e
 ·refine h.bS.word (i:=i) rfl (.inl rfl) (h.low Α hm) cK (λ_ _ _ x=>x) λa=>?_;by_cases Θ:a=.inr m
  ·subst Θ;show dm _ _ (bL _ _ _ _);rw[dC];exact dm.empty
  ·show dm _ _ (bL _ _ _ _);rw[bM _ _ Θ];by_cases Γ:a=.inl i
   ·subst Γ;rw[dC];exact((h.bS.perms (.inl i)).own (λop Κ=>by simp at Κ;subst Κ;rfl)).join ((h.bS.perms (.inr m)).acquire h.bS.norel Α hm (by rw[dK];simp) rfl rfl (by rw[h.bS.hears];exact hd))
   ·rw[bM _ _ Γ];exact h.bS.wH a rfl cK nil
 ·rcases ku Α Χ with⟨rfl,rfl⟩|⟨e,b'⟩
  ·exact absurd (e8 ..) (ia i k q.L .work)
  ·have bC:(.inr b1:cy)≠.inr m:=λx=>by cases x;exact e (h.hold.kE r s q o m b' Α (.inr dg) hm)
   show q.bb q.L (bL (bL c.H _ _) (.inr m) _ (.inr b1));rw[bM _ _ bC,iv];exact h.eA.l7 r q b1 b' dg (λj q p x=>bA j q p ((cq j r q p).2 x)) λj k L g x=>ia j k L g (by show b0 c.tok i s _ j r=_;rw[e0 _ (λy=>e y.2)];exact x)
 ·rcases ku Α Χ with⟨rfl,rfl⟩|⟨e,b'⟩
  ·have bC:(.inr r:cy)≠.inr m:=λx=>by cases x;exact h.hold.po _ q m Α R rfl
   show lu q.D q.aj (bL (bL c.H _ _) (.inr m) _ (.inr r));rw[bM _ _ bC,iv];exact h.eA.l8 r q Α (λj q p x=>bA j q p ((cq j r q p).2 x))
  ·have bC:(.inr r:cy)≠.inr m:=λx=>by cases x;exact e (h.hold.kE m s q o m b' Α (.inl rfl) hm)
   show lu q.D q.aj (bL (bL c.H _ _) (.inr m) _ (.inr r));rw[bM _ _ bC,iv];exact h.eA.l8 r q b' (λj q p x=>bA j q p ((cq j r q p).2 x))
 ·rcases ku Α Χ with⟨rfl,rfl⟩|⟨_,b'⟩
  ·exact⟨_,Α,rfl⟩
  ·exact⟨q,b',rfl⟩
 ·rw[nv];show jw P Q (upd c.T i (f (i==0,g',de)) i) _ _ _;rw[upd_same];exact bm
 ·have iR:(Sum.inl j:cy)≠.inr m:=by simp
  have fT:(Sum.inl j:cy)≠.inl i:=λe=>δ (by cases e;rfl);simp[c',c0.x,upd_ne _ _ δ,rM _ δ,bM _ _ iR,bM _ _ fT]
 ·exact⟨q,by show upd c.O s (some o) r=some q;rw[BJ Α];exact a,b⟩
theorem Inv.FD (h:Inv P Q bl c gs w t) (Ο:gs[i]?=some g) (ψ:Kn P (i==0) (lz P Q f) g (c.x i)):hP P Q bl c gs w t i f:=by
 obtain⟨s,sp,m,k,L,g',G',E,I,R,ν,Ι,aB,bn,cT,mc,dy,bm⟩:=ψ;have a4:i<gs.size:=mb Ο;obtain⟨o,Α,b2⟩:=h.bh.qD i s sp I;subst b2;have dK:c.tok i s=.ch k (.dj L) .work:=ν;have hd:c.deaf i=0:=Ι;have ee:c.rel i=false:=bn;have μ:=cT w (h.mem.fit (.inl i));have av:o.L=L:=h.bh.dj i s k L .work o Α dK;let o':aN:={o with L:=o.L++[k]};let de:aW:={c.x i with G:=G',tok:=upd (c.tok i) s (.ch k .fin .work),view:=upd (c.view i) s none};let c':c0:={c with H:=bL (bL c.H (.inl i) G') (.inr m) E,tok:=b0 c.tok i s (.ch k .fin .work),view:=upd c.view i (upd (c.view i) s none),O:=upd c.O s (some o'),T:=upd c.T i (f (i==0,g',de))};have cK:l5 c.O (upd c.O s (some o')):=l5.upd Α rfl;have cq:=BM (b:=.ch k .fin .work) dK η η;have nil:=yT (b:=.ch k .fin .work) dK η;have hm:ep s o.toSpec m:=.inr R;refine hP.go (c':=c') Ο μ ?_ _ rfl;rw[ofEvents_one];have nv:c'.x i=de:=by
  have:(Sum.inl i:cy)≠.inr m:=η;simp[c',de,c0.x,upd_same,uR,bM _ _ this]
 refine h.laid (c':=c') Ο (h.mem.two (mc.l.fits (h.mem.fit (.inl i))) (mc.r.fits (h.mem.fit (.inl i))) λr q Χ=>?_) ?_ ?_ (h.bh.Rn Α dK) ⟨λr q b1 Χ dg bA ia=>?_,λr q Χ bA=>?_⟩
  (h.ea.app a4 (λop Κ=>by simp at Κ;subst Κ;rfl) (λU=>by rw[ee] at U;cases U) (λs q p ⟨j,x⟩=>⟨j,(cq j s q p).1 x⟩) (λj s q p x=>(cq j s q p).1 x))
  ⟨λr q b1 Χ dg p op ς κ=>?_,λj b v hv op Κ κ=>?_⟩
  ⟨g',?_,.inl rfl⟩ (λj δ=>⟨?_,upd_ne _ _ δ⟩) (.inr λj r q _ a b=>?_)
 ·rcases ku Α Χ with⟨rfl,rfl⟩|⟨_,b'⟩
  ·exact(h.mem.fH r o Α:At r o w)
  ·exact h.mem.fH _ _ b'
 ·exact h.hold.two η mc.l.qE mc.r.qE mc.apart cK λx U=>by
   rcases U with e|e
   ·cases e;exact⟨s,o,Α,hm⟩
   ·cases e
 ·refine h.bS.word (i:=i) rfl (.inr rfl) (h.low Α hm) cK (λ_ _ _ x=>x) λa=>?_;by_cases Θ:a=.inr m
  ·subst Θ;show dm _ _ (bL _ _ _ _);rw[dC];exact((dm.release (h.bS.perms (.inl i)) rfl rfl (by rw[h.bS.hears];exact hd)).sub mc.r).mono λ_ x=>BA cK.1 nil x
  ·show dm _ _ (bL _ _ _ _);rw[bM _ _ Θ];by_cases Γ:a=.inl i
   ·subst Γ;rw[dC];exact((h.bS.perms (.inl i)).own (λop Κ=>by simp at Κ;subst Κ;rfl)).sub mc.l
   ·rw[bM _ _ Γ];exact h.bS.wH a rfl cK nil
 ·rcases ku Α Χ with⟨rfl,rfl⟩|⟨e,b'⟩
  ·have e:b1=m:=by have:o.aU=some b1:=dg;rw[R] at this;cases this;rfl
   subst e;show o.bb (o.L++[k]) (bL (bL c.H _ _) (.inr b1) _ (.inr b1));rw[dC,av];exact dy
  ·have bC:(.inr b1:cy)≠.inr m:=λx=>by cases x;exact e (h.hold.kE r s q o m b' Α (.inr dg) hm)
   show q.bb q.L (bL (bL c.H _ _) (.inr m) _ (.inr b1));rw[bM _ _ bC,iv];exact h.eA.l7 r q b1 b' dg (λj q p x=>bA j q p ((cq j r q p).2 x)) λj k L g x=>ia j k L g (by show b0 c.tok i s _ j r=_;rw[e0 _ (λy=>e y.2)];exact x)
 ·rcases ku Α Χ with⟨rfl,rfl⟩|⟨e,b'⟩
  ·have bC:(.inr r:cy)≠.inr m:=λx=>by cases x;exact h.hold.po _ o m Α R rfl
   show lu o.D o.aj (bL (bL c.H _ _) (.inr m) _ (.inr r));rw[bM _ _ bC,iv];exact h.eA.l8 r o Α (λj q p x=>bA j q p ((cq j r q p).2 x))
  ·have bC:(.inr r:cy)≠.inr m:=λx=>by cases x;exact e (h.hold.kE m s q o m b' Α (.inl rfl) hm)
   show lu q.D q.aj (bL (bL c.H _ _) (.inr m) _ (.inr r));rw[bM _ _ bC,iv];exact h.eA.l8 r q b' (λj q p x=>bA j q p ((cq j r q p).2 x))
 ·rcases getElem?_append_cases ς with⟨_,hO⟩|⟨_,gf⟩
  ·have yV:∀ic,c.O r=some ic->ic.aU=some b1->(∃af mu g,b0 c.tok i s (.ch k .fin .work) op.g r=.ch af mu g)/\(c.rel op.g=true->Before (t++#[{g:=i,fn:=g.frame.fn,pos:=g.frame.place,act:=MemAct.ofEvent (Go.ConcR.mk (Mark.releaseMerge {block:=m,off:=0}))}]) p (c.dw op.g)):=λic Γ Θ=>by
    obtain⟨⟨af,mu,g,ν⟩,Ι⟩:=h.gd.iO r ic b1 Γ Θ p op hO κ;exact⟨yU dK (λ_ _ _ _=>⟨_,_,_,rfl⟩) _ _ _ _ _ ν,λι=>(Ι ι).app _⟩
   rcases ku Α Χ with⟨rfl,rfl⟩|⟨_,b'⟩
   ·exact yV o Α dg
   ·exact yV q b' dg
  ·simp at gf;subst gf;cases κ;have:r=s:=by
    rcases ku Α Χ with⟨rfl,rfl⟩|⟨_,b'⟩
    ·rfl
    ·exact h.hold.kE r s q o m b' Α (.inr dg) hm
   subst this;exact⟨⟨k,.fin,.work,e8 ..⟩,λι=>by
    have:c.rel i=true:=ι;rw[ee] at this;cases this⟩
 ·rcases Array.mem_append.1 Κ with Κ|Κ
  ·exact h.gd.uN j b v hv op Κ κ
  ·simp at Κ;subst Κ;cases κ;have:=(h.hold.kr s o m Α hm).2.2 j;have ly:c.aG j m=some v:=hv;rw[this] at ly;cases ly
 ·rw[nv];show jw P Q (upd c.T i (f (i==0,g',de)) i) _ _ _;rw[upd_same];exact bm
 ·have iR:(Sum.inl j:cy)≠.inr m:=by simp
  have fT:(Sum.inl j:cy)≠.inl i:=λe=>δ (by cases e;rfl);simp[c',c0.x,upd_ne _ _ δ,rM _ δ,bM _ _ iR,bM _ _ fT]
 ·by_cases e:r=s
  ·subst e;rw[Α] at a;cases a;exact⟨o',upd_same ..,b⟩
  ·exact⟨q,by show upd c.O s (some o') r=some q;rw[upd_ne _ _ e];exact a,b⟩
end
section
variable {P:Program} {Q:Value->Prop} {bl:World} {c c':c0} {gs:Array Goroutine} {w w':World} {t:Trace} {i:Nat} {g g':Goroutine} {es:Array Event}
variable {f:Bool×Goroutine×aW->ga (Bool×Goroutine×aW)}
theorem Inv.parent (h:Inv P Q bl c gs w t) {s:Nat} {o:aN} (Α:c.O s=some o):c.bx s<gs.size/\∃q p aF,c.tok (c.bx s) s=.par q p aF:=by
 obtain⟨i0,mY,ς⟩:=Bo (φ:=eT) (N:=gs.size) (τ:=λa=>c.tok a s) (by rw[(h.bh.fS s o Α).2.np];exact Nat.one_pos);have yO:∃q p aF,c.tok i0 s=.par q p aF:=by
  cases U:c.tok i0 s with
  | par q p aF=>exact⟨q,p,aF,rfl⟩
  | nil=>simp[U,eT] at ς
  | ch=>simp[U,eT] at ς
 obtain⟨q,p,aF,U⟩:=yO;have cW:=h.bh.par i0 _ q p aF U;subst cW;exact⟨mY,q,p,aF,U⟩
theorem Inv.FE (h:Inv P Q bl c gs w t) (Ο:gs[i]?=some g) (ψ:Ko P (i==0) (lz P Q f) g (c.x i)):hP P Q bl c gs w t i f:=by
 obtain⟨s,sp,k,mu,g',E,I,ν,s7,RU,Ι,aB,bn,cT,j1,fz,bm⟩:=ψ;have a4:i<gs.size:=mb Ο;obtain⟨o,Α,b2⟩:=h.bh.qD i s sp I;subst b2;have dK:c.tok i s=.ch k mu .work:=ν;have hd:c.deaf i=0:=Ι;have ee:c.rel i=false:=bn;have K1:∀bq,bq≠s->fQ (c.tok i bq):=RU;have μ:=cT w (h.mem.fit (.inl i));obtain⟨mY,rK,aI⟩:=h.bh.ou i s k mu .work dK;have uS:=h.bh.KX Α dK η;let y:MemOp:={g:=i,fn:=g.frame.fn,pos:=g.frame.place,act:=MemAct.ofEvent (Go.ConcR.mk (Mark.releaseMerge ⟨s,0,none⟩))};have FF:y.act=.mark (.releaseMerge ⟨s,0,none⟩):=rfl;have kH:(t++#[y])[t.size]?=some y:=η;have RV:(t++#[y]).heard t.size:=⟨i,by simp[Trace.g?,y],by rw[deaf_old (Nat.le_refl _)];exact(h.bS.hears i).trans hd⟩;let o':aN:={o with aj:=k::o.aj};let de:aW:={c.x i with G:=π.empty,aG:=λ_=>none,tok:=upd (c.tok i) s (.ch k mu .rel),view:=upd (c.view i) s none,rel:=true};let c':c0:={c with H:=bL (bL c.H (.inl i) π.empty) (.inr s) (join E (c.H (.inr s))),aG:=upd c.aG i λ_=>none,tok:=b0 c.tok i s (.ch k mu .rel),view:=upd c.view i (upd (c.view i) s none),O:=upd c.O s (some o'),rel:=upd c.rel i true,dw:=upd c.dw i t.size,T:=upd c.T i (f (i==0,g',de))};have cK:l5 c.O (upd c.O s (some o')):=l5.upd Α rfl;have cq:=BM (b:=.ch k mu .rel) dK η η;have nil:=yT (b:=.ch k mu .rel) dK η;have gu:ep s o.toSpec s:=.inl rfl;have fI:∀j b v,upd c.aG i (λ_=>none) j b=some v->c.aG j b=some v:=λj b v hv=>by
  by_cases e:j=i
  ·subst e;rw[upd_same] at hv;cases hv
  ·rw[upd_ne _ _ e] at hv;exact hv
 have iw:=h.hold.apart (.inl i) (.inr s) η
 have hSub:Sub (join E (c.H (.inr s))) (join (c.H (.inl i)) (c.H (.inr s))):=Sub.both (Sub.qE j1) (Sub.RS (h.mem.fit _) (h.mem.fit _) iw)
 have K2:∀j r af L g,c.tok j r=.ch af (.dj L) g->b0 c.tok i s (.ch k mu .rel) j r=.ch af (.dj L) g:=λj r af L g δ=>by
  rw[e0 _ (λe=>?_)]
  ·exact δ
  ·obtain⟨rfl,rfl⟩:=e;rw[dK] at δ;rcases s7 with rfl|⟨rfl,_⟩<;>cases δ
 have rI:∀j,j≠i->∀r,b0 c.tok i s (.ch k mu .rel) j r=c.tok j r:=λj δ r=>e0 _ λe=>δ e.1;refine hP.go (c':=c') Ο μ ?_ _ rfl;rw[ofEvents_one];have nv:c'.x i=de:=by
  have:(Sum.inl i:cy)≠.inr s:=η;simp[c',de,c0.x,upd_same,uR,bM _ _ this]
 have RX:uM gs.size c'.tok c'.rel c'.bx c'.home c'.dw (t++#[y]):=by
  refine⟨λaf g' ib=>?_,λj fy δ=>?_,λj fy δ bA=>?_,λj fy δ qK bN=>?_⟩
  ·obtain⟨op,Κ,hl⟩:=Option.map_eq_some_iff.1 ib;rcases getElem?_append_cases Κ with⟨_,kI⟩|⟨_,gf⟩
   ·exact h.ea.dQ af g' (by simp[Trace.g?,kI,hl])
   ·simp at gf;subst gf;rw[<-hl];exact a4
  ·by_cases e:j=i
   ·subst e;have Γ:c'.dw j=t.size:=upd_same ..;rw[Γ];refine⟨y,kH,rfl,by rw[FF];show _=MemAct.mark (.releaseMerge ⟨c.home j,0,none⟩);rw[rK],RV,λaf ib ε=>?_⟩;obtain⟨op,Κ,hl⟩:=Option.map_eq_some_iff.1 ib;rcases getElem?_append_cases Κ with⟨qL,kI⟩|⟨hle,gf⟩
    ·exact .inr (hb_po qL Κ kH hl)
    ·exact absurd ε (wF (u:=#[y]) (λop Κ=>by simp at Κ;subst Κ;rfl) af hle)
   ·have bk:c.rel j=true:=by have:upd c.rel i true j=true:=δ;rwa [upd_ne _ _ e] at this
    have Γ:c'.dw j=c.dw j:=upd_ne _ _ e;rw[Γ];obtain⟨op,a1,a2,ck,fY,hA⟩:=h.ea.c1 j fy bk;have ς:=lt_size_of_getElem? a1;refine⟨op,by rw[getElem?_append_old ς];exact a1,a2,ck,(heard_old ς).2 fY,λaf ib ε=>?_⟩;obtain⟨rJ,Κ,hl⟩:=Option.map_eq_some_iff.1 ib;rcases getElem?_append_cases Κ with⟨qL,kI⟩|⟨hle,gf⟩
    ·exact(hA af (by simp[Trace.g?,kI,hl]) ((yN qL).1 ε)).app _
    ·exact absurd ε (wF (u:=#[y]) (λop Κ=>by simp at Κ;subst Κ;rfl) af hle)
  ·obtain⟨q,p,Χ⟩:=bA;have b':c.tok (c.bx (c.home j)) (c.home j)=.par q p .cq:=(cq _ _ q p).1 Χ;by_cases e:j=i
   ·subst e;rw[rK] at b';exact absurd b' (uS _ q p)
   ·have bk:c.rel j=true:=by have:upd c.rel i true j=true:=δ;rwa [upd_ne _ _ e] at this
    have Γ:c'.dw j=c.dw j:=upd_ne _ _ e;rw[Γ];exact(h.ea.c2 j fy bk ⟨q,p,b'⟩).app _
  ·by_cases e:j=i
   ·subst e;exfalso;have RY:c.bx s≠0:=by rw[<-rK];exact qK
    have bC:c.bx s≠j:=γ
    have yW:c.rel (c.bx s)=true:=by
     have:upd c.rel j true (c.bx (c.home j))=true:=bN;rw[rK,upd_ne _ _ bC] at this;exact this
    obtain⟨_,q,p,aF,rN⟩:=h.parent Α;have cQ:fQ (c.tok (c.bx s) s):=by
     by_cases Θ:s=c.home (c.bx s)
     ·obtain⟨bG,eD,ah,eC⟩:=h.bh.rH (c.bx s) RY γ;rw[<-Θ,rN] at eC;cases eC
     ·exact h.bh.ov _ s yW Θ
    rw[rN] at cQ;cases aF<;>first|exact cQ.elim|exact uS _ _ _ rN
   ·have bk:c.rel j=true:=by have:upd c.rel i true j=true:=δ;rwa [upd_ne _ _ e] at this
    have Γ:c'.dw j=c.dw j:=upd_ne _ _ e;rw[Γ];by_cases Θ:c.bx (c.home j)=i
    ·have bO:c'.dw (c.bx (c.home j))=t.size:=by rw[Θ];exact upd_same ..
     show Before _ _ (c'.dw (c.bx (c.home j)));rw[bO];obtain⟨op,a1,_⟩:=h.ea.c1 j fy bk;have fg:j<gs.size:=by
      obtain⟨op,a1,a2,_⟩:=h.ea.c1 j fy bk;exact h.ea.dQ (c.dw j) j (by simp[Trace.g?,a1,a2])
     obtain⟨bG,eD,ah,eC⟩:=h.bh.rH j fy fg;obtain⟨iS,wJ⟩:=h.obj (i:=j) (s:=c.home j) (by rw[eC];simp);obtain⟨_,q,p,aF,rN⟩:=h.parent wJ;rw[Θ] at rN;have bC:c.home j≠s:=λcF=>by rw[cF,dK] at rN;cases rN
     have cQ:=K1 _ bC;rw[rN] at cQ;have iQ:aF=.cq:=by cases aF<;>first|exact cQ.elim|rfl
     subst iQ;have K3:=h.ea.c2 j fy bk ⟨q,p,by rw[Θ];exact rN⟩;rw[Θ] at K3;exact .inr (K3.hb_new (u:=#[y]) (Nat.le_refl _) kH rfl)
    ·have bO:c'.dw (c.bx (c.home j))=c.dw (c.bx (c.home j)):=upd_ne _ _ Θ
     show Before _ _ (c'.dw (c.bx (c.home j)));rw[bO];refine(h.ea.c3 j fy bk qK ?_).app _;have:upd c.rel i true (c.bx (c.home j))=true:=bN
     rwa [upd_ne _ _ Θ] at this
 refine h.laid (c':=c') Ο ((h.mem.two (uJ w) (yL (j1.fits (h.mem.fit (.inl i))) (h.mem.fit _)) λr q Χ=>?_).wI fI) ((h.hold.two η (Sub.empty _) hSub (Apart.s8 _).symm cK λx U=>?_).wI fI) ?_ (h.bh.Ro Α dK s7 K1) ⟨λr q b1 Χ dg bA ia=>?_,λr q Χ bA=>?_⟩
  RX ⟨λr q b1 Χ dg p op ς κ=>?_,λj b v hv op Κ κ=>?_⟩
  ⟨g',?_,.inl rfl⟩ (λj δ=>⟨?_,upd_ne _ _ δ⟩) (.inr λj r q _ a b=>?_)
 ·rcases ku Α Χ with⟨rfl,rfl⟩|⟨_,b'⟩
  ·exact(h.mem.fH r o Α:At r o w)
  ·exact h.mem.fH _ _ b'
 ·rcases U with e|e
  ·cases e;exact⟨s,o,Α,gu⟩
  ·cases e
 ·refine h.bS.word (i:=i) rfl (.inr rfl) (h.low Α gu) cK fI λa=>?_;by_cases Θ:a=.inr s
  ·subst Θ;show dm _ _ (bL _ _ _ _);rw[dC];exact(((dm.release (h.bS.perms (.inl i)) rfl rfl (by rw[h.bS.hears];exact hd)).sub j1).mono λ_ x=>BA cK.1 nil x).join (h.bS.wH (.inr s) rfl cK nil)
  ·show dm _ _ (bL _ _ _ _);rw[bM _ _ Θ];by_cases Γ:a=.inl i
   ·subst Γ;rw[dC];exact dm.empty
   ·rw[bM _ _ Γ];exact h.bS.wH a rfl cK nil
 ·rcases ku Α Χ with⟨rfl,rfl⟩|⟨e,b'⟩
  ·have bC:(.inr b1:cy)≠.inr r:=λx=>by cases x;exact h.hold.po _ o _ Α dg rfl
   show o.bb o.L (bL (bL c.H _ _) (.inr r) _ (.inr b1));rw[bM _ _ bC,iv];exact h.eA.l7 r o b1 Α dg (λj q p x=>bA j q p ((cq j r q p).2 x)) λj k L g x=>ia j k L g (K2 _ _ _ _ _ x)
  ·have bC:(.inr b1:cy)≠.inr s:=λx=>e (h.hold.kE r s q o b1 b' Α (.inr dg) (by cases x;exact gu))
   show q.bb q.L (bL (bL c.H _ _) (.inr s) _ (.inr b1));rw[bM _ _ bC,iv];exact h.eA.l7 r q b1 b' dg (λj q p x=>bA j q p ((cq j r q p).2 x)) λj k L g x=>ia j k L g (K2 _ _ _ _ _ x)
 ·rcases ku Α Χ with⟨rfl,rfl⟩|⟨e,b'⟩
  ·show lu o.D (k::o.aj) (bL (bL c.H _ _) (.inr r) _ (.inr r));rw[dC];exact⟨E,c.H (.inr r),fz,h.eA.l8 r o Α (λj q p x=>bA j q p ((cq j r q p).2 x)),iw.sub j1 (Sub.refl _),rfl⟩
  ·have bC:(.inr r:cy)≠.inr s:=λx=>by cases x;exact e rfl
   show lu q.D q.aj (bL (bL c.H _ _) (.inr s) _ (.inr r));rw[bM _ _ bC,iv];exact h.eA.l8 r q b' (λj q p x=>bA j q p ((cq j r q p).2 x))
 ·rcases getElem?_append_cases ς with⟨qL,hO⟩|⟨_,gf⟩
  ·have yV:∀ic,c.O r=some ic->ic.aU=some b1->(∃af FG g,b0 c.tok i s (.ch k mu .rel) op.g r=.ch af FG g)/\(c'.rel op.g=true->Before (t++#[y]) p (c'.dw op.g)):=λic Γ Θ=>by
    obtain⟨⟨af,FG,g,ν⟩,Ι⟩:=h.gd.iO r ic b1 Γ Θ p op hO κ;refine⟨yU dK (λ_ _ _ _=>⟨_,_,_,rfl⟩) _ _ _ _ _ ν,λι=>?_⟩;by_cases e:op.g=i
    ·have Γ:c'.dw op.g=t.size:=by rw[e];exact upd_same ..
     rw[Γ];exact .inr (hb_po qL ς kH e)
    ·have Γ:c'.dw op.g=c.dw op.g:=upd_ne _ _ e
     have Θ:c.rel op.g=true:=by have:upd c.rel i true op.g=true:=ι;rwa [upd_ne _ _ e] at this
     rw[Γ];exact(Ι Θ).app _
   rcases ku Α Χ with⟨rfl,rfl⟩|⟨_,b'⟩
   ·exact yV o Α dg
   ·exact yV q b' dg
  ·simp at gf;subst gf;cases κ;exfalso;rcases ku Α Χ with⟨rfl,rfl⟩|⟨e,b'⟩
   ·exact h.hold.po _ o _ Α dg rfl
   ·exact e (h.hold.kE r s q o s b' Α (.inr dg) gu)
 ·have ly:=fI j b v hv;rcases Array.mem_append.1 Κ with Κ|Κ
  ·exact h.gd.uN j b v ly op Κ κ
  ·simp at Κ;subst Κ;cases κ;have:=(h.hold.kr s o s Α gu).2.2 j;rw[this] at ly;cases ly
 ·rw[nv];show jw P Q (upd c.T i (f (i==0,g',de)) i) _ _ _;rw[upd_same];exact bm
 ·have iR:(Sum.inl j:cy)≠.inr s:=by simp
  have fT:(Sum.inl j:cy)≠.inl i:=λe=>δ (by cases e;rfl);simp[c',c0.x,upd_ne _ _ δ,rM _ δ,bM _ _ iR,bM _ _ fT]
 ·by_cases e:r=s
  ·subst e;rw[Α] at a;cases a;exact⟨o',upd_same ..,b⟩
  ·exact⟨q,by show upd c.O s (some o') r=some q;rw[upd_ne _ _ e];exact a,b⟩
theorem Inv.BO (h:Inv P Q bl c gs w t) (Ο:gs[i]?=some g) (ψ:Kp P (i==0) (lz P Q f) g (c.x i)):hP P Q bl c gs w t i f:=by
 obtain⟨s,sp,n,aF,g',I,ν,iQ,Ι,aB,bn,cT,FC⟩:=ψ;have a4:i<gs.size:=mb Ο;obtain⟨o,Α,b2⟩:=h.bh.qD i s sp I;subst b2;have dK:c.tok i s=.par n 0 aF:=ν;have hd:c.deaf i=0:=Ι;have ee:c.rel i=false:=bn;have μ:=cT w (h.mem.fit (.inl i));have qK:=h.bh.par i s n 0 aF dK;obtain⟨K4,jB,rL⟩:=h.bh.full Α dK iQ;have gu:ep s o.toSpec s:=.inl rfl;have uS:∀j q p,c.tok j s≠.par q p .cq:=λj q p δ=>by
  have e:=h.bh.par j s q p .cq δ;rw[<-qK] at e;subst e;rw[dK] at δ;rcases iQ with rfl|rfl<;>cases δ
 let y:MemOp:={g:=i,fn:=g.frame.fn,pos:=g.frame.place,act:=MemAct.ofEvent (Go.ConcR.mk (Mark.acquire ⟨s,0,none⟩))}
 have FF:y.act=.mark (.acquire ⟨s,0,none⟩):=rfl
 have uT:Deaf t i=0:=by rw[h.bS.hears];exact hd
 have cK:l5 c.O (upd c.O s (some o)):=l5.upd Α rfl
 have nil:=yT (b:=.par n 0 .cq) dK η
 have K5:∀j,(∃k m g,c.tok j s=.ch k m g)->j≠0/\c.home j=s/\c.rel j=true/\Knows (t++#[y]) i (c.dw j):=λj ⟨k,m,g,δ⟩=>by
  obtain⟨a1,a2,_⟩:=h.bh.ou j s k m g δ;have ck:c.rel j=true:=(h.bh.gY j k m g a1 (by rw[a2];exact δ)).2 (by rw[rL j k m g δ];simp);obtain⟨op,bK,da,fP,l9,_⟩:=h.ea.c1 j a1 ck;rw[a2] at fP;exact⟨a1,a2,ck,Knows.marked bK fP l9 h.bS.norel rfl FF uT⟩
 have RZ:=h.eA.l8 s o Α uS;obtain⟨bH,eK,R0,R1,R2,R3,R4,jC,iU,FH,kJ,FI,FJ,FK⟩:∃(bH:cy->π) (eK:π),Fits eK w/\(o.aU≠none->o.bb o.L eK)/\(o.aU=none->eK=π.empty)/\Apart (c.H (.inl i)) eK/\Apart (c.H (.inr s)) eK/\
   bH (.inl i)=join (join (c.H (.inl i)) (c.H (.inr s))) eK/\(∀j,j≠i->bH (.inl j)=c.H (.inl j))/\(∀m,o.aU=some m->bH (.inr m)=π.empty)/\(∀b,b≠s->o.aU≠some b->bH (.inr b)=c.H (.inr b))/\
   h8 bH c.aG (upd c.O s (some o)) bl.heap.size/\gX bH c.aG (upd c.O s (some o)) bl w/\∀a,dm (t++#[y]) (jx (b0 c.tok i s (.par n 0 .cq)) (upd c.O s (some o)) (t++#[y]) a) (bH a):=by
  have oy:∀r q,upd c.O s (some o) r=some q->At r q w:=λr q Χ=>by
   rcases ku Α Χ with⟨rfl,rfl⟩|⟨_,b'⟩
   ·exact h.mem.fH _ _ Α
   ·exact h.mem.fH _ _ b'
  have wK:dm (t++#[y]) (Knows (t++#[y]) i) (join (c.H (.inl i)) (c.H (.inr s))):=
   ((h.bS.perms (.inl i)).own (λop Κ=>by simp at Κ;subst Κ;rfl)).join ((h.bS.perms (.inr s)).acquire h.bS.norel Α gu (by rw[dK];simp) rfl rfl uT)
  have K6:h8 (bL (bL c.H (.inl i) (join (c.H (.inl i)) (c.H (.inr s)))) (.inr s) π.empty) c.aG (upd c.O s (some o)) bl.heap.size:=
   h.hold.two η (Sub.refl _) (Sub.empty _) (Apart.s8 _) cK λx U=>by
    rcases U with e|e
    ·cases e;exact⟨s,o,Α,gu⟩
    ·cases e
  have K7:gX (bL (bL c.H (.inl i) (join (c.H (.inl i)) (c.H (.inr s)))) (.inr s) π.empty) c.aG (upd c.O s (some o)) bl w:=h.mem.two (yL (h.mem.fit _) (h.mem.fit _)) (uJ w) oy
  have uU:(Sum.inl i:cy)≠.inr s:=η;cases fr:o.aU with
  | none=>
   refine⟨bL (bL c.H (.inl i) (join (c.H (.inl i)) (c.H (.inr s)))) (.inr s) π.empty,π.empty,uJ w,λx=>absurd rfl x,λ_=>rfl,Apart.s8 _,Apart.s8 _,?_,λj δ=>?_,λm hm=>(by cases hm),λb hb _=>?_,K6,K7,λa=>?_⟩
   ·rw[bM _ _ uU,dC,FB]
   ·have fT:(Sum.inl j:cy)≠.inl i:=λe=>δ (by cases e;rfl);rw[bM _ _ η,bM _ _ fT]
   ·have fT:(Sum.inr b:cy)≠.inr s:=λe=>hb (by cases e;rfl);rw[bM _ _ fT,iv]
   ·by_cases Θ:a=.inr s
    ·subst Θ;rw[dC];exact dm.empty
    ·rw[bM _ _ Θ];by_cases Γ:a=.inl i
     ·subst Γ;rw[dC];exact wK
     ·rw[bM _ _ Γ];exact h.bS.wH a rfl cK nil
  | some m=>
   have hm:ep s o.toSpec m:=.inr fr
   have uV:m≠s:=h.hold.po s o m Α fr
   have uW:(Sum.inr m:cy)≠.inr s:=λe=>uV (by cases e;rfl)
   have K8:(Sum.inl i:cy)≠.inr m:=η
   have R5:∀j k L g,c.tok j s≠.ch k (.dj L) g:=λj k L g δ=>by
    rcases h.bh.ow j s k _ g o Α δ (by rw[rL j k _ g δ];simp) with e|⟨e,_⟩<;>cases e
   have R6:=h.eA.l7 s o m Α fr uS R5
   have R7:Apart (c.H (.inr s)) (c.H (.inr m)):=h.hold.apart _ _ (Ne.symm uW)
   have R8:Apart (c.H (.inl i)) (c.H (.inr m)):=h.hold.apart _ _ K8
   have dh:bL (bL c.H (.inl i) (join (c.H (.inl i)) (c.H (.inr s)))) (.inr s) π.empty (.inl i)=join (c.H (.inl i)) (c.H (.inr s)):=by rw[bM _ _ uU,dC]
   have c6:bL (bL c.H (.inl i) (join (c.H (.inl i)) (c.H (.inr s)))) (.inr s) π.empty (.inr m)=c.H (.inr m):=by rw[bM _ _ uW,iv]
   have R9:=K6.two (a:=.inl i) (b:=.inr m) (A:=join (join (c.H (.inl i)) (c.H (.inr s))) (c.H (.inr m))) (B:=π.empty) (O':=upd c.O s (some o)) η (by rw[dh,c6];exact Sub.refl _) (Sub.empty _) (Apart.s8 _) ⟨λs o' μ=>⟨o',μ,rfl⟩,λs o' μ=>⟨o',μ,rfl⟩⟩ λx U=>by
    rcases U with e|e
    ·cases e;exact⟨s,o,upd_same ..,hm⟩
    ·cases e
   have R':=K7.two (a:=.inl i) (b:=.inr m) (A:=join (join (c.H (.inl i)) (c.H (.inr s))) (c.H (.inr m))) (B:=π.empty) (O':=upd c.O s (some o)) (yL (yL (h.mem.fit _) (h.mem.fit _)) (h.mem.fit _)) (uJ w) oy;refine⟨_,c.H (.inr m),h.mem.fit _,λ_=>R6,λx=>(by cases x),R8,R7,?_,λj δ=>?_,λb1 dg=>?_,λb hb dF=>?_,R9,R',λa=>?_⟩
   ·rw[bM _ _ K8,dC]
   ·have fT:(Sum.inl j:cy)≠.inl i:=λe=>δ (by cases e;rfl);rw[bM _ _ η,bM _ _ fT,bM _ _ η,bM _ _ fT]
   ·cases dg;rw[dC]
   ·have fT:(Sum.inr b:cy)≠.inr s:=λe=>hb (by cases e;rfl)
    have BP:(Sum.inr b:cy)≠.inr m:=λe=>dF (by cases e;rfl);rw[bM _ _ BP,iv,bM _ _ fT,iv]
   ·by_cases bO:a=.inr m
    ·subst bO;rw[dC];exact dm.empty
    ·rw[bM _ _ bO];by_cases Γ:a=.inl i
     ·subst Γ;rw[dC];refine wK.join ((h.bS.perms (.inr m)).mZ rfl λk ψ=>?_);rcases ψ with⟨p,op,a1,a2,ck,fY⟩|ψ
      ·obtain⟨oz,da⟩:=h.gd.iO s o m Α fr p op a1 a2;obtain⟨_,_,c3,c4⟩:=K5 op.g oz;have hb:=(da c3).app #[y];refine Knows.of_before ?_ c4;rcases hb with e|hb
       ·rw[<-e];exact fY.app _
       ·exact .inr ((fY.app #[y]).hb hb)
      ·exact(ψ s o Α hm i (by rw[dK];simp)).app _
     ·rw[bM _ _ Γ];by_cases Θ:a=.inr s
      ·subst Θ;rw[dC];exact dm.empty
      ·rw[bM _ _ Θ,bM _ _ Γ];exact h.bS.wH a rfl cK nil
 have Sa:Apart (c.H (.inl i)) (c.H (.inr s)):=h.hold.apart _ _ η
 have bm:=FC o.aj o.L (c.H (.inr s)) eK K4 RZ (λx=>⟨jB x,R1 x⟩) R2 Sa R3 R4 ⟨w,h.mem.fit _,h.mem.fit _,R0⟩
 let de:aW:={c.x i with G:=join (join (c.H (.inl i)) (c.H (.inr s))) eK,tok:=upd (c.tok i) s (.par n 0 .cq),view:=upd (c.view i) s none}
 let c':c0:={c with H:=bH,tok:=b0 c.tok i s (.par n 0 .cq),view:=upd c.view i (upd (c.view i) s none),O:=upd c.O s (some o),T:=upd c.T i (f (i==0,g',de))}
 have nv:c'.x i=de:=by simp[c',de,c0.x,upd_same,uR,jC]
 have rI:∀j r,¬(j=i/\r=s)->b0 c.tok i s (.par n 0 .cq) j r=c.tok j r:=λj r e=>e0 _ e
 have K9:∀r q b,c.O r=some q->r≠s->ep r q.toSpec b->b≠s/\o.aU≠some b:=λr q b Χ ι hb=>⟨λe=>ι (h.hold.kE r s q o b Χ Α hb (.inl e)),λe=>ι (h.hold.kE r s q o b Χ Α hb (.inr e))⟩;refine hP.go (c':=c') Ο μ ?_ _ rfl;rw[ofEvents_one];refine h.laid (c':=c') Ο FJ FI (h.bS.word (i:=i) rfl (.inl rfl) (h.low Α gu) cK (λ_ _ _ x=>x) FK) (h.bh.gtake Α dK iQ) ⟨λr q b1 Χ dg bA ia=>?_,λr q Χ bA=>?_⟩ ?_
  (h.gd.app h.bS.low (λop Κ b hb=>by simp at Κ;subst Κ;cases hb) (λj b v hv=>.inl ⟨v,hv⟩) (λr q Χ=>?_) (λj r af mu g e=>yU dK (λk m g e=>?_) j r af mu g e))
  ⟨g',?_,.inl rfl⟩ (λj δ=>⟨?_,upd_ne _ _ δ⟩) (.inr λj r q _ a b=>?_)
 ·rcases ku Α Χ with⟨rfl,rfl⟩|⟨e,b'⟩
  ·exact absurd (e8 ..) (bA i n 0)
  ·obtain⟨Γ,Θ⟩:=K9 r q b1 b' e (.inr dg);show q.bb q.L (bH (.inr b1));rw[kJ b1 Γ Θ];exact h.eA.l7 r q b1 b' dg (λj q p x=>bA j q p (by show b0 c.tok i s _ j r=_;rw[rI j r (λy=>e y.2)];exact x)) λj k L g x=>ia j k L g (by show b0 c.tok i s _ j r=_;rw[rI j r (λy=>e y.2)];exact x)
 ·rcases ku Α Χ with⟨rfl,rfl⟩|⟨e,b'⟩
  ·exact absurd (e8 ..) (bA i n 0)
  ·obtain⟨Γ,Θ⟩:=K9 r q r b' e (.inl rfl);show lu q.D q.aj (bH (.inr r));rw[kJ r Γ Θ];exact h.eA.l8 r q b' (λj q p x=>bA j q p (by show b0 c.tok i s _ j r=_;rw[rI j r (λy=>e y.2)];exact x))
 ·refine⟨λaf g' ib=>?_,λj fy δ=>?_,λj fy δ bA=>?_,λj fy δ a b=>(h.ea.c3 j fy δ a b).app _⟩
  ·obtain⟨op,Κ,hl⟩:=Option.map_eq_some_iff.1 ib;rcases getElem?_append_cases Κ with⟨_,kI⟩|⟨_,gf⟩
   ·exact h.ea.dQ af g' (by simp[Trace.g?,kI,hl])
   ·simp at gf;subst gf;rw[<-hl];exact a4
  ·obtain⟨op,a1,a2,ck,fY,hA⟩:=h.ea.c1 j fy δ;have ς:=lt_size_of_getElem? a1;refine⟨op,by rw[getElem?_append_old ς];exact a1,a2,ck,(heard_old ς).2 fY,λaf ib ε=>?_⟩;obtain⟨rJ,Κ,hl⟩:=Option.map_eq_some_iff.1 ib;rcases getElem?_append_cases Κ with⟨qL,kI⟩|⟨hle,gf⟩
   ·exact(hA af (by simp[Trace.g?,kI,hl]) ((yN qL).1 ε)).app _
   ·exact absurd ε (wF (u:=#[y]) (λop Κ=>by simp at Κ;subst Κ;rfl) af hle)
  ·obtain⟨q,p,Χ⟩:=bA;by_cases e:c.bx (c.home j)=i/\c.home j=s
   ·obtain⟨Γ,Θ⟩:=e;show Knows _ (c.bx (c.home j)) (c.dw j);rw[Γ];have fg:j<gs.size:=by
     obtain⟨op,a1,a2,_⟩:=h.ea.c1 j fy δ;exact h.ea.dQ (c.dw j) j (by simp[Trace.g?,a1,a2])
    obtain⟨bG,eD,ah,eC⟩:=h.bh.rH j fy fg;rw[Θ] at eC;exact(K5 j ⟨bG,eD,ah,eC⟩).2.2.2
   ·refine(h.ea.c2 j fy δ ⟨q,p,?_⟩).app _;have:b0 c.tok i s (.par n 0 .cq) (c.bx (c.home j)) (c.home j)=.par q p .cq:=Χ
    rwa [rI _ _ e] at this
 ·rcases ku Α Χ with⟨rfl,rfl⟩|⟨_,b'⟩
  ·exact⟨_,Α,rfl⟩
  ·exact⟨q,b',rfl⟩
 ·cases e
 ·rw[nv];show jw P Q (upd c.T i (f (i==0,g',de)) i) _ _ _;rw[upd_same];exact bm
 ·simp[c',c0.x,upd_ne _ _ δ,rM _ δ,iU j δ]
 ·exact⟨q,by show upd c.O s (some o) r=some q;rw[BJ Α];exact a,b⟩
end
section
variable {n:Nat} {tok:Nat->Nat->Tok} {spec:Nat->Nat->Option Spec} {view:Nat->Nat->Option (Nat×aN)} {rel:Nat->Bool} {O:Nat->Option aN} {bx home:Nat->Nat} {s i:Nat} {o:aN}
theorem eR.fork (h:eR n tok spec view rel O bx home) (μ:O s=some o) {q p:Nat} (Ν:tok i s=.par q (p+1) .add) :
  eR (n+1) (upd (b0 tok i s (.par q p .add)) n (upd (λ_=>.nil) s (.ch (q-(p+1)) .idle .work))) (upd spec n (upd (λ_=>none) s (some o.toSpec))) (upd (upd view i (upd (view i) s none)) n λ_=>none) (upd rel n false) O bx (upd home n s):=by
 have a4:i<n:=h.lt (s:=s) (by rw[Ν];simp)
 have kK:n≠i:=γ
 have qK:=h.par i s q (p+1) .add Ν
 have c5:=(h.fS s o μ).2
 have Χ:p+1<=q:=by
  have Γ:a8 n (λa=>tok a s) h6=q:=by
   rw[pn (φ:=h6) (λt Ν=>by cases t<;>simp_all [eT,h6]) c5.np a4 (by rw[Ν];rfl),Ν];rfl
  have Θ:a8 n (λa=>tok a s) hf=p+1:=by
   rw[pn (φ:=hf) (λt Ν=>by cases t<;>simp_all [eT,hf]) c5.np a4 (by rw[Ν];rfl),Ν];rfl
  have:=c5.J';omega
 generalize kL:upd (b0 tok i s (.par q p .add)) n (upd (λ_=>.nil) s (.ch (q-(p+1)) .idle .work))=eB;have yX:eB n s=.ch (q-(p+1)) .idle .work:=by rw[<-kL,upd_same,upd_same]
 have FL:∀r,r≠s->eB n r=.nil:=λr ι=>by rw[<-kL,upd_same,upd_ne _ _ ι]
 have kM:eB i s=.par q p .add:=by rw[<-kL,upd_ne _ _ (Ne.symm kK),e8]
 have to:∀j r,j≠n->¬(j=i/\r=s)->eB j r=tok j r:=λj r I R=>by rw[<-kL,upd_ne _ _ I,e0 _ R]
 have pt:∀j r,r≠s->eB j r=tok j r:=λj r ι=>by
  by_cases e:j=n
  ·subst e;rw[FL r ι,h.out _ r (Nat.le_refl _)]
  ·exact to j r e λx=>ι x.2
 have BQ:(λj=>eB j s)=upd (upd (λj=>tok j s) i (.par q p .add)) n (.ch (q-(p+1)) .idle .work):=by
  funext j
  by_cases e:j=n
  ·subst e;rw[yX,upd_same]
  ·rw[upd_ne _ _ e];by_cases aH:j=i
   ·subst aH;rw[kM,upd_same]
   ·rw[upd_ne _ _ aH,to j s e λx=>aH x.1]
 have La:∀r,r≠s->(λj=>eB j r)=λj=>tok j r:=λr ι=>funext λj=>pt j r ι
 have wL:∀r,(λj=>tok j r) n=.nil:=λr=>h.out n r (Nat.le_refl _)
 have iN:∀j r k m g,eB j r=.ch k m g->(j=n/\r=s/\k=q-(p+1)/\m=.idle/\g=.work)\/(j≠n/\¬(j=i/\r=s)/\tok j r=.ch k m g):=λj r k m g δ=>by
  by_cases e:j=n
  ·subst e;by_cases aH:r=s
   ·subst aH;rw[yX] at δ;cases δ;exact .inl ⟨rfl,rfl,rfl,rfl,rfl⟩
   ·rw[FL r aH] at δ;cases δ
  ·by_cases aH:j=i/\r=s
   ·obtain⟨rfl,rfl⟩:=aH;rw[kM] at δ;cases δ
   ·rw[to j r e aH] at δ;exact .inr ⟨e,aH,δ⟩
 have FM:∀j r m e9 aF,eB j r=.par m e9 aF->(j=i/\r=s/\m=q/\e9=p/\aF=.add)\/(j≠n/\r≠s/\tok j r=.par m e9 aF)\/(j≠n/\j≠i/\r=s/\tok j r=.par m e9 aF):=λj r m e9 aF δ=>by
  by_cases e:j=n
  ·subst e;by_cases aH:r=s
   ·subst aH;rw[yX] at δ;cases δ
   ·rw[FL r aH] at δ;cases δ
  ·by_cases aH:j=i/\r=s
   ·obtain⟨rfl,rfl⟩:=aH;rw[kM] at δ;cases δ;exact .inl ⟨rfl,rfl,rfl,rfl,rfl⟩
   ·rw[to j r e aH] at δ;by_cases Θ:r=s
    ·exact .inr (.inr ⟨e,λx=>aH ⟨x,Θ⟩,Θ,δ⟩)
    ·exact .inr (.inl ⟨e,Θ,δ⟩)
 have FN:∀j r k m g,tok j r=.ch k m g->j≠n/\eB j r=.ch k m g:=λj r k m g δ=>by
  have fg:j≠n:=λe=>by rw[e,h.out n r (Nat.le_refl _)] at δ;cases δ
  refine⟨fg,?_⟩;rw[to j r fg λe=>?_]
  ·exact δ
  ·obtain⟨rfl,rfl⟩:=e;rw[Ν] at δ;cases δ
 have eΨ:eJ (n+1) o (λj=>eB j s)<eJ n o (λj=>tok j s):=by
  rw[BQ,<-Kg (N:=n) (τ:=λj=>tok j s) (wL s)];exact Q6 (N:=n+1) γ γ (Ne.symm kK) Ν (wL s) _
 refine⟨λr iT ι=>?_,λr ι j=>?_,λj r δ=>?_,λj r sp δ=>?_,λj r φ dG δ=>?_,λj r k L g iT b' δ=>?_,λj r m e9 aF δ=>?_,λj r k m g δ=>?_,λj ao δ=>?_,λj k m g ao δ=>?_,?_,λj r δ ι=>?_,λj r k m g iT b' δ Ο=>?_,λr j bI k m g b1 g' I R=>?_,λr j k m g iT e9 aF I R=>?_,λr iT ι=>?_,λr iT ι=>?_⟩
 ·by_cases e:r=s
  ·subst e;rw[μ] at ι;cases ι;rw[BQ];exact Q5 (Kf (h.fS r o μ) (wL r)) γ γ (Ne.symm kK) Ν (wL r) _
  ·rw[La r e];exact Kf (h.fS r iT ι) (wL r)
 ·have e:r≠s:=λe=>by rw[e,μ] at ι;cases ι
  rw[pt j r e];exact h.bare r ι j
 ·rw[to j r γ (λx=>γ)];exact h.out j r γ
 ·by_cases e:j=n
  ·subst e;rw[upd_same] at δ;by_cases aH:r=s
   ·subst aH;rw[upd_same] at δ;cases δ;exact⟨o,μ,rfl⟩
   ·rw[upd_ne _ _ aH] at δ;cases δ
  ·rw[upd_ne _ _ e] at δ;exact h.qD j r sp δ
 ·have old:∀j r φ dG,view j r=some (φ,dG)->∃iS,O r=some iS/\eJ (n+1) iS (λa=>eB a r)<=φ/\(eJ (n+1) iS (λa=>eB a r)=φ->iS=dG):=λj r φ dG hv=>by
   obtain⟨iS,I,R,ν⟩:=h.uF j r φ dG hv;refine⟨iS,I,?_⟩;by_cases e:r=s
   ·subst e;rw[μ] at I;cases I;exact⟨γ,λx=>γ⟩
   ·rw[La r e,Kg (N:=n) (τ:=λj=>tok j r) (wL r)];exact⟨R,ν⟩
  by_cases e:j=n
  ·subst e;rw[upd_same] at δ;cases δ
  ·rw[upd_ne _ _ e] at δ;by_cases aH:j=i
   ·subst aH;rw[upd_same] at δ;by_cases Θ:r=s
    ·subst Θ;rw[upd_same] at δ;cases δ
    ·rw[upd_ne _ _ Θ] at δ;exact old _ _ _ _ δ
   ·rw[upd_ne _ _ aH] at δ;exact old _ _ _ _ δ
 ·rcases iN j r k _ g δ with⟨_,_,_,Ι,_⟩|⟨_,_,ν⟩
  ·cases Ι
  ·exact h.dj j r k L g iT b' ν
 ·rcases FM j r m e9 aF δ with⟨rfl,rfl,_⟩|⟨_,_,ν⟩|⟨_,_,_,ν⟩
  ·exact qK
  ·exact h.par j r m e9 aF ν
  ·exact h.par j r m e9 aF ν
 ·rcases iN j r k m g δ with⟨rfl,rfl,_⟩|⟨fg,_,ν⟩
  ·exact⟨γ,upd_same ..,γ⟩
  ·obtain⟨a1,a2,ck⟩:=h.ou j r k m g ν;exact⟨a1,by rw[upd_ne _ _ fg];exact a2,ck⟩
 ·by_cases e:j=n
  ·subst e;rw[upd_same];exact⟨_,_,_,yX⟩
  ·rw[upd_ne _ _ e];obtain⟨k,m,g,I⟩:=h.rH j ao γ;exact⟨k,m,g,(FN j _ k m g I).2⟩
 ·by_cases e:j=n
  ·subst e;rw[upd_same] at δ;rw[yX] at δ;cases δ;rw[upd_same];simp
  ·rw[upd_ne _ _ e] at δ;rw[upd_ne _ _ e];rcases iN j _ k m g δ with⟨x,_⟩|⟨_,_,ν⟩
   ·exact absurd x e
   ·exact h.gY j k m g ao ν
 ·rw[upd_ne _ _ (show(0:Nat)≠n by omega)];exact h.s5
 ·by_cases e:j=n
  ·subst e;rw[upd_same] at δ;cases δ
  ·rw[upd_ne _ _ e] at δ ι;have:=h.ov j r δ ι;rw[to j r e λx=>?_]
   ·exact this
   ·obtain⟨rfl,rfl⟩:=x;rw[Ν] at this;exact this
 ·rcases iN j r k m g δ with⟨_,_,_,_,Ι⟩|⟨_,_,ν⟩
  ·exact absurd Ι Ο
  ·exact h.ow j r k m g iT b' ν Ο
 ·have key:∀j k m g,tok j s=.ch k m g->k<q-(p+1):=λj k m g δ=>by
   have:=h.s6 s j k m g q (p+1) .add δ (by rw[<-qK];exact Ν);omega
  rcases iN j r k m g I with⟨rfl,rfl,ck,_⟩|⟨_,_,ν⟩<;>rcases iN bI r k b1 g' R with⟨rfl,da,fP,_⟩|⟨_,_,Ι⟩
  ·rfl
  ·have:=key bI k b1 g' Ι;omega
  ·subst da;have:=key j k m g ν;omega
  ·exact h.uG r j bI k m g b1 g' ν Ι
 ·rcases iN j r k m g I with⟨_,rfl,ck,_⟩|⟨_,_,ν⟩
  ·rcases FM _ r iT e9 aF R with⟨_,_,rfl,rfl,_⟩|⟨_,x,_⟩|⟨_,x,_⟩
   ·omega
   ·exact absurd rfl x
   ·exact absurd qK.symm x
  ·rcases FM _ r iT e9 aF R with⟨_,rfl,rfl,rfl,_⟩|⟨_,_,Ι⟩|⟨_,x,rfl,Ι⟩
   ·have:=h.s6 r j k m g iT (e9+1) .add ν (by rw[<-qK];exact Ν);omega
   ·exact h.s6 r j k m g iT e9 aF ν Ι
   ·exact absurd qK.symm x
 ·obtain⟨a,b⟩:=h.fx r iT ι;refine⟨a,λk=>(b k).trans ⟨λ⟨j,m,g,Γ,Θ⟩=>⟨j,m,g,(FN j r k m g Γ).2,Θ⟩,λ⟨j,m,g,Γ,Θ⟩=>?_⟩⟩;rcases iN j r k m g Γ with⟨_,_,_,Ι,_⟩|⟨_,_,ν⟩
  ·subst Ι;exact Θ.elim
  ·exact⟨j,m,g,ν,Θ⟩
 ·obtain⟨a,b⟩:=h.gb r iT ι;refine⟨a,λk=>(b k).trans ⟨λ⟨j,m,g,Γ,Θ⟩=>⟨j,m,g,(FN j r k m g Γ).2,Θ⟩,λ⟨j,m,g,Γ,Θ⟩=>?_⟩⟩;rcases iN j r k m g Γ with⟨_,_,_,_,Ι⟩|⟨_,_,ν⟩
  ·exact absurd Ι Θ
  ·exact⟨j,m,g,ν,Θ⟩
def aN.new (sp:Spec):aN:={toSpec:=sp,cb:=0,wk:=0,sv:=0,nw:=0,cZ:=0,L:=[],cnt:=0,wt:=0,cB:=0,aj:=[]}
theorem Sb (N:Nat) (φ:Tok->Nat) (ez:φ .nil=0):a8 N (λ_=>.nil) φ=0:=by
 induction N with
 | zero=>rfl
 | succ N ω=>rw[uB,ω,ez]
theorem eR.Sc (h:eR n tok spec view rel O bx home) (μ:O s=none) (a4:i<n) (ι:rel i=false) (sp:Spec) :
  eR n (b0 tok i s (.par 0 0 .add)) (upd spec i (upd (spec i) s (some sp))) (upd view i (upd (view i) s none)) rel (upd O s (some (aN.new sp))) (upd bx s i) home:=by
 have hb:=h.bare s μ
 have aX:∀j,j≠0->j<n->home j≠s:=λj ao δ e=>by
  obtain⟨k,m,g,I⟩:=h.rH j ao δ;rw[e,hb j] at I;cases I
 have BQ:(λj=>b0 tok i s (.par 0 0 .add) j s)=upd (λ_=>.nil) i (.par 0 0 .add):=by
  rw[Ky];have:(λj=>tok j s)=λ_=>.nil:=funext hb;rw[this]
 have pt:∀j r,r≠s->b0 tok i s (.par 0 0 .add) j r=tok j r:=λj r ι=>e0 _ λx=>ι x.2
 have iN:∀j r k m g,b0 tok i s (.par 0 0 .add) j r=.ch k m g↔tok j r=.ch k m g:=λj r k m g=>by
  by_cases e:j=i/\r=s
  ·obtain⟨rfl,rfl⟩:=e;rw[e8,hb];simp
  ·rw[e0 _ e]
 have wM:∀j k m g,tok j s≠.ch k m g:=λj k m g e=>by rw[hb] at e;cases e
 have gZ:∀r q,upd O s (some (aN.new sp)) r=some q->(r=s/\q=aN.new sp)\/(r≠s/\O r=some q):=λr q Χ=>by
  by_cases e:r=s
  ·subst e;rw[upd_same] at Χ;cases Χ;exact .inl ⟨rfl,rfl⟩
  ·rw[upd_ne _ _ e] at Χ;exact .inr ⟨e,Χ⟩
 have one:∀φ:Tok->Nat,φ .nil=0->a8 n (upd (λ_=>.nil) i (.par 0 0 .add)) φ=φ (.par 0 0 .add):=λφ ez=>by
  have e:=gr (N:=n) (λ_=>.nil) (.par 0 0 .add) φ a4;rw[Sb n φ ez] at e;simp only[ez] at e;omega
 refine⟨λr q Χ=>?_,λr ι j=>?_,λj r δ=>?_,λj r Lb δ=>?_,λj r φ dG δ=>?_,λj r k L g q Χ δ=>?_,λj r m p aF δ=>?_,λj r k m g δ=>?_,λj ao δ=>?_,λj k m g ao δ=>?_,h.s5,λj r δ fh=>?_,λj r k m g q Χ δ Ο=>?_,λr j bI k m g b1 g' I R=>?_,λr j k m g q p aF I R=>?_,λr q ι=>?_,λr q ι=>?_⟩
 ·rcases gZ r q Χ with⟨rfl,rfl⟩|⟨e,b'⟩
  ·rw[BQ];constructor
   ·unfold pj;rw[one h5 rfl,one nm rfl,one lX rfl,one lj rfl,one mS rfl,one lk rfl,one qy rfl,one nn rfl,one qx rfl];constructor<;>simp[aN.new,h5,nm,lX,lj,mS,lk,qy,nn,qx]
   ·unfold oe;rw[one iM rfl,one jX rfl,one jY rfl,one ll rfl,one eT rfl,one hf rfl,one h6 rfl,one lY rfl,one ln rfl,one h7 rfl];constructor<;>simp[aN.new,iM,jX,jY,ll,eT,hf,h6,lY,ln,h7]
  ·rw[Fo _ _ _ _ e];exact h.fS r q b'
 ·have e:r≠s:=λe=>by rw[e,upd_same] at ι;cases ι
  rw[upd_ne _ _ e] at ι;rw[pt j r e];exact h.bare r ι j
 ·rw[e0 _ (λx=>γ)];exact h.out j r δ
 ·by_cases e:j=i
  ·subst e;rw[upd_same] at δ;by_cases aH:r=s
   ·subst aH;rw[upd_same] at δ;cases δ;exact⟨_,upd_same ..,rfl⟩
   ·rw[upd_ne _ _ aH] at δ;obtain⟨q,a,b⟩:=h.qD j r Lb δ;exact⟨q,by rw[upd_ne _ _ aH];exact a,b⟩
  ·rw[upd_ne _ _ e] at δ;obtain⟨q,a,b⟩:=h.qD j r Lb δ;have aH:r≠s:=λaH=>by rw[aH,μ] at a;cases a
   exact⟨q,by rw[upd_ne _ _ aH];exact a,b⟩
 ·have old:∀j r φ dG,view j r=some (φ,dG)->∃iS,upd O s (some (aN.new sp)) r=some iS/\eJ n iS (λa=>b0 tok i s (.par 0 0 .add) a r)<=φ/\(eJ n iS (λa=>b0 tok i s (.par 0 0 .add) a r)=φ->iS=dG):=λj r φ dG hv=>by
   obtain⟨iS,a,b⟩:=h.uF j r φ dG hv;have aH:r≠s:=λaH=>by rw[aH,μ] at a;cases a
   exact⟨iS,by rw[upd_ne _ _ aH];exact a,by rw[Fo _ _ _ _ aH];exact b⟩
  by_cases e:j=i
  ·subst e;rw[upd_same] at δ;by_cases aH:r=s
   ·subst aH;rw[upd_same] at δ;cases δ
   ·rw[upd_ne _ _ aH] at δ;exact old _ _ _ _ δ
  ·rw[upd_ne _ _ e] at δ;exact old _ _ _ _ δ
 ·rw[iN] at δ;rcases gZ r q Χ with⟨rfl,rfl⟩|⟨e,b'⟩
  ·exact absurd δ (wM _ _ _ _)
  ·exact h.dj j r k L g q b' δ
 ·by_cases e:j=i/\r=s
  ·obtain⟨rfl,rfl⟩:=e;rw[upd_same]
  ·rw[e0 _ e] at δ;have aH:r≠s:=λaH=>by rw[aH,hb] at δ;cases δ
   rw[upd_ne _ _ aH];exact h.par j r m p aF δ
 ·rw[iN] at δ;have aH:r≠s:=λaH=>by rw[aH] at δ;exact wM _ _ _ _ δ
  rw[upd_ne _ _ aH];exact h.ou j r k m g δ
 ·obtain⟨k,m,g,I⟩:=h.rH j ao δ;exact⟨k,m,g,(iN _ _ _ _ _).2 I⟩
 ·rw[iN] at δ;exact h.gY j k m g ao δ
 ·have e:j≠i:=λe=>by rw[e,ι] at δ;cases δ
  rw[rM _ e];exact h.ov j r δ fh
 ·rw[iN] at δ;rcases gZ r q Χ with⟨rfl,rfl⟩|⟨e,b'⟩
  ·exact absurd δ (wM _ _ _ _)
  ·exact h.ow j r k m g q b' δ Ο
 ·rw[iN] at I R;exact h.uG r j bI k m g b1 g' I R
 ·rw[iN] at I;have aH:r≠s:=λaH=>by rw[aH] at I;exact wM _ _ _ _ I
  rw[upd_ne _ _ aH,pt _ _ aH] at R;exact h.s6 r j k m g q p aF I R
 ·simp only[iN];rcases gZ r q ι with⟨rfl,rfl⟩|⟨e,b'⟩
  ·exact⟨List.nodup_nil,λk=>⟨λx=>(by cases x),λ⟨j,m,g,x,_⟩=>absurd x (wM _ _ _ _)⟩⟩
  ·exact h.fx r q b'
 ·simp only[iN];rcases gZ r q ι with⟨rfl,rfl⟩|⟨e,b'⟩
  ·exact⟨List.nodup_nil,λk=>⟨λx=>(by cases x),λ⟨j,m,g,x,_⟩=>absurd x (wM _ _ _ _)⟩⟩
  ·exact h.gb r q b'
end
theorem Sd (t:Trace) (u:Trace) {k:Nat} (hu:∀op∈u,op.g≠k):Deaf (t++u) k=Deaf t k:=by
 obtain⟨l⟩:=u;rw[Deaf_append]
 induction l generalizing t with
 | nil=>rfl
 | cons y l ω=>
  have Φ:y.g≠k:=hu y η
  have Γ:deafStep k (Deaf t k) y=Deaf t k:=by
   unfold deafStep;split<;>simp[Φ]
  rw[List.foldl_cons,Γ];exact ω t (λop Κ=>hu op (by simp at Κ ⊢;exact .inr Κ))
theorem Se {said:Bool} {t:Trace} {y z:MemOp} (h:¬Race said t) (nt:∀op∈(#[y,z]:Trace),op.act.touch?=none):¬Race said (t++#[y,z]):=by
 have e:t++#[y,z]=(t++#[y])++#[z]:=by rw[Array.append_assoc];rfl
 rw[e];refine noRace_append (g:=z.g) (noRace_append (g:=y.g) h (λop Κ=>by simp at Κ;rw[Κ]) λk a _ op Κ b hb _=>?_) (λop Κ=>by simp at Κ;rw[Κ]) λk a _ op Κ b hb _=>?_
 ·simp at Κ;subst Κ;rw[nt op η] at hb;cases hb
 ·simp at Κ;subst Κ;rw[nt op η] at hb;cases hb
section
variable {P:Program} {Q:Value->Prop} {bl:World} {c c':c0} {gs:Array Goroutine} {w w':World} {t:Trace} {i:Nat} {g g':Goroutine} {es:Array Event}
variable {f:Bool×Goroutine×aW->ga (Bool×Goroutine×aW)}
theorem Inv.FO (h:Inv P Q bl c gs w t) (Ο:gs[i]?=some g) (ψ:Kq P (i==0) (lz P Q f) g (c.x i)):hP P Q bl c gs w t i f:=by
 obtain⟨s,sp,n,p,g',ch,mU,mV,I,ν,Ι,aB,sZ,bn,cT,mc,bm,Sf⟩:=ψ;have a4:i<gs.size:=mb Ο;obtain⟨o,Α,b2⟩:=h.bh.qD i s sp I;subst b2;have dK:c.tok i s=.par n (p+1) .add:=ν;have hd:c.deaf i=0:=Ι;have ee:c.rel i=false:=bn;have μ:=cT w (h.mem.fit (.inl i));have kK:gs.size≠i:=γ;let N:=gs.size;let y:MemOp:={g:=i,fn:=g.frame.fn,pos:=g.frame.place,act:=.go gs.size};let z:MemOp:={g:=gs.size,fn:=ch.frame.fn,pos:=g.frame.place,act:=.start};have uT:Deaf t i=0:=by rw[h.bS.hears];exact hd
 have pv:Deaf t gs.size=0:=by
  have:=Sd #[] t (k:=gs.size) (λop Κ e=>by
   obtain⟨k,ψ⟩:=Array.mem_iff_getElem?.1 Κ;have:=h.ea.dQ k op.g (by simp[Trace.g?,ψ]);omega)
  rw[Array.empty_append] at this;exact this
 let BR:aW:={c.x i with G:=mU,tok:=upd (c.tok i) s (.par n p .add),view:=upd (c.view i) s none}
 let BS:aW:=⟨mV,λ_=>none,upd (λ_=>.nil) s (.ch (n-(p+1)) .idle .work),upd (λ_=>none) s (some o.toSpec),λ_=>none,0,false⟩
 let eB:=upd (b0 c.tok i s (.par n p .add)) gs.size (upd (λ_=>.nil) s (.ch (n-(p+1)) .idle .work))
 let c':c0:={c with H:=bL (bL c.H (.inl i) mU) (.inl gs.size) mV,aG:=upd c.aG gs.size (λ_=>none),tok:=eB,spec:=upd c.spec gs.size (upd (λ_=>none) s (some o.toSpec)),view:=upd (upd c.view i (upd (c.view i) s none)) gs.size λ_=>none,deaf:=upd c.deaf gs.size 0,rel:=upd c.rel gs.size false,home:=upd c.home gs.size s,T:=upd (upd c.T i (f (i==0,g',BR))) gs.size (f (false,ch,BS))}
 have Sg:=h.bh.fork Α dK
 have dR:=runT_crowd_spawn (sl:=none) Ο μ
 have Si:((MemOp.ofEvents i g.frame.fn g.frame.place #[]).push {g:=i,fn:=g.frame.fn,pos:=g.frame.place,act:=.go gs.size} |>.push {g:=gs.size,fn:=ch.frame.fn,pos:=g.frame.place,act:=.start})=#[y,z]:=by rw[KQ];rfl
 have Lc:(Sum.inl i:cy)≠.inl gs.size:=λe=>kK (by cases e;rfl)
 have Sj:∀r,eB gs.size r≠.nil->r=s:=λr ι=>by
  apply Classical.byContradiction;intro e;apply ι;show upd (b0 c.tok i s (.par n p .add)) gs.size (upd (λ_=>.nil) s (.ch (n-(p+1)) .idle .work)) gs.size r=.nil;rw[upd_same,upd_ne _ _ e]
 have BT:∀j,j≠gs.size->eB j=b0 c.tok i s (.par n p .add) j:=λj δ=>upd_ne _ _ δ
 have Sk:∀j r,j≠gs.size->eB j r≠.nil->c.tok j r≠.nil:=λj r δ ι=>by
  rw[BT j δ] at ι;exact yT dK η j r ι
 have te:∀j r q e9,eB j r=.par q e9 .cq↔c.tok j r=.par q e9 .cq:=λj r q e9=>by
  by_cases e:j=gs.size
  ·subst e;rw[h.bh.out gs.size r (Nat.le_refl _)];show upd (b0 c.tok i s (.par n p .add)) gs.size (upd (λ_=>.nil) s (.ch (n-(p+1)) .idle .work)) gs.size r=_↔_;rw[upd_same];by_cases aH:r=s
   ·subst aH;rw[upd_same];simp
   ·rw[upd_ne _ _ aH]
  ·rw[BT j e];exact BM dK η η j r q e9
 have Fz:∀j r k L g,c.tok j r=.ch k (.dj L) g->eB j r=.ch k (.dj L) g:=λj r k L g δ=>by
  have e:j≠gs.size:=λe=>by rw[e,h.bh.out _ r (Nat.le_refl _)] at δ;cases δ
  rw[BT j e,e0 _ λx=>?_]
  ·exact δ
  ·obtain⟨rfl,rfl⟩:=x;rw[dK] at δ;cases δ
 have e3:∀j,j≠gs.size->c'.rel j=c.rel j:=λj δ=>upd_ne _ _ δ
 have BU:∀j,c'.rel j=true->j≠gs.size:=λj δ e=>by
  subst e;have:upd c.rel gs.size false gs.size=true:=δ;rw[upd_same] at this;cases this
 have fI:∀j b v,upd c.aG gs.size (λ_=>none) j b=some v->c.aG j b=some v:=λj b v hv=>by
  by_cases e:j=gs.size
  ·subst e;rw[upd_same] at hv;cases hv
  ·rw[upd_ne _ _ e] at hv;exact hv
 have nt:∀op∈(#[y,z]:Trace),op.act.touch?=none:=λop Κ=>by simp at Κ;rcases Κ with rfl|rfl<;>rfl
 have BV:∀op∈(#[y,z]:Trace),∀m,op.act≠.mark m:=λop Κ m=>by simp at Κ;rcases Κ with rfl|rfl<;>simp[y,z]
 have Ld:∀k,Knows t i k->Knows (t++#[y,z]) gs.size k:=λk ψ=>Knows.spawn ψ rfl rfl rfl rfl uT pv
 have Sl:∀a k,jx c.tok c.O t a k->jx eB c.O (t++#[y,z]) a k:=λa k ψ=>by
  cases a with
  | inl j=>exact Knows.app _ ψ
  | inr b=>
   rcases ψ with⟨p,op,I,R,ν,Ι⟩|ψ
   ·have ς:=lt_size_of_getElem? I;exact .inl ⟨p,op,by rw[getElem?_append_old ς];exact I,R,(heard_old ς).2 ν,Ι.app _⟩
   ·refine .inr λbq o' iK hb j δ=>?_;by_cases e:j=gs.size
    ·subst e;have:=Sj bq δ;subst this;exact Ld k (ψ _ o' iK hb i (by rw[dK];simp))
    ·exact(ψ bq o' iK hb j (Sk j bq e δ)).app _
 have Le:∀a,dm (t++#[y,z]) (jx eB c.O (t++#[y,z]) a) (c.H a):=λa=>
  (h.bS.perms a).others (Sl a) λop Κ x U=>by rw[nt op Κ] at U;cases U
 have hinv:Inv P Q bl c' ((gs.setIfInBounds i g').push ch) w (t++#[y,z]):=by
  have cC:((gs.setIfInBounds i g').push ch).size=gs.size+1:=η;refine⟨by rw[cC];omega,(h.mem.two (mc.l.fits (h.mem.fit (.inl i))) (mc.r.fits (h.mem.fit (.inl i))) h.mem.fH).wI fI,(h.hold.two Lc mc.l.qE mc.r.qE mc.apart ⟨λs o μ=>⟨o,μ,rfl⟩,λs o μ=>⟨o,μ,rfl⟩⟩ λx U=>by rcases U with e|e<;>cases e).wI fI,?_,by rw[cC];exact Sg,?_,?_,?_,?_⟩
  ·refine⟨λsaid=>Se (h.bS.race said) nt,λop Κ=>?_,λop Κ a=>?_,λa=>?_,λj b v hv k a ψ=>?_,λbq o' b iK hb k a ψ fe=>?_,λj=>?_⟩
   ·rcases Array.mem_append.1 Κ with Κ|Κ
    ·exact h.bS.low op Κ
    ·simp at Κ;rcases Κ with rfl|rfl<;>trivial
   ·rcases Array.mem_append.1 Κ with Κ|Κ
    ·exact h.bS.norel op Κ a
    ·exact BV op Κ _
   ·show dm _ _ (bL (bL c.H (.inl i) mU) (.inl gs.size) mV a);by_cases Θ:a=.inl gs.size
    ·subst Θ;rw[dC];exact(((h.bS.perms (.inl i)).others Ld λop Κ x U=>by rw[nt op Κ] at U;cases U):dm _ (Knows _ gs.size) _).sub mc.r
    ·rw[bM _ _ Θ];by_cases Γ:a=.inl i
     ·subst Γ;rw[dC];exact(Le (.inl i)).sub mc.l
     ·rw[bM _ _ Γ];exact Le a
   ·have:=fI j b v hv;rcases mR ψ with ib|⟨_,op,Κ,_,U⟩
    ·exact h.bS.oo j b v this k a ib
    ·rw[nt op Κ] at U;cases U
   ·rcases mR ψ with ib|⟨_,op,Κ,_,U⟩
    ·rcases h.bS.cont bq o' b iK hb k a ib fe with x|⟨x,de⟩
     ·exact .inl x
     ·obtain⟨op,jy,_⟩:=touch_of ib;exact .inr ⟨x,by rw[g?_old (lt_size_of_getElem? jy)];exact de⟩
    ·rw[nt op Κ] at U;cases U
   ·have Γ:Deaf (t++#[y,z]) j=Deaf t j:=by
     have e:t++#[y,z]=(t++#[y])++#[z]:=by rw[Array.append_assoc];rfl
     rw[e,Deaf_push,Deaf_push];simp[deafStep,y,z]
    rw[Γ];by_cases e:j=gs.size
    ·subst e;rw[pv];exact(upd_same ..).symm
    ·rw[h.bS.hears];exact(upd_ne _ _ e).symm
  ·have jD:∀b,bL (bL c.H (.inl i) mU) (.inl gs.size) mV (.inr b)=c.H (.inr b):=λb=>by rw[iv,iv]
   refine⟨λr q m Χ hm bA ia=>?_,λr q Χ bA=>?_⟩
   ·show q.bb q.L (bL (bL c.H (.inl i) mU) (.inl gs.size) mV (.inr m));rw[jD];exact h.eA.l7 r q m Χ hm (λj q p x=>bA j q p ((te j r q p).2 x)) λj k L g x=>ia j k L g (Fz _ _ _ _ _ x)
   ·show lu q.D q.aj (bL (bL c.H (.inl i) mU) (.inl gs.size) mV (.inr r));rw[jD];exact h.eA.l8 r q Χ (λj q p x=>bA j q p ((te j r q p).2 x))
  ·rw[cC];refine⟨λk a ψ=>?_,λj fy δ=>?_,λj fy δ bA=>?_,λj fy δ a b=>?_⟩
   ·obtain⟨op,Κ,hl⟩:=Option.map_eq_some_iff.1 ψ;rcases getElem?_append_cases Κ with⟨_,kI⟩|⟨_,gf⟩
    ·have:=h.ea.dQ k a (by simp[Trace.g?,kI,hl]);omega
    ·simp at gf;rcases gf with rfl|rfl
     ·rw[<-hl];show i<gs.size+1;omega
     ·rw[<-hl];show gs.size<gs.size+1;omega
   ·have fg:=BU j δ;rw[e3 j fg] at δ;obtain⟨op,a1,a2,ck,fY,hA⟩:=h.ea.c1 j fy δ;have ς:=lt_size_of_getElem? a1;refine⟨op,?_,a2,?_,(heard_old ς).2 fY,λaf ib ε=>?_⟩
    ·show(t++#[y,z])[c.dw j]?=some op;rw[getElem?_append_old ς];exact a1
    ·show op.act=.mark (.releaseMerge ⟨upd c.home gs.size s j,0,none⟩);rw[upd_ne _ _ fg];exact ck
    ·obtain⟨rJ,Κ,hl⟩:=Option.map_eq_some_iff.1 ib;rcases getElem?_append_cases Κ with⟨qL,kI⟩|⟨hle,gf⟩
     ·exact(hA af (by simp[Trace.g?,kI,hl]) ((yN qL).1 ε)).app _
     ·exact absurd ε (wF nt af hle)
   ·have fg:=BU j δ;rw[e3 j fg] at δ;obtain⟨q,e9,Χ⟩:=bA;have yY:c'.home j=c.home j:=upd_ne _ _ fg;rw[yY] at Χ ⊢;exact(h.ea.c2 j fy δ ⟨q,e9,(te _ _ _ _).1 Χ⟩).app _
   ·have fg:=BU j δ;rw[e3 j fg] at δ;have yY:c'.home j=c.home j:=upd_ne _ _ fg;rw[yY] at a b ⊢;have Sm:=BU _ b;rw[e3 _ Sm] at b;exact(h.ea.c3 j fy δ a b).app _
  ·refine⟨λr q b1 Χ dg p op ς κ=>?_,λj b v hv op Κ κ=>?_⟩
   ·rcases getElem?_append_cases ς with⟨qL,hO⟩|⟨_,gf⟩
    ·obtain⟨⟨af,FG,g,ν⟩,Ι⟩:=h.gd.iO r q b1 Χ dg p op hO κ;have fg:op.g≠gs.size:=λe=>by rw[e,h.bh.out _ r (Nat.le_refl _)] at ν;cases ν
     refine⟨?_,λι=>?_⟩
     ·rw[show c'.tok op.g=b0 c.tok i s (.par n _ .add) op.g from BT _ fg];exact yU dK (λ_ _ _ e=>by cases e) _ _ _ _ _ ν
     ·rw[e3 _ fg] at ι;exact(Ι ι).app _
    ·exact absurd κ (BV op gf _)
   ·rcases Array.mem_append.1 Κ with Κ|Κ
    ·exact h.gd.uN j b v (fI j b v hv) op Κ κ
    ·exact BV op Κ _ κ
  ·intro j b hb;by_cases e:j=gs.size
   ·subst e;rw[Array.getElem?_push] at hb;simp at hb;subst hb;refine⟨ch,?_,.inl rfl⟩;have U:c'.x gs.size=BS:=by simp[c',BS,eB,c0.x,upd_same]
    have Η:c'.T gs.size=f (false,ch,BS):=upd_same ..
    have hm:(gs.size==0)=false:=by rw[beq_eq_false_iff_ne];exact Nat.ne_of_gt h.pos
    rw[U,Η,hm];exact Sf
   ·have dF:(gs.setIfInBounds i g')[j]?=some b:=by
     rw[Array.getElem?_push] at hb;simpa[e] using hb
    by_cases Γ:j=i
    ·subst Γ;rw[Array.getElem?_setIfInBounds_self_of_lt a4] at dF;cases dF;refine⟨g',?_,.inl rfl⟩;have U:c'.x j=BR:=by simp[c',BR,eB,c0.x,upd_same,upd_ne _ _ e,uR,bM _ _ Lc]
     have Η:c'.T j=f (j==0,g',BR):=by show upd (upd c.T j _) gs.size _ j=_;rw[upd_ne _ _ e,upd_same]
     rw[U,Η];exact bm
    ·rw[Array.getElem?_setIfInBounds_ne (Ne.symm Γ)] at dF;obtain⟨cP,wx,jE⟩:=h.uO j b dF;have iR:(Sum.inl j:cy)≠.inl gs.size:=λx=>e (by cases x;rfl);have fT:(Sum.inl j:cy)≠.inl i:=λx=>Γ (by cases x;rfl);have U:c'.x j=c.x j:=by simp[c',eB,c0.x,upd_ne _ _ e,upd_ne _ _ Γ,rM _ Γ,bM _ _ iR,bM _ _ fT]
     have Η:c'.T j=c.T j:=by show upd (upd c.T i _) gs.size _ j=_;rw[upd_ne _ _ e,upd_ne _ _ Γ]
     have Ν:c'.tok j=c.tok j:=congrArg aW.tok U;refine⟨cP,by rw[U,Η];exact wx,?_⟩;rw[Ν];exact jE
 refine λsl=>⟨c',_,w,_,runT_crowd_spawn Ο μ,?_,.inr (.inl ⟨η,_,_,rfl⟩)⟩;rw[Si];exact hinv
end
end Go.TL
