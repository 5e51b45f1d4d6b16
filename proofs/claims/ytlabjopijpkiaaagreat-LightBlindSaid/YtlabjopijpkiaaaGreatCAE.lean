import Derived.Test.YtlabjopijpkiaaaGreatCAD
set_option maxHeartbeats 16000000
set_option maxRecDepth 20000
set_option linter.unusedSectionVars false
set_option linter.unusedSimpArgs false
set_option linter.unusedVariables false
namespace Go.TL
open Go.Conc
open Go.ConcM (OsLater)
open Go.ConcN (sumTo upd sumTo_upd upd_ne upd_same sumTo_congr le_sumTo)
theorem LJ:∀(q:Nat) (l:List Nat),l.Nodup->(∀x∈l,x<q)->l.length<=q:=by
 intro q
 induction q with
 | zero=>intro l _ h;cases l with
  | nil=>simp
  | cons a l=>exact absurd (h a ζ) R
 | succ q ω=>
  intro l Ζ h;have:=ω (l.erase q) (Ζ.erase q) (λx γ=>by
   have J:=(Ζ.mem_erase_iff).1 γ
   have:=h x J.2
   have:=J.1;omega)
  by_cases Ξ:q∈l
  ·have:=List.length_erase_of_mem Ξ;omega
  ·rw[List.erase_of_not_mem Ξ] at this;omega
theorem Ta (l:List Nat) (q:Nat) (Ζ:l.Nodup) (h:∀x∈l,x<q) (ξ:l.length=q):∀k,k<q->k∈l:=λk χ=>by
 apply Classical.byContradiction;intro jK;have:=LJ q (k::l) (List.nodup_cons.2 ⟨jK,Ζ⟩) (λx γ=>by
  rcases List.mem_cons.1 γ with rfl|γ
  ·exact χ
  ·exact h x γ)
 simp at this;omega
section
variable {n:Nat} {tok:Nat->Nat->Tok} {spec:Nat->Nat->Option Spec} {view:Nat->Nat->Option (Nat×aV)} {rel:Nat->Bool} {O:Nat->Option aV} {bw home:Nat->Nat} {s i:Nat} {o:aV}
theorem eY.fin (h:eY n tok spec view rel O bw home) (ν:O s=some o) {j q p:Nat} {aQ:sx} (Ν:tok j s=.par q p aQ) (he:iU (.par q p aQ)=1):p=0/\o.cnt=0/\∀a k m g,tok a s=.ch k m g->g=.gone:=by
 have δ:j<n:=h.lt (s:=s) (by rw[Ν];simp)
 have Ζ:=(h.a7 s o ν).2
 have uu:ba n (λa=>tok a s) iU=1:=by
  rw[pW (φ:=iU) (λt Ν=>by cases t<;>simp_all [e1,iU]) Ζ.oi δ (by rw[Ν];rfl),Ν,he]
 have hΕ:ba n (λa=>tok a s) hH=p:=by
  rw[pW (φ:=hH) (λt Ν=>by cases t<;>simp_all [e1,hH]) Ζ.oi δ (by rw[Ν];rfl),Ν];rfl
 obtain⟨f1,f2,f3,f4,f5,f6⟩:=Ζ.KX uu;refine⟨R,f4,λa k m g κ=>?_⟩;have GA:a<n:=h.lt (s:=s) (by rw[κ];simp);have CI:=Ζ.F5;have l1:=fy (λa=>tok a s) jF GA;have l2:=fy (λa=>tok a s) kx GA;have o2:=fy (λa=>tok a s) ky GA;simp only[κ,jF,kx,ky] at l1 l2 o2;cases g with
 | gone=>rfl
 | work=>simp only[sy] at l1;omega
 | rel=>simp only[sy] at l1;omega
 | l2=>simp only[vC] at l2;omega
 | h5=>simp only[vD] at o2;omega
theorem eY.LK (h:eY n tok spec view rel O bw home) (ν:O s=some o) {k:Nat} {m:lS} {g:tZ} (Ν:tok i s=.ch k m g) (Ο:g≠.gone):∀j q p,tok j s≠.par q p .bm:=λj q p δ=>
 Ο ((h.fin ν δ rfl).2.2 i k m g Ν)
theorem eY.only (h:eY n tok spec view rel O bw home) (ν:O s=some o) (Ν:iS (tok i s)=1):∀j k L g,tok j s=.ch k (.dr L) g->j=i:=λj k L g δ=>by
 apply Classical.byContradiction;intro bA;have bf:i<n:=h.lt (s:=s) (by intro e;rw[e] at Ν;cases Ν);have e2:j<n:=h.lt (s:=s) (by rw[δ];simp);have Γ:=gN (λa=>tok a s) .nil iS bf;have Δ:=fy (upd (λa=>tok a s) i .nil) iS e2;rw[upd_ne _ _ bA] at Δ;have vY:iS .nil=0:=rfl;have p8:iS (tok j s)=1:=by rw[δ];rfl
 simp only[Ν,vY] at Γ;simp only[p8] at Δ;have:=(h.a7 s o ν).1.KV;have:=(h.a7 s o ν).1.f1;omega
def rq (tok:Nat->Nat->Tok) (s:Nat):Nat->List Nat
 | 0=>[]
 | n+1=>match tok n s with
  | .ch k _ _=>k::rq tok s n
  | _=>rq tok s n
theorem zO (tok:Nat->Nat->Tok) (s:Nat):∀n k,k∈rq tok s n↔∃j m g,j<n/\tok j s=.ch k m g
 | 0,k=>by simp[rq]
 | n+1,k=>by
  have ω:=zO tok s n k
  have old:(∃j m g,j<n/\tok j s=.ch k m g)->∃j m g,j<n+1/\tok j s=.ch k m g:=λ⟨j,m,g,J,U⟩=>⟨j,m,g,R,U⟩
  have split:(∃j m g,j<n+1/\tok j s=.ch k m g)->(∃j m g,j<n/\tok j s=.ch k m g)\/∃m g,tok n s=.ch k m g:=λ⟨j,m,g,J,U⟩=>by
   by_cases e:j=n
   ·subst e;exact .inr ⟨m,g,U⟩
   ·exact .inl ⟨j,m,g,R,U⟩
  unfold rq;cases γ:tok n s with
  | nil=>exact ω.trans ⟨old,λh=>(split h).elim id λ⟨m,g,e⟩=>by rw[γ] at e;cases e⟩
  | par=>exact ω.trans ⟨old,λh=>(split h).elim id λ⟨m,g,e⟩=>by rw[γ] at e;cases e⟩
  | ch af cb g'=>
   rw[List.mem_cons,ω];constructor
   ·rintro(rfl|h)
    ·exact⟨n,cb,g',R,γ⟩
    ·exact old h
   ·intro h;rcases split h with h|⟨m,g,e⟩
    ·exact .inr h
    ·rw[γ] at e;cases e;exact .inl rfl
theorem LL (tok:Nat->Nat->Tok) (s:Nat):∀n,(rq tok s n).length=ba n (λa=>tok a s) lV
 | 0=>rfl
 | n+1=>by
  have ω:=LL tok s n;rw[vJ];unfold rq;cases γ:tok n s<;>simp[lV,ω]
theorem LM (ξ:∀j bJ k m g cb g',tok j s=.ch k m g->tok bJ s=.ch k cb g'->j=bJ):∀n,(rq tok s n).Nodup
 | 0=>List.nodup_nil
 | n+1=>by
  have ω:=LM ξ n;unfold rq;cases γ:tok n s with
  | nil=>exact ω
  | par=>exact ω
  | ch k m g=>
   refine List.nodup_cons.2 ⟨λh=>?_,ω⟩;obtain⟨j,cb,g',J,U⟩:=(zO tok s n k).1 h;have:=ξ j n k cb g' m g U γ;omega
theorem eY.full (h:eY n tok spec view rel O bw home) (ν:O s=some o) {q:Nat} {aQ:sx} (Ν:tok i s=.par q 0 aQ) (mO:aQ=.mI\/aQ=.w4) :
  o.ak.Perm (List.range q)/\(o.aZ≠none->o.L.Perm (List.range q))/\∀a k m g,tok a s=.ch k m g->g=.gone:=by
 have bf:i<n:=h.lt (s:=s) (by rw[Ν];simp)
 have he:iU (.par q 0 aQ)=1:=by rcases mO with rfl|rfl<;>rfl
 obtain⟨_,_,sF⟩:=h.fin ν Ν he;have Ζ:=(h.a7 s o ν).2;have ck:ba n (λa=>tok a s) iT=q:=by
  rw[pW (φ:=iT) (λt Ν=>by cases t<;>simp_all [e1,iT]) Ζ.oi bf (by rw[Ν];rfl),Ν];rfl
 have cB:ba n (λa=>tok a s) hH=0:=by
  rw[pW (φ:=hH) (λt Ν=>by cases t<;>simp_all [e1,hH]) Ζ.oi bf (by rw[Ν];rfl),Ν];rfl
 have hΖ:=Ζ.KW
 have xO:=h.par i s q 0 aQ Ν;subst xO;have Tb:=LM (tok:=tok) (s:=s) (λj bJ k m g cb g' J U=>h.vO s j bJ k m g cb g' J U) n;have lt:∀k∈rq tok s n,k<q:=λk χ=>by
  obtain⟨j,m,g,_,δ⟩:=(zO tok s n k).1 χ;have:=h.uj s j k m g q 0 aQ δ Ν;omega
 have full:=Ta _ q Tb lt (by rw[LL];omega);obtain⟨fa,fW⟩:=h.gz s o ν;obtain⟨Tc,lm⟩:=h.fM s o ν;refine⟨(List.perm_ext_iff_of_nodup fa List.nodup_range).2 λk=>?_,λfA=>(List.perm_ext_iff_of_nodup Tc List.nodup_range).2 λk=>?_,sF⟩
 ·rw[fW,List.mem_range];constructor
  ·rintro⟨j,m,g,δ,_⟩;have:=h.uj s j k m g q 0 aQ δ Ν;omega
  ·intro χ;obtain⟨j,m,g,_,δ⟩:=(zO tok s n k).1 (full k χ);exact⟨j,m,g,δ,by rw[sF j k m g δ];simp⟩
 ·rw[lm,List.mem_range];constructor
  ·rintro⟨j,m,g,δ,_⟩;have:=h.uj s j k m g q 0 aQ δ Ν;omega
  ·intro χ;obtain⟨j,m,g,_,δ⟩:=(zO tok s n k).1 (full k χ);refine⟨j,m,g,δ,?_⟩;rcases h.pb j s k m g o ν δ (by rw[sF j k m g δ];simp) with rfl|⟨_,e⟩
   ·trivial
   ·exact absurd e fA
end
section
variable {H H':cN->Α} {aN p9:Nat->Nat->Option (Array Value×TypeId)} {tok eG:Nat->Nat->Tok} {O O':Nat->Option aV} {bw:Nat->Nat} {deaf:Nat->Nat} {N hJ:Nat} {t:Trace} {bn w w':World} {i:Nat} {y:MemOp} {b s:Nat} {o:aV}
theorem ofEvents_one {fn:FuncId} {pos:String} {e:Event}:MemOp.ofEvents i fn pos #[e]=#[{g:=i,fn,pos,act:=.ofEvent e}]:=by rw[ofEvents_eq];simp
theorem jm.word (h:jm H aN tok O bw deaf N t) (Κ:y.g=i) (κ:y.act=.mark (.acquire ⟨b,0,none⟩)\/y.act=.mark (.releaseMerge ⟨b,0,none⟩)) (hb:b<N) (dH:mP O O') (hv:∀j b v,p9 j b=some v->aN j b=some v)
  (π:∀k,dy (t++#[y]) (j3 eG O' (t++#[y]) k) (H' k)):jm H' p9 eG O' bw deaf N (t++#[y]):=by
 have nt:y.act.touch?=none:=by rcases κ with e|e<;>rw[e]<;>rfl
 have old:∀k a,touchAt (t++#[y]) k=some a->touchAt t k=some a/\k<t.size:=λk a χ=>by
  obtain⟨x,γ,xD⟩:=touch_of χ;rcases getElem?_append_cases γ with⟨aO,h4⟩|⟨_,gA⟩
  ·exact⟨by rw[touchAt_of h4];exact xD,aO⟩
  ·simp at gA;subst gA;rw[nt] at xD;cases xD
 refine⟨λsaid=>noRace_append (g:=i) (h.race said) (λop Μ=>by simp at Μ;subst Μ;exact Κ) (λk a _ op Μ c ε _=>by simp at Μ;subst Μ;rw[nt] at ε;cases ε),λop Μ=>?_,λop Μ a=>?_,π,λj c v ε k a χ=>h.o5 j c v (hv j c v ε) k a (old k a χ).1,λs o' c ν ε k a χ fs=>?_,λj=>?_⟩
 ·rcases Array.mem_append.1 Μ with Μ|Μ
  ·exact h.low op Μ
  ·simp at Μ;subst Μ;rcases κ with e|e<;>rw[e]<;>exact hb
 ·rcases Array.mem_append.1 Μ with Μ|Μ
  ·exact h.norel op Μ a
  ·simp at Μ;subst Μ;rcases κ with e|e<;>rw[e]<;>simp
 ·obtain⟨lY,J,U⟩:=dH.1 s o' ν;obtain⟨μ,Ε⟩:=old k a χ;rcases h.cont s lY c J (by rw[U];exact ε) k a μ fs with x|⟨x,dj⟩
  ·exact .inl x
  ·exact .inr ⟨x,by rw[g?_old Ε];exact dj⟩
 ·rw[Deaf_push,<-h.hears j];rcases κ with e|e<;>simp[deafStep,e]
theorem jm.xP (h:jm H aN tok O bw deaf N t) (k:cN) (nt:y.act.touch?=none) (dH:mP O O') (eb:∀i s,eG i s≠.nil->tok i s≠.nil):dy (t++#[y]) (j3 eG O' (t++#[y]) k) (H k):=
 (h.perms k).others (λ_ χ=>CD dH.1 eb (Gj _ χ)) λop Μ a κ=>by simp at Μ;subst Μ;rw[nt] at κ;cases κ
theorem Knows.marked {p:Nat} {op:MemOp} (J:t[p]?=some op) (U:op.act=.mark (.releaseMerge ⟨b,0,none⟩)) (μ:t.heard p) (eu:∀op∈t,∀a,op.act≠.mark (.release a)) (Ο:y.g=i) (Κ:y.act=.mark (.acquire ⟨b,0,none⟩)) (hd:Deaf t i=0):Knows (t++#[y]) i p:=by
 have j4:(t++#[y])[t.size]?=some y:=ζ
 have zF:(t++#[y]).heard t.size:=⟨i,by simp[Trace.g?,Ο],by rw[deaf_old (Nat.le_refl _)];exact hd⟩
 have π:=lt_size_of_getElem? J;refine⟨t.size,y,j4,Ο,.inr (.single (.inr ⟨.marked (a:=⟨b,0,none⟩) π (.inr ?_) ?_ ?_,(heard_old π).2 μ,zF⟩))⟩
 ·rw[act?_old π,act?_of J,U]
 ·rw[act?_of j4,Κ]
 ·intro af jo e9 jq;rw[act?_old e9] at jq;obtain⟨sD,j5,iW⟩:=Option.map_eq_some_iff.1 jq;exact eu sD (mem_of_getElem? j5) _ iW
theorem dy.nG {j0:Nat->Prop} {G:Α} (h:dy t j0 G) (nt:y.act.touch?=none) (χ:∀k,j0 k->Knows (t++#[y]) i k):dy (t++#[y]) (Knows (t++#[y]) i) G:=
 h.others χ λop Μ a κ=>by simp at Μ;subst Μ;rw[nt] at κ;cases κ
theorem Sub.empty (G:Α):Sub Α.empty G:=⟨λ_ _ _ _ h=>(by cases h),λ_ _ h=>(by cases h),λ_ _ h=>(by cases h)⟩
theorem Sub.both {A B ar:Α} (h:Sub A ar) (k:Sub B ar):Sub (join A B) ar:=by
 refine⟨λb o v p ε=>?_,λb x ι=>?_,λb x hv=>?_⟩
 ·simp only[join] at ε;cases Ο:A.aP b o with
  | none=>rw[Ο] at ε;exact k.aP b o v p ε
  | some z=>rw[Ο] at ε;cases ε;exact h.aP b o v p Ο
 ·simp only[join] at ι;cases Ο:A.row b with
  | none=>rw[Ο] at ι;exact k.row b x ι
  | some z=>rw[Ο] at ι;cases ι;exact h.row b _ Ο
 ·simp only[join] at hv;cases Ο:A.obj b with
  | none=>rw[Ο] at hv;exact k.obj b x hv
  | some z=>rw[Ο] at hv;cases hv;exact h.obj b _ Ο
theorem Sub.Td {G H:Α} (di:Fits G w) (Β:Fits H w) (ap:Apart G H):Sub H (join G H):=by
 refine⟨λb o v p ε=>?_,λb x ι=>?_,λb x hv=>?_⟩
 ·simp only[join];cases Ο:G.aP b o with
  | none=>exact⟨p,ε,id⟩
  | some z=>
   obtain⟨fr,fj⟩:=z;have Γ:=di.aP b o fr fj Ο;have Δ:=Β.aP b o v p ε;rw[Γ] at Δ;cases Δ;refine⟨fj,rfl,λπ=>?_⟩;subst π;exact absurd ⟨_,Ο⟩ (ap.q8 b o ⟨_,ε⟩)
 ·simp only[join];cases Ο:G.row b with
  | none=>exact ι
  | some z=>
   obtain⟨t1,h7⟩:=z;obtain⟨t2,gm⟩:=x;obtain⟨c1,a1,a9⟩:=di.row b t1 h7 Ο;obtain⟨c2,bC,dt⟩:=Β.row b t2 gm ι;rw[a1] at bC;cases bC;rw[<-a9,<-dt]
 ·simp only[join];cases Ο:G.obj b with
  | none=>exact hv
  | some z=>exact absurd ⟨x,hv⟩ (ap.obj b ⟨z,Ο⟩)
theorem GB (G:Α):join G Α.empty=G:=by
 obtain⟨a,b,c⟩:=G;simp only[join,Α.empty];congr
 ·funext x y;cases a x y<;>rfl
 ·funext x;cases b x<;>rfl
 ·funext x;cases c x<;>rfl
theorem hq.xQ (h:hq H aN O bn w) (hv:∀j b v,p9 j b=some v->aN j b=some v):hq H p9 O bn w:=⟨h.fit,λj b c t hb=>h.mN j b c t (hv j b _ hb),h.fV,h.keep⟩
theorem iV.xQ (h:iV H aN O hJ) (hv:∀j b v,p9 j b=some v->aN j b=some v):iV H p9 O hJ:=by
 have LN:∀j b,aN j b=none->p9 j b=none:=λj b e=>by
  cases γ:p9 j b with
  | none=>rfl
  | some v=>rw[hv j b v γ] at e;cases e
 exact⟨h.apart,h.high,h.oj,λj b v hb=>let ⟨a1,a9,cK⟩:=h.fresh j b v (hv j b v hb);⟨a1,a9,λk χ=>LN k b (cK k χ)⟩,λs o b ν hb=>let ⟨a1,a9,cK⟩:=h.kS s o b ν hb;⟨a1,a9,λk=>LN k b (cK k)⟩,h.lg,h.p1,h.eF⟩
theorem kU {o':aV} (ψ:O s=some o) {r:Nat} {q:aV} (h:upd O s (some o') r=some q):(r=s/\q=o')\/(r≠s/\O r=some q):=by
 by_cases e:r=s
 ·subst e;rw[upd_same] at h;cases h;exact .inl ⟨rfl,rfl⟩
 ·rw[upd_ne _ _ e] at h;exact .inr ⟨e,h⟩
theorem CN {a b:Tok} (Ν:tok i s=a) (κ:∀q p,a≠.par q p .bm) (hb:∀q p,b≠.par q p .bm) (j r q p:Nat):b' tok i s b j r=.par q p .bm↔tok j r=.par q p .bm:=by
 by_cases e:j=i/\r=s
 ·obtain⟨rfl,rfl⟩:=e;rw[fi,Ν];exact⟨λx=>absurd x (hb q p),λx=>absurd x (κ q p)⟩
 ·rw[e8 _ e]
theorem zP {a b:Tok} (Ν:tok i s=a) (κ:a≠.nil) (j r:Nat) (h:b' tok i s b j r≠.nil):tok j r≠.nil:=by
 by_cases e:j=i/\r=s
 ·obtain⟨rfl,rfl⟩:=e;rw[Ν];exact κ
 ·rw[e8 _ e] at h;exact h
theorem zQ {a b:Tok} (Ν:tok i s=a) (hb:∀k m g,a=.ch k m g->∃k m g,b=.ch k m g) (j r k:Nat) (m:lS) (g:tZ) (h:tok j r=.ch k m g):∃k m g,b' tok i s b j r=.ch k m g:=by
 by_cases e:j=i/\r=s
 ·obtain⟨rfl,rfl⟩:=e;rw[fi];exact hb k m g (Ν▸h)
 ·rw[e8 _ e];exact⟨k,m,g,h⟩
end
section
variable {P:Program} {Q:Value->Prop} {bn:World} {c c':dc} {gs:Array Goroutine} {w w':World} {t:Trace} {i:Nat} {g g':Goroutine} {es:Array Event}
variable {f:Bool×Goroutine×a2->gy (Bool×Goroutine×a2)}
theorem Inv.CO (h:Inv P Q bn c gs w t) (Ο:gs[i]?=some g) (χ:K9 P (i==0) (l5 P Q f) g (c.x i)):ix P Q bn c gs w t i f:=by
 obtain⟨s,sp,m,k,g',J,U,μ,Ε,au,bd,cH,GC⟩:=χ;have bf:i<gs.size:=mW Ο;obtain⟨o,ψ,b7⟩:=h.bj.ri i s sp J;subst b7;have eb:c.tok i s=.ch k .own .work:=μ;have hd:c.deaf i=0:=Ε;have eu:c.rel i=false:=bd;have ν:=cH w (h.mem.fit (.inl i));have v3:=h.bj.LK ψ eb ζ;have dz:=h.eF.p6 s o m ψ U v3 (λj af L g δ=>by
  have:=h.bj.only ψ (i:=i) (by rw[eb];rfl) j af L g δ;subst this;rw[eb] at δ;cases δ)
 have aI:=GC o.L (c.H (.inr m)) dz (h.hold.apart _ _ ζ) ⟨(h.bj.fM s o ψ).1,λχ=>(by
  obtain⟨j,cb,aa,Γ,Δ⟩:=((h.bj.fM s o ψ).2 k).1 χ;have:=h.bj.vO s j i k cb aa _ _ Γ eb;subst this;rw[eb] at Γ;cases Γ;exact Δ),w,h.mem.fit _,h.mem.fit _⟩
 let dj:a2:={c.x i with G:=join (c.H (.inl i)) (c.H (.inr m)),tok:=upd (c.tok i) s (.ch k (.dr o.L) .work),view:=upd (c.view i) s none}
 let c':dc:={c with H:=bO (bO c.H (.inl i) (join (c.H (.inl i)) (c.H (.inr m)))) (.inr m) Α.empty,tok:=b' c.tok i s (.ch k (.dr o.L) .work),view:=upd c.view i (upd (c.view i) s none),O:=upd c.O s (some o),T:=upd c.T i (f (i==0,g',dj))}
 have dH:=mP.upd (o':=o) ψ rfl
 have bm:=CN (b:=.ch k (.dr o.L) .work) eb ζ ζ
 have nil:=zP (b:=.ch k (.dr o.L) .work) eb ζ
 have hm:ez s o.toSpec m:=.inr U;refine ix.go (c':=c') Ο ν ?_ _ rfl;rw[ofEvents_one];have oq:c'.x i=dj:=by
  have:(Sum.inl i:cN)≠.inr m:=ζ;simp[c',dj,dc.x,upd_same,vZ,bP _ _ this]
 refine h.laid (c':=c') Ο (h.mem.two (zG (h.mem.fit _) (h.mem.fit _)) (vR w) λr q Ξ=>?_) ?_ ?_ (h.bj.F6 ψ eb) ⟨λr q cb Ξ dk cm iX=>?_,λr q Ξ cm=>?_⟩
  (h.et.app bf (λop Μ=>by simp at Μ;subst Μ;rfl) (λγ=>by rw[eu] at γ;cases γ) (λs q p ⟨j,x⟩=>⟨j,(bm j s q p).1 x⟩) (λj s q p x=>(bm j s q p).1 x))
  (h.fW.app h.bU.low (λop Μ b hb=>by simp at Μ;subst Μ;cases hb) (λj b v hv=>.inl ⟨v,hv⟩) (λr q Ξ=>?_) (λj r af mu g e=>zQ eb (λ_ _ _ _=>⟨_,_,_,rfl⟩) j r af mu g e))
  ⟨g',?_,.inl rfl⟩ (λj δ=>⟨?_,upd_ne _ _ δ⟩) (.inr λj r q _ a b=>?_)
 ·rcases kU ψ Ξ with⟨rfl,rfl⟩|⟨_,cl⟩
  ·exact h.mem.fV _ _ ψ
  ·exact h.mem.fV _ _ cl
 ·exact h.hold.two ζ (Sub.refl _) (Sub.empty _) (Apart.um _) dH λx γ=>by
   rcases γ with e|e
   ·cases e;exact⟨s,o,ψ,hm⟩
   ·cases e
 ·refine h.bU.word (i:=i) rfl (.inl rfl) (h.low ψ hm) dH (λ_ _ _ x=>x) λa=>?_;by_cases Δ:a=.inr m
  ·subst Δ;show dy _ _ (bO _ _ _ _);rw[dS];exact dy.empty
  ·show dy _ _ (bO _ _ _ _);rw[bP _ _ Δ];by_cases Γ:a=.inl i
   ·subst Γ;rw[dS];exact((h.bU.perms (.inl i)).own (λop Μ=>by simp at Μ;subst Μ;rfl)).join ((h.bU.perms (.inr m)).acquire h.bU.norel ψ hm (by rw[eb];simp) rfl rfl (by rw[h.bU.hears];exact hd))
   ·rw[bP _ _ Γ];exact h.bU.xP a rfl dH nil
 ·rcases kU ψ Ξ with⟨rfl,rfl⟩|⟨e,cl⟩
  ·exact absurd (fi ..) (iX i k q.L .work)
  ·have bA:(.inr cb:cN)≠.inr m:=λx=>by cases x;exact e (h.hold.lg r s q o m cl ψ (.inr dk) hm)
   show q.ar q.L (bO (bO c.H _ _) (.inr m) _ (.inr cb));rw[bP _ _ bA,jr];exact h.eF.p6 r q cb cl dk (λj q p x=>cm j q p ((bm j r q p).2 x)) λj k L g x=>iX j k L g (by show b' c.tok i s _ j r=_;rw[e8 _ (λy=>e y.2)];exact x)
 ·rcases kU ψ Ξ with⟨rfl,rfl⟩|⟨e,cl⟩
  ·have bA:(.inr r:cN)≠.inr m:=λx=>by cases x;exact h.hold.p1 _ q m ψ U rfl
   show lZ q.D q.ak (bO (bO c.H _ _) (.inr m) _ (.inr r));rw[bP _ _ bA,jr];exact h.eF.mR r q ψ (λj q p x=>cm j q p ((bm j r q p).2 x))
  ·have bA:(.inr r:cN)≠.inr m:=λx=>by cases x;exact e (h.hold.lg m s q o m cl ψ (.inl rfl) hm)
   show lZ q.D q.ak (bO (bO c.H _ _) (.inr m) _ (.inr r));rw[bP _ _ bA,jr];exact h.eF.mR r q cl (λj q p x=>cm j q p ((bm j r q p).2 x))
 ·rcases kU ψ Ξ with⟨rfl,rfl⟩|⟨_,cl⟩
  ·exact⟨_,ψ,rfl⟩
  ·exact⟨q,cl,rfl⟩
 ·rw[oq];show j2 P Q (upd c.T i (f (i==0,g',dj)) i) _ _ _;rw[upd_same];exact aI
 ·have h7:(Sum.inl j:cN)≠.inr m:=by simp
  have gm:(Sum.inl j:cN)≠.inl i:=λe=>δ (by cases e;rfl);simp[c',dc.x,upd_ne _ _ δ,sG _ δ,bP _ _ h7,bP _ _ gm]
 ·exact⟨q,by show upd c.O s (some o) r=some q;rw[CK ψ];exact a,b⟩
theorem Inv.GD (h:Inv P Q bn c gs w t) (Ο:gs[i]?=some g) (χ:La P (i==0) (l5 P Q f) g (c.x i)):ix P Q bn c gs w t i f:=by
 obtain⟨s,sp,m,k,L,g',G',E,J,U,μ,Ε,au,bd,cH,mX,cR,aI⟩:=χ;have bf:i<gs.size:=mW Ο;obtain⟨o,ψ,b7⟩:=h.bj.ri i s sp J;subst b7;have eb:c.tok i s=.ch k (.dr L) .work:=μ;have hd:c.deaf i=0:=Ε;have eu:c.rel i=false:=bd;have ν:=cH w (h.mem.fit (.inl i));have ai:o.L=L:=h.bj.dr i s k L .work o ψ eb;let o':aV:={o with L:=o.L++[k]};let dj:a2:={c.x i with G:=G',tok:=upd (c.tok i) s (.ch k .fin .work),view:=upd (c.view i) s none};let c':dc:={c with H:=bO (bO c.H (.inl i) G') (.inr m) E,tok:=b' c.tok i s (.ch k .fin .work),view:=upd c.view i (upd (c.view i) s none),O:=upd c.O s (some o'),T:=upd c.T i (f (i==0,g',dj))};have dH:mP c.O (upd c.O s (some o')):=mP.upd ψ rfl;have bm:=CN (b:=.ch k .fin .work) eb ζ ζ;have nil:=zP (b:=.ch k .fin .work) eb ζ;have hm:ez s o.toSpec m:=.inr U;refine ix.go (c':=c') Ο ν ?_ _ rfl;rw[ofEvents_one];have oq:c'.x i=dj:=by
  have:(Sum.inl i:cN)≠.inr m:=ζ;simp[c',dj,dc.x,upd_same,vZ,bP _ _ this]
 refine h.laid (c':=c') Ο (h.mem.two (mX.l.fits (h.mem.fit (.inl i))) (mX.r.fits (h.mem.fit (.inl i))) λr q Ξ=>?_) ?_ ?_ (h.bj.SK ψ eb) ⟨λr q cb Ξ dk cm iX=>?_,λr q Ξ cm=>?_⟩
  (h.et.app bf (λop Μ=>by simp at Μ;subst Μ;rfl) (λγ=>by rw[eu] at γ;cases γ) (λs q p ⟨j,x⟩=>⟨j,(bm j s q p).1 x⟩) (λj s q p x=>(bm j s q p).1 x))
  ⟨λr q cb Ξ dk p op π κ=>?_,λj b v hv op Μ κ=>?_⟩
  ⟨g',?_,.inl rfl⟩ (λj δ=>⟨?_,upd_ne _ _ δ⟩) (.inr λj r q _ a b=>?_)
 ·rcases kU ψ Ξ with⟨rfl,rfl⟩|⟨_,cl⟩
  ·exact(h.mem.fV r o ψ:At r o w)
  ·exact h.mem.fV _ _ cl
 ·exact h.hold.two ζ mX.l.rj mX.r.rj mX.apart dH λx γ=>by
   rcases γ with e|e
   ·cases e;exact⟨s,o,ψ,hm⟩
   ·cases e
 ·refine h.bU.word (i:=i) rfl (.inr rfl) (h.low ψ hm) dH (λ_ _ _ x=>x) λa=>?_;by_cases Δ:a=.inr m
  ·subst Δ;show dy _ _ (bO _ _ _ _);rw[dS];exact((dy.release (h.bU.perms (.inl i)) rfl rfl (by rw[h.bU.hears];exact hd)).sub mX.r).mono λ_ x=>CD dH.1 nil x
  ·show dy _ _ (bO _ _ _ _);rw[bP _ _ Δ];by_cases Γ:a=.inl i
   ·subst Γ;rw[dS];exact((h.bU.perms (.inl i)).own (λop Μ=>by simp at Μ;subst Μ;rfl)).sub mX.l
   ·rw[bP _ _ Γ];exact h.bU.xP a rfl dH nil
 ·rcases kU ψ Ξ with⟨rfl,rfl⟩|⟨e,cl⟩
  ·have e:cb=m:=by have:o.aZ=some cb:=dk;rw[U] at this;cases this;rfl
   subst e;show o.ar (o.L++[k]) (bO (bO c.H _ _) (.inr cb) _ (.inr cb));rw[dS,ai];exact cR
  ·have bA:(.inr cb:cN)≠.inr m:=λx=>by cases x;exact e (h.hold.lg r s q o m cl ψ (.inr dk) hm)
   show q.ar q.L (bO (bO c.H _ _) (.inr m) _ (.inr cb));rw[bP _ _ bA,jr];exact h.eF.p6 r q cb cl dk (λj q p x=>cm j q p ((bm j r q p).2 x)) λj k L g x=>iX j k L g (by show b' c.tok i s _ j r=_;rw[e8 _ (λy=>e y.2)];exact x)
 ·rcases kU ψ Ξ with⟨rfl,rfl⟩|⟨e,cl⟩
  ·have bA:(.inr r:cN)≠.inr m:=λx=>by cases x;exact h.hold.p1 _ o m ψ U rfl
   show lZ o.D o.ak (bO (bO c.H _ _) (.inr m) _ (.inr r));rw[bP _ _ bA,jr];exact h.eF.mR r o ψ (λj q p x=>cm j q p ((bm j r q p).2 x))
  ·have bA:(.inr r:cN)≠.inr m:=λx=>by cases x;exact e (h.hold.lg m s q o m cl ψ (.inl rfl) hm)
   show lZ q.D q.ak (bO (bO c.H _ _) (.inr m) _ (.inr r));rw[bP _ _ bA,jr];exact h.eF.mR r q cl (λj q p x=>cm j q p ((bm j r q p).2 x))
 ·rcases getElem?_append_cases π with⟨_,iw⟩|⟨_,gA⟩
  ·have zR:∀h8,c.O r=some h8->h8.aZ=some cb->(∃af mu g,b' c.tok i s (.ch k .fin .work) op.g r=.ch af mu g)/\(c.rel op.g=true->Before (t++#[{g:=i,fn:=g.frame.fn,pos:=g.frame.place,act:=MemAct.ofEvent (Go.ConcR.mk (Mark.releaseMerge {block:=m,off:=0}))}]) p (c.dJ op.g)):=λh8 Γ Δ=>by
    obtain⟨⟨af,mu,g,μ⟩,Ε⟩:=h.fW.jH r h8 cb Γ Δ p op iw κ;exact⟨zQ eb (λ_ _ _ _=>⟨_,_,_,rfl⟩) _ _ _ _ _ μ,λι=>(Ε ι).app _⟩
   rcases kU ψ Ξ with⟨rfl,rfl⟩|⟨_,cl⟩
   ·exact zR o ψ dk
   ·exact zR q cl dk
  ·simp at gA;subst gA;cases κ;have:r=s:=by
    rcases kU ψ Ξ with⟨rfl,rfl⟩|⟨_,cl⟩
    ·rfl
    ·exact h.hold.lg r s q o m cl ψ (.inr dk) hm
   subst this;exact⟨⟨k,.fin,.work,fi ..⟩,λι=>by
    have:c.rel i=true:=ι;rw[eu] at this;cases this⟩
 ·rcases Array.mem_append.1 Μ with Μ|Μ
  ·exact h.fW.vV j b v hv op Μ κ
  ·simp at Μ;subst Μ;cases κ;have:=(h.hold.kS s o m ψ hm).2.2 j;have l4:c.aN j m=some v:=hv;rw[this] at l4;cases l4
 ·rw[oq];show j2 P Q (upd c.T i (f (i==0,g',dj)) i) _ _ _;rw[upd_same];exact aI
 ·have h7:(Sum.inl j:cN)≠.inr m:=by simp
  have gm:(Sum.inl j:cN)≠.inl i:=λe=>δ (by cases e;rfl);simp[c',dc.x,upd_ne _ _ δ,sG _ δ,bP _ _ h7,bP _ _ gm]
 ·by_cases e:r=s
  ·subst e;rw[ψ] at a;cases a;exact⟨o',upd_same ..,b⟩
  ·exact⟨q,by show upd c.O s (some o') r=some q;rw[upd_ne _ _ e];exact a,b⟩
end
section
variable {P:Program} {Q:Value->Prop} {bn:World} {c c':dc} {gs:Array Goroutine} {w w':World} {t:Trace} {i:Nat} {g g':Goroutine} {es:Array Event}
variable {f:Bool×Goroutine×a2->gy (Bool×Goroutine×a2)}
theorem Inv.parent (h:Inv P Q bn c gs w t) {s:Nat} {o:aV} (ψ:c.O s=some o):c.bw s<gs.size/\∃q p aQ,c.tok (c.bw s) s=.par q p aQ:=by
 obtain⟨i0,lk,π⟩:=Cr (φ:=e1) (N:=gs.size) (τ:=λa=>c.tok a s) (by rw[(h.bj.a7 s o ψ).2.oi];exact Nat.one_pos);have zJ:∃q p aQ,c.tok i0 s=.par q p aQ:=by
  cases γ:c.tok i0 s with
  | par q p aQ=>exact⟨q,p,aQ,rfl⟩
  | nil=>simp[γ,e1] at π
  | ch=>simp[γ,e1] at π
 obtain⟨q,p,aQ,γ⟩:=zJ;have cF:=h.bj.par i0 _ q p aQ γ;subst cF;exact⟨lk,q,p,aQ,γ⟩
theorem Inv.GF (h:Inv P Q bn c gs w t) (Ο:gs[i]?=some g) (χ:Lb P (i==0) (l5 P Q f) g (c.x i)):ix P Q bn c gs w t i f:=by
 obtain⟨s,sp,k,mu,g',E,J,μ,uk,Te,Ε,au,bd,cH,kC,cY,aI⟩:=χ;have bf:i<gs.size:=mW Ο;obtain⟨o,ψ,b7⟩:=h.bj.ri i s sp J;subst b7;have eb:c.tok i s=.ch k mu .work:=μ;have hd:c.deaf i=0:=Ε;have eu:c.rel i=false:=bd;have LO:∀bk,bk≠s->gk (c.tok i bk):=Te;have ν:=cH w (h.mem.fit (.inl i));obtain⟨lk,sE,aO⟩:=h.bj.o9 i s k mu .work eb;have v3:=h.bj.LK ψ eb ζ;let y:MemOp:={g:=i,fn:=g.frame.fn,pos:=g.frame.place,act:=MemAct.ofEvent (Go.ConcR.mk (Mark.releaseMerge ⟨s,0,none⟩))};have GG:y.act=.mark (.releaseMerge ⟨s,0,none⟩):=rfl;have j4:(t++#[y])[t.size]?=some y:=ζ;have Tf:(t++#[y]).heard t.size:=⟨i,by simp[Trace.g?,y],by rw[deaf_old (Nat.le_refl _)];exact(h.bU.hears i).trans hd⟩;let o':aV:={o with ak:=k::o.ak};let dj:a2:={c.x i with G:=Α.empty,aN:=λ_=>none,tok:=upd (c.tok i) s (.ch k mu .rel),view:=upd (c.view i) s none,rel:=true};let c':dc:={c with H:=bO (bO c.H (.inl i) Α.empty) (.inr s) (join E (c.H (.inr s))),aN:=upd c.aN i λ_=>none,tok:=b' c.tok i s (.ch k mu .rel),view:=upd c.view i (upd (c.view i) s none),O:=upd c.O s (some o'),rel:=upd c.rel i true,dJ:=upd c.dJ i t.size,T:=upd c.T i (f (i==0,g',dj))};have dH:mP c.O (upd c.O s (some o')):=mP.upd ψ rfl;have bm:=CN (b:=.ch k mu .rel) eb ζ ζ;have nil:=zP (b:=.ch k mu .rel) eb ζ;have iz:ez s o.toSpec s:=.inl rfl;have fX:∀j b v,upd c.aN i (λ_=>none) j b=some v->c.aN j b=some v:=λj b v hv=>by
  by_cases e:j=i
  ·subst e;rw[upd_same] at hv;cases hv
  ·rw[upd_ne _ _ e] at hv;exact hv
 have iA:=h.hold.apart (.inl i) (.inr s) ζ
 have hSub:Sub (join E (c.H (.inr s))) (join (c.H (.inl i)) (c.H (.inr s))):=Sub.both (Sub.rj kC) (Sub.Td (h.mem.fit _) (h.mem.fit _) iA)
 have LP:∀j r af L g,c.tok j r=.ch af (.dr L) g->b' c.tok i s (.ch k mu .rel) j r=.ch af (.dr L) g:=λj r af L g δ=>by
  rw[e8 _ (λe=>?_)]
  ·exact δ
  ·obtain⟨rfl,rfl⟩:=e;rw[eb] at δ;rcases uk with rfl|⟨rfl,_⟩<;>cases δ
 have sC:∀j,j≠i->∀r,b' c.tok i s (.ch k mu .rel) j r=c.tok j r:=λj δ r=>e8 _ λe=>δ e.1;refine ix.go (c':=c') Ο ν ?_ _ rfl;rw[ofEvents_one];have oq:c'.x i=dj:=by
  have:(Sum.inl i:cN)≠.inr s:=ζ;simp[c',dj,dc.x,upd_same,vZ,bP _ _ this]
 have Tg:vU gs.size c'.tok c'.rel c'.bw c'.home c'.dJ (t++#[y]):=by
  refine⟨λaf g' hL=>?_,λj fN δ=>?_,λj fN δ cm=>?_,λj fN δ rr bQ=>?_⟩
  ·obtain⟨op,Μ,hK⟩:=Option.map_eq_some_iff.1 hL;rcases getElem?_append_cases Μ with⟨_,ll⟩|⟨_,gA⟩
   ·exact h.et.dY af g' (by simp[Trace.g?,ll,hK])
   ·simp at gA;subst gA;rw[<-hK];exact bf
  ·by_cases e:j=i
   ·subst e;have Γ:c'.dJ j=t.size:=upd_same ..;rw[Γ];refine⟨y,j4,rfl,by rw[GG];show _=MemAct.mark (.releaseMerge ⟨c.home j,0,none⟩);rw[sE],Tf,λaf hL ε=>?_⟩;obtain⟨op,Μ,hK⟩:=Option.map_eq_some_iff.1 hL;rcases getElem?_append_cases Μ with⟨ru,ll⟩|⟨hle,gA⟩
    ·exact .inr (hb_po ru Μ j4 hK)
    ·exact absurd ε (xN (u:=#[y]) (λop Μ=>by simp at Μ;subst Μ;rfl) af hle)
   ·have aH:c.rel j=true:=by have:upd c.rel i true j=true:=δ;rwa [upd_ne _ _ e] at this
    have Γ:c'.dJ j=c.dJ j:=upd_ne _ _ e;rw[Γ];obtain⟨op,a1,a9,cK,gx,h6⟩:=h.et.c1 j fN aH;have π:=lt_size_of_getElem? a1;refine⟨op,by rw[getElem?_append_old π];exact a1,a9,cK,(heard_old π).2 gx,λaf hL ε=>?_⟩;obtain⟨sD,Μ,hK⟩:=Option.map_eq_some_iff.1 hL;rcases getElem?_append_cases Μ with⟨ru,ll⟩|⟨hle,gA⟩
    ·exact(h6 af (by simp[Trace.g?,ll,hK]) ((zI ru).1 ε)).app _
    ·exact absurd ε (xN (u:=#[y]) (λop Μ=>by simp at Μ;subst Μ;rfl) af hle)
  ·obtain⟨q,p,Ξ⟩:=cm;have cl:c.tok (c.bw (c.home j)) (c.home j)=.par q p .bm:=(bm _ _ q p).1 Ξ;by_cases e:j=i
   ·subst e;rw[sE] at cl;exact absurd cl (v3 _ q p)
   ·have aH:c.rel j=true:=by have:upd c.rel i true j=true:=δ;rwa [upd_ne _ _ e] at this
    have Γ:c'.dJ j=c.dJ j:=upd_ne _ _ e;rw[Γ];exact(h.et.c2 j fN aH ⟨q,p,cl⟩).app _
  ·by_cases e:j=i
   ·subst e;exfalso;have Ti:c.bw s≠0:=by rw[<-sE];exact rr
    have bA:c.bw s≠j:=R
    have zS:c.rel (c.bw s)=true:=by
     have:upd c.rel j true (c.bw (c.home j))=true:=bQ;rw[sE,upd_ne _ _ bA] at this;exact this
    obtain⟨_,q,p,aQ,sH⟩:=h.parent ψ;have c5:gk (c.tok (c.bw s) s):=by
     by_cases Δ:s=c.home (c.bw s)
     ·obtain⟨cp,dA,aa,e9⟩:=h.bj.sB (c.bw s) Ti R;rw[<-Δ,sH] at e9;cases e9
     ·exact h.bj.pa _ s zS Δ
    rw[sH] at c5;cases aQ<;>first|exact c5.elim|exact v3 _ _ _ sH
   ·have aH:c.rel j=true:=by have:upd c.rel i true j=true:=δ;rwa [upd_ne _ _ e] at this
    have Γ:c'.dJ j=c.dJ j:=upd_ne _ _ e;rw[Γ];by_cases Δ:c.bw (c.home j)=i
    ·have a4:c'.dJ (c.bw (c.home j))=t.size:=by rw[Δ];exact upd_same ..
     show Before _ _ (c'.dJ (c.bw (c.home j)));rw[a4];obtain⟨op,a1,_⟩:=h.et.c1 j fN aH;have e2:j<gs.size:=by
      obtain⟨op,a1,a9,_⟩:=h.et.c1 j fN aH;exact h.et.dY (c.dJ j) j (by simp[Trace.g?,a1,a9])
     obtain⟨cp,dA,aa,e9⟩:=h.bj.sB j fN e2;obtain⟨jI,xR⟩:=h.obj (i:=j) (s:=c.home j) (by rw[e9];simp);obtain⟨_,q,p,aQ,sH⟩:=h.parent xR;rw[Δ] at sH;have bA:c.home j≠s:=λcM=>by rw[cM,eb] at sH;cases sH
     have c5:=LO _ bA;rw[sH] at c5;have mO:aQ=.bm:=by cases aQ<;>first|exact c5.elim|rfl
     subst mO;have LQ:=h.et.c2 j fN aH ⟨q,p,by rw[Δ];exact sH⟩;rw[Δ] at LQ;exact .inr (LQ.hb_new (u:=#[y]) (Nat.le_refl _) j4 rfl)
    ·have a4:c'.dJ (c.bw (c.home j))=c.dJ (c.bw (c.home j)):=upd_ne _ _ Δ
     show Before _ _ (c'.dJ (c.bw (c.home j)));rw[a4];refine(h.et.c3 j fN aH rr ?_).app _;have:upd c.rel i true (c.bw (c.home j))=true:=bQ
     rwa [upd_ne _ _ Δ] at this
 refine h.laid (c':=c') Ο ((h.mem.two (vR w) (zG (kC.fits (h.mem.fit (.inl i))) (h.mem.fit _)) λr q Ξ=>?_).xQ fX) ((h.hold.two ζ (Sub.empty _) hSub (Apart.um _).symm dH λx γ=>?_).xQ fX) ?_ (h.bj.SL ψ eb uk LO) ⟨λr q cb Ξ dk cm iX=>?_,λr q Ξ cm=>?_⟩
  Tg ⟨λr q cb Ξ dk p op π κ=>?_,λj b v hv op Μ κ=>?_⟩
  ⟨g',?_,.inl rfl⟩ (λj δ=>⟨?_,upd_ne _ _ δ⟩) (.inr λj r q _ a b=>?_)
 ·rcases kU ψ Ξ with⟨rfl,rfl⟩|⟨_,cl⟩
  ·exact(h.mem.fV r o ψ:At r o w)
  ·exact h.mem.fV _ _ cl
 ·rcases γ with e|e
  ·cases e;exact⟨s,o,ψ,iz⟩
  ·cases e
 ·refine h.bU.word (i:=i) rfl (.inr rfl) (h.low ψ iz) dH fX λa=>?_;by_cases Δ:a=.inr s
  ·subst Δ;show dy _ _ (bO _ _ _ _);rw[dS];exact(((dy.release (h.bU.perms (.inl i)) rfl rfl (by rw[h.bU.hears];exact hd)).sub kC).mono λ_ x=>CD dH.1 nil x).join (h.bU.xP (.inr s) rfl dH nil)
  ·show dy _ _ (bO _ _ _ _);rw[bP _ _ Δ];by_cases Γ:a=.inl i
   ·subst Γ;rw[dS];exact dy.empty
   ·rw[bP _ _ Γ];exact h.bU.xP a rfl dH nil
 ·rcases kU ψ Ξ with⟨rfl,rfl⟩|⟨e,cl⟩
  ·have bA:(.inr cb:cN)≠.inr r:=λx=>by cases x;exact h.hold.p1 _ o _ ψ dk rfl
   show o.ar o.L (bO (bO c.H _ _) (.inr r) _ (.inr cb));rw[bP _ _ bA,jr];exact h.eF.p6 r o cb ψ dk (λj q p x=>cm j q p ((bm j r q p).2 x)) λj k L g x=>iX j k L g (LP _ _ _ _ _ x)
  ·have bA:(.inr cb:cN)≠.inr s:=λx=>e (h.hold.lg r s q o cb cl ψ (.inr dk) (by cases x;exact iz))
   show q.ar q.L (bO (bO c.H _ _) (.inr s) _ (.inr cb));rw[bP _ _ bA,jr];exact h.eF.p6 r q cb cl dk (λj q p x=>cm j q p ((bm j r q p).2 x)) λj k L g x=>iX j k L g (LP _ _ _ _ _ x)
 ·rcases kU ψ Ξ with⟨rfl,rfl⟩|⟨e,cl⟩
  ·show lZ o.D (k::o.ak) (bO (bO c.H _ _) (.inr r) _ (.inr r));rw[dS];exact⟨E,c.H (.inr r),cY,h.eF.mR r o ψ (λj q p x=>cm j q p ((bm j r q p).2 x)),iA.sub kC (Sub.refl _),rfl⟩
  ·have bA:(.inr r:cN)≠.inr s:=λx=>by cases x;exact e rfl
   show lZ q.D q.ak (bO (bO c.H _ _) (.inr s) _ (.inr r));rw[bP _ _ bA,jr];exact h.eF.mR r q cl (λj q p x=>cm j q p ((bm j r q p).2 x))
 ·rcases getElem?_append_cases π with⟨ru,iw⟩|⟨_,gA⟩
  ·have zR:∀h8,c.O r=some h8->h8.aZ=some cb->(∃af GH g,b' c.tok i s (.ch k mu .rel) op.g r=.ch af GH g)/\(c'.rel op.g=true->Before (t++#[y]) p (c'.dJ op.g)):=λh8 Γ Δ=>by
    obtain⟨⟨af,GH,g,μ⟩,Ε⟩:=h.fW.jH r h8 cb Γ Δ p op iw κ;refine⟨zQ eb (λ_ _ _ _=>⟨_,_,_,rfl⟩) _ _ _ _ _ μ,λι=>?_⟩;by_cases e:op.g=i
    ·have Γ:c'.dJ op.g=t.size:=by rw[e];exact upd_same ..
     rw[Γ];exact .inr (hb_po ru π j4 e)
    ·have Γ:c'.dJ op.g=c.dJ op.g:=upd_ne _ _ e
     have Δ:c.rel op.g=true:=by have:upd c.rel i true op.g=true:=ι;rwa [upd_ne _ _ e] at this
     rw[Γ];exact(Ε Δ).app _
   rcases kU ψ Ξ with⟨rfl,rfl⟩|⟨_,cl⟩
   ·exact zR o ψ dk
   ·exact zR q cl dk
  ·simp at gA;subst gA;cases κ;exfalso;rcases kU ψ Ξ with⟨rfl,rfl⟩|⟨e,cl⟩
   ·exact h.hold.p1 _ o _ ψ dk rfl
   ·exact e (h.hold.lg r s q o s cl ψ (.inr dk) iz)
 ·have l4:=fX j b v hv;rcases Array.mem_append.1 Μ with Μ|Μ
  ·exact h.fW.vV j b v l4 op Μ κ
  ·simp at Μ;subst Μ;cases κ;have:=(h.hold.kS s o s ψ iz).2.2 j;rw[this] at l4;cases l4
 ·rw[oq];show j2 P Q (upd c.T i (f (i==0,g',dj)) i) _ _ _;rw[upd_same];exact aI
 ·have h7:(Sum.inl j:cN)≠.inr s:=by simp
  have gm:(Sum.inl j:cN)≠.inl i:=λe=>δ (by cases e;rfl);simp[c',dc.x,upd_ne _ _ δ,sG _ δ,bP _ _ h7,bP _ _ gm]
 ·by_cases e:r=s
  ·subst e;rw[ψ] at a;cases a;exact⟨o',upd_same ..,b⟩
  ·exact⟨q,by show upd c.O s (some o') r=some q;rw[upd_ne _ _ e];exact a,b⟩
theorem Inv.CP (h:Inv P Q bn c gs w t) (Ο:gs[i]?=some g) (χ:Lc P (i==0) (l5 P Q f) g (c.x i)):ix P Q bn c gs w t i f:=by
 obtain⟨s,sp,n,aQ,g',J,μ,mO,Ε,au,bd,cH,GC⟩:=χ;have bf:i<gs.size:=mW Ο;obtain⟨o,ψ,b7⟩:=h.bj.ri i s sp J;subst b7;have eb:c.tok i s=.par n 0 aQ:=μ;have hd:c.deaf i=0:=Ε;have eu:c.rel i=false:=bd;have ν:=cH w (h.mem.fit (.inl i));have rr:=h.bj.par i s n 0 aQ eb;obtain⟨LR,l6,sF⟩:=h.bj.full ψ eb mO;have iz:ez s o.toSpec s:=.inl rfl;have v3:∀j q p,c.tok j s≠.par q p .bm:=λj q p δ=>by
  have e:=h.bj.par j s q p .bm δ;rw[<-rr] at e;subst e;rw[eb] at δ;rcases mO with rfl|rfl<;>cases δ
 let y:MemOp:={g:=i,fn:=g.frame.fn,pos:=g.frame.place,act:=MemAct.ofEvent (Go.ConcR.mk (Mark.acquire ⟨s,0,none⟩))}
 have GG:y.act=.mark (.acquire ⟨s,0,none⟩):=rfl
 have v5:Deaf t i=0:=by rw[h.bU.hears];exact hd
 have dH:mP c.O (upd c.O s (some o)):=mP.upd ψ rfl
 have nil:=zP (b:=.par n 0 .bm) eb ζ
 have LS:∀j,(∃k m g,c.tok j s=.ch k m g)->j≠0/\c.home j=s/\c.rel j=true/\Knows (t++#[y]) i (c.dJ j):=λj ⟨k,m,g,δ⟩=>by
  obtain⟨a1,a9,_⟩:=h.bj.o9 j s k m g δ;have cK:c.rel j=true:=(h.bj.eA j k m g a1 (by rw[a9];exact δ)).2 (by rw[sF j k m g δ];simp);obtain⟨op,bC,dt,fK,mU,_⟩:=h.et.c1 j a1 cK;rw[a9] at fK;exact⟨a1,a9,cK,Knows.marked bC fK mU h.bU.norel rfl GG v5⟩
 have Tj:=h.eF.mR s o ψ v3;obtain⟨bH,eM,Tk,Tl,Tm,Tn,To,j7,jL,GI,ln,GJ,GK,GL⟩:∃(bH:cN->Α) (eM:Α),Fits eM w/\(o.aZ≠none->o.ar o.L eM)/\(o.aZ=none->eM=Α.empty)/\Apart (c.H (.inl i)) eM/\Apart (c.H (.inr s)) eM/\
   bH (.inl i)=join (join (c.H (.inl i)) (c.H (.inr s))) eM/\(∀j,j≠i->bH (.inl j)=c.H (.inl j))/\(∀m,o.aZ=some m->bH (.inr m)=Α.empty)/\(∀b,b≠s->o.aZ≠some b->bH (.inr b)=c.H (.inr b))/\
   iV bH c.aN (upd c.O s (some o)) bn.heap.size/\hq bH c.aN (upd c.O s (some o)) bn w/\∀a,dy (t++#[y]) (j3 (b' c.tok i s (.par n 0 .bm)) (upd c.O s (some o)) (t++#[y]) a) (bH a):=by
  have mT:∀r q,upd c.O s (some o) r=some q->At r q w:=λr q Ξ=>by
   rcases kU ψ Ξ with⟨rfl,rfl⟩|⟨_,cl⟩
   ·exact h.mem.fV _ _ ψ
   ·exact h.mem.fV _ _ cl
  have xS:dy (t++#[y]) (Knows (t++#[y]) i) (join (c.H (.inl i)) (c.H (.inr s))):=
   ((h.bU.perms (.inl i)).own (λop Μ=>by simp at Μ;subst Μ;rfl)).join ((h.bU.perms (.inr s)).acquire h.bU.norel ψ iz (by rw[eb];simp) rfl rfl v5)
  have LU:iV (bO (bO c.H (.inl i) (join (c.H (.inl i)) (c.H (.inr s)))) (.inr s) Α.empty) c.aN (upd c.O s (some o)) bn.heap.size:=
   h.hold.two ζ (Sub.refl _) (Sub.empty _) (Apart.um _) dH λx γ=>by
    rcases γ with e|e
    ·cases e;exact⟨s,o,ψ,iz⟩
    ·cases e
  have LV:hq (bO (bO c.H (.inl i) (join (c.H (.inl i)) (c.H (.inr s)))) (.inr s) Α.empty) c.aN (upd c.O s (some o)) bn w:=h.mem.two (zG (h.mem.fit _) (h.mem.fit _)) (vR w) mT
  have p':(Sum.inl i:cN)≠.inr s:=ζ;cases fA:o.aZ with
  | none=>
   refine⟨bO (bO c.H (.inl i) (join (c.H (.inl i)) (c.H (.inr s)))) (.inr s) Α.empty,Α.empty,vR w,λx=>absurd rfl x,λ_=>rfl,Apart.um _,Apart.um _,?_,λj δ=>?_,λm hm=>(by cases hm),λb hb _=>?_,LU,LV,λa=>?_⟩
   ·rw[bP _ _ p',dS,GB]
   ·have gm:(Sum.inl j:cN)≠.inl i:=λe=>δ (by cases e;rfl);rw[bP _ _ ζ,bP _ _ gm]
   ·have gm:(Sum.inr b:cN)≠.inr s:=λe=>hb (by cases e;rfl);rw[bP _ _ gm,jr]
   ·by_cases Δ:a=.inr s
    ·subst Δ;rw[dS];exact dy.empty
    ·rw[bP _ _ Δ];by_cases Γ:a=.inl i
     ·subst Γ;rw[dS];exact xS
     ·rw[bP _ _ Γ];exact h.bU.xP a rfl dH nil
  | some m=>
   have hm:ez s o.toSpec m:=.inr fA
   have sI:m≠s:=h.hold.p1 s o m ψ fA
   have uA:(Sum.inr m:cN)≠.inr s:=λe=>sI (by cases e;rfl)
   have LW:(Sum.inl i:cN)≠.inr m:=ζ
   have Tp:∀j k L g,c.tok j s≠.ch k (.dr L) g:=λj k L g δ=>by
    rcases h.bj.pb j s k _ g o ψ δ (by rw[sF j k _ g δ];simp) with e|⟨e,_⟩<;>cases e
   have Tq:=h.eF.p6 s o m ψ fA v3 Tp
   have Tr:Apart (c.H (.inr s)) (c.H (.inr m)):=h.hold.apart _ _ (Ne.symm uA)
   have Ts:Apart (c.H (.inl i)) (c.H (.inr m)):=h.hold.apart _ _ LW
   have eP:bO (bO c.H (.inl i) (join (c.H (.inl i)) (c.H (.inr s)))) (.inr s) Α.empty (.inl i)=join (c.H (.inl i)) (c.H (.inr s)):=by rw[bP _ _ p',dS]
   have du:bO (bO c.H (.inl i) (join (c.H (.inl i)) (c.H (.inr s)))) (.inr s) Α.empty (.inr m)=c.H (.inr m):=by rw[bP _ _ uA,jr]
   have Tt:=LU.two (a:=.inl i) (b:=.inr m) (A:=join (join (c.H (.inl i)) (c.H (.inr s))) (c.H (.inr m))) (B:=Α.empty) (O':=upd c.O s (some o)) ζ (by rw[eP,du];exact Sub.refl _) (Sub.empty _) (Apart.um _) ⟨λs o' ν=>⟨o',ν,rfl⟩,λs o' ν=>⟨o',ν,rfl⟩⟩ λx γ=>by
    rcases γ with e|e
    ·cases e;exact⟨s,o,upd_same ..,hm⟩
    ·cases e
   have Tu:=LV.two (a:=.inl i) (b:=.inr m) (A:=join (join (c.H (.inl i)) (c.H (.inr s))) (c.H (.inr m))) (B:=Α.empty) (O':=upd c.O s (some o)) (zG (zG (h.mem.fit _) (h.mem.fit _)) (h.mem.fit _)) (vR w) mT;refine⟨_,c.H (.inr m),h.mem.fit _,λ_=>Tq,λx=>(by cases x),Ts,Tr,?_,λj δ=>?_,λcb dk=>?_,λb hb dV=>?_,Tt,Tu,λa=>?_⟩
   ·rw[bP _ _ LW,dS]
   ·have gm:(Sum.inl j:cN)≠.inl i:=λe=>δ (by cases e;rfl);rw[bP _ _ ζ,bP _ _ gm,bP _ _ ζ,bP _ _ gm]
   ·cases dk;rw[dS]
   ·have gm:(Sum.inr b:cN)≠.inr s:=λe=>hb (by cases e;rfl)
    have CQ:(Sum.inr b:cN)≠.inr m:=λe=>dV (by cases e;rfl);rw[bP _ _ CQ,jr,bP _ _ gm,jr]
   ·by_cases a4:a=.inr m
    ·subst a4;rw[dS];exact dy.empty
    ·rw[bP _ _ a4];by_cases Γ:a=.inl i
     ·subst Γ;rw[dS];refine xS.join ((h.bU.perms (.inr m)).nG rfl λk χ=>?_);rcases χ with⟨p,op,a1,a9,cK,gx⟩|χ
      ·obtain⟨lj,dt⟩:=h.fW.jH s o m ψ fA p op a1 a9;obtain⟨_,_,c3,c4⟩:=LS op.g lj;have hb:=(dt c3).app #[y];refine Knows.of_before ?_ c4;rcases hb with e|hb
       ·rw[<-e];exact gx.app _
       ·exact .inr ((gx.app #[y]).hb hb)
      ·exact(χ s o ψ hm i (by rw[eb];simp)).app _
     ·rw[bP _ _ Γ];by_cases Δ:a=.inr s
      ·subst Δ;rw[dS];exact dy.empty
      ·rw[bP _ _ Δ,bP _ _ Γ];exact h.bU.xP a rfl dH nil
 have Tv:Apart (c.H (.inl i)) (c.H (.inr s)):=h.hold.apart _ _ ζ
 have aI:=GC o.ak o.L (c.H (.inr s)) eM LR Tj (λx=>⟨l6 x,Tl x⟩) Tm Tv Tn To ⟨w,h.mem.fit _,h.mem.fit _,Tk⟩
 let dj:a2:={c.x i with G:=join (join (c.H (.inl i)) (c.H (.inr s))) eM,tok:=upd (c.tok i) s (.par n 0 .bm),view:=upd (c.view i) s none}
 let c':dc:={c with H:=bH,tok:=b' c.tok i s (.par n 0 .bm),view:=upd c.view i (upd (c.view i) s none),O:=upd c.O s (some o),T:=upd c.T i (f (i==0,g',dj))}
 have oq:c'.x i=dj:=by simp[c',dj,dc.x,upd_same,vZ,j7]
 have sC:∀j r,¬(j=i/\r=s)->b' c.tok i s (.par n 0 .bm) j r=c.tok j r:=λj r e=>e8 _ e
 have LX:∀r q b,c.O r=some q->r≠s->ez r q.toSpec b->b≠s/\o.aZ≠some b:=λr q b Ξ ι hb=>⟨λe=>ι (h.hold.lg r s q o b Ξ ψ hb (.inl e)),λe=>ι (h.hold.lg r s q o b Ξ ψ hb (.inr e))⟩;refine ix.go (c':=c') Ο ν ?_ _ rfl;rw[ofEvents_one];refine h.laid (c':=c') Ο GK GJ (h.bU.word (i:=i) rfl (.inl rfl) (h.low ψ iz) dH (λ_ _ _ x=>x) GL) (h.bj.gtake ψ eb mO) ⟨λr q cb Ξ dk cm iX=>?_,λr q Ξ cm=>?_⟩ ?_
  (h.fW.app h.bU.low (λop Μ b hb=>by simp at Μ;subst Μ;cases hb) (λj b v hv=>.inl ⟨v,hv⟩) (λr q Ξ=>?_) (λj r af mu g e=>zQ eb (λk m g e=>?_) j r af mu g e))
  ⟨g',?_,.inl rfl⟩ (λj δ=>⟨?_,upd_ne _ _ δ⟩) (.inr λj r q _ a b=>?_)
 ·rcases kU ψ Ξ with⟨rfl,rfl⟩|⟨e,cl⟩
  ·exact absurd (fi ..) (cm i n 0)
  ·obtain⟨Γ,Δ⟩:=LX r q cb cl e (.inr dk);show q.ar q.L (bH (.inr cb));rw[ln cb Γ Δ];exact h.eF.p6 r q cb cl dk (λj q p x=>cm j q p (by show b' c.tok i s _ j r=_;rw[sC j r (λy=>e y.2)];exact x)) λj k L g x=>iX j k L g (by show b' c.tok i s _ j r=_;rw[sC j r (λy=>e y.2)];exact x)
 ·rcases kU ψ Ξ with⟨rfl,rfl⟩|⟨e,cl⟩
  ·exact absurd (fi ..) (cm i n 0)
  ·obtain⟨Γ,Δ⟩:=LX r q r cl e (.inl rfl);show lZ q.D q.ak (bH (.inr r));rw[ln r Γ Δ];exact h.eF.mR r q cl (λj q p x=>cm j q p (by show b' c.tok i s _ j r=_;rw[sC j r (λy=>e y.2)];exact x))
 ·refine⟨λaf g' hL=>?_,λj fN δ=>?_,λj fN δ cm=>?_,λj fN δ a b=>(h.et.c3 j fN δ a b).app _⟩
  ·obtain⟨op,Μ,hK⟩:=Option.map_eq_some_iff.1 hL;rcases getElem?_append_cases Μ with⟨_,ll⟩|⟨_,gA⟩
   ·exact h.et.dY af g' (by simp[Trace.g?,ll,hK])
   ·simp at gA;subst gA;rw[<-hK];exact bf
  ·obtain⟨op,a1,a9,cK,gx,h6⟩:=h.et.c1 j fN δ;have π:=lt_size_of_getElem? a1;refine⟨op,by rw[getElem?_append_old π];exact a1,a9,cK,(heard_old π).2 gx,λaf hL ε=>?_⟩;obtain⟨sD,Μ,hK⟩:=Option.map_eq_some_iff.1 hL;rcases getElem?_append_cases Μ with⟨ru,ll⟩|⟨hle,gA⟩
   ·exact(h6 af (by simp[Trace.g?,ll,hK]) ((zI ru).1 ε)).app _
   ·exact absurd ε (xN (u:=#[y]) (λop Μ=>by simp at Μ;subst Μ;rfl) af hle)
  ·obtain⟨q,p,Ξ⟩:=cm;by_cases e:c.bw (c.home j)=i/\c.home j=s
   ·obtain⟨Γ,Δ⟩:=e;show Knows _ (c.bw (c.home j)) (c.dJ j);rw[Γ];have e2:j<gs.size:=by
     obtain⟨op,a1,a9,_⟩:=h.et.c1 j fN δ;exact h.et.dY (c.dJ j) j (by simp[Trace.g?,a1,a9])
    obtain⟨cp,dA,aa,e9⟩:=h.bj.sB j fN e2;rw[Δ] at e9;exact(LS j ⟨cp,dA,aa,e9⟩).2.2.2
   ·refine(h.et.c2 j fN δ ⟨q,p,?_⟩).app _;have:b' c.tok i s (.par n 0 .bm) (c.bw (c.home j)) (c.home j)=.par q p .bm:=Ξ
    rwa [sC _ _ e] at this
 ·rcases kU ψ Ξ with⟨rfl,rfl⟩|⟨_,cl⟩
  ·exact⟨_,ψ,rfl⟩
  ·exact⟨q,cl,rfl⟩
 ·cases e
 ·rw[oq];show j2 P Q (upd c.T i (f (i==0,g',dj)) i) _ _ _;rw[upd_same];exact aI
 ·simp[c',dc.x,upd_ne _ _ δ,sG _ δ,jL j δ]
 ·exact⟨q,by show upd c.O s (some o) r=some q;rw[CK ψ];exact a,b⟩
end
section
variable {n:Nat} {tok:Nat->Nat->Tok} {spec:Nat->Nat->Option Spec} {view:Nat->Nat->Option (Nat×aV)} {rel:Nat->Bool} {O:Nat->Option aV} {bw home:Nat->Nat} {s i:Nat} {o:aV}
theorem eY.fork (h:eY n tok spec view rel O bw home) (ν:O s=some o) {q p:Nat} (Ν:tok i s=.par q (p+1) .add) :
  eY (n+1) (upd (b' tok i s (.par q p .add)) n (upd (λ_=>.nil) s (.ch (q-(p+1)) .idle .work))) (upd spec n (upd (λ_=>none) s (some o.toSpec))) (upd (upd view i (upd (view i) s none)) n λ_=>none) (upd rel n false) O bw (upd home n s):=by
 have bf:i<n:=h.lt (s:=s) (by rw[Ν];simp)
 have lp:n≠i:=R
 have rr:=h.par i s q (p+1) .add Ν
 have ck:=(h.a7 s o ν).2
 have Ξ:p+1<=q:=by
  have Γ:ba n (λa=>tok a s) iT=q:=by
   rw[pW (φ:=iT) (λt Ν=>by cases t<;>simp_all [e1,iT]) ck.oi bf (by rw[Ν];rfl),Ν];rfl
  have Δ:ba n (λa=>tok a s) hH=p+1:=by
   rw[pW (φ:=hH) (λt Ν=>by cases t<;>simp_all [e1,hH]) ck.oi bf (by rw[Ν];rfl),Ν];rfl
  have:=ck.KW;omega
 generalize lq:upd (b' tok i s (.par q p .add)) n (upd (λ_=>.nil) s (.ch (q-(p+1)) .idle .work))=eG;have zT:eG n s=.ch (q-(p+1)) .idle .work:=by rw[<-lq,upd_same,upd_same]
 have GM:∀r,r≠s->eG n r=.nil:=λr ι=>by rw[<-lq,upd_same,upd_ne _ _ ι]
 have lr:eG i s=.par q p .add:=by rw[<-lq,upd_ne _ _ (Ne.symm lp),fi]
 have to:∀j r,j≠n->¬(j=i/\r=s)->eG j r=tok j r:=λj r J U=>by rw[<-lq,upd_ne _ _ J,e8 _ U]
 have qa:∀j r,r≠s->eG j r=tok j r:=λj r ι=>by
  by_cases e:j=n
  ·subst e;rw[GM r ι,h.out _ r (Nat.le_refl _)]
  ·exact to j r e λx=>ι x.2
 have CR:(λj=>eG j s)=upd (upd (λj=>tok j s) i (.par q p .add)) n (.ch (q-(p+1)) .idle .work):=by
  funext j
  by_cases e:j=n
  ·subst e;rw[zT,upd_same]
  ·rw[upd_ne _ _ e];by_cases aM:j=i
   ·subst aM;rw[lr,upd_same]
   ·rw[upd_ne _ _ aM,to j s e λx=>aM x.1]
 have LY:∀r,r≠s->(λj=>eG j r)=λj=>tok j r:=λr ι=>funext λj=>qa j r ι
 have ht:∀r,(λj=>tok j r) n=.nil:=λr=>h.out n r (Nat.le_refl _)
 have jG:∀j r k m g,eG j r=.ch k m g->(j=n/\r=s/\k=q-(p+1)/\m=.idle/\g=.work)\/(j≠n/\¬(j=i/\r=s)/\tok j r=.ch k m g):=λj r k m g δ=>by
  by_cases e:j=n
  ·subst e;by_cases aM:r=s
   ·subst aM;rw[zT] at δ;cases δ;exact .inl ⟨rfl,rfl,rfl,rfl,rfl⟩
   ·rw[GM r aM] at δ;cases δ
  ·by_cases aM:j=i/\r=s
   ·obtain⟨rfl,rfl⟩:=aM;rw[lr] at δ;cases δ
   ·rw[to j r e aM] at δ;exact .inr ⟨e,aM,δ⟩
 have GN:∀j r m fj aQ,eG j r=.par m fj aQ->(j=i/\r=s/\m=q/\fj=p/\aQ=.add)\/(j≠n/\r≠s/\tok j r=.par m fj aQ)\/(j≠n/\j≠i/\r=s/\tok j r=.par m fj aQ):=λj r m fj aQ δ=>by
  by_cases e:j=n
  ·subst e;by_cases aM:r=s
   ·subst aM;rw[zT] at δ;cases δ
   ·rw[GM r aM] at δ;cases δ
  ·by_cases aM:j=i/\r=s
   ·obtain⟨rfl,rfl⟩:=aM;rw[lr] at δ;cases δ;exact .inl ⟨rfl,rfl,rfl,rfl,rfl⟩
   ·rw[to j r e aM] at δ;by_cases Δ:r=s
    ·exact .inr (.inr ⟨e,λx=>aM ⟨x,Δ⟩,Δ,δ⟩)
    ·exact .inr (.inl ⟨e,Δ,δ⟩)
 have GO:∀j r k m g,tok j r=.ch k m g->j≠n/\eG j r=.ch k m g:=λj r k m g δ=>by
  have e2:j≠n:=λe=>by rw[e,h.out n r (Nat.le_refl _)] at δ;cases δ
  refine⟨e2,?_⟩;rw[to j r e2 λe=>?_]
  ·exact δ
  ·obtain⟨rfl,rfl⟩:=e;rw[Ν] at δ;cases δ
 have hΗ:eL (n+1) o (λj=>eG j s)<eL n o (λj=>tok j s):=by
  rw[CR,<-K4 (N:=n) (τ:=λj=>tok j s) (ht s)];exact Su (N:=n+1) R R (Ne.symm lp) Ν (ht s) _
 refine⟨λr jJ ι=>?_,λr ι j=>?_,λj r δ=>?_,λj r sp δ=>?_,λj r φ dW δ=>?_,λj r k L g jJ cl δ=>?_,λj r m fj aQ δ=>?_,λj r k m g δ=>?_,λj an δ=>?_,λj k m g an δ=>?_,?_,λj r δ ι=>?_,λj r k m g jJ cl δ Ο=>?_,λr j bJ k m g cb g' J U=>?_,λr j k m g jJ fj aQ J U=>?_,λr jJ ι=>?_,λr jJ ι=>?_⟩
 ·by_cases e:r=s
  ·subst e;rw[ν] at ι;cases ι;rw[CR];exact St (K3 (h.a7 r o ν) (ht r)) R R (Ne.symm lp) Ν (ht r) _
  ·rw[LY r e];exact K3 (h.a7 r jJ ι) (ht r)
 ·have e:r≠s:=λe=>by rw[e,ν] at ι;cases ι
  rw[qa j r e];exact h.bare r ι j
 ·rw[to j r R (λx=>R)];exact h.out j r R
 ·by_cases e:j=n
  ·subst e;rw[upd_same] at δ;by_cases aM:r=s
   ·subst aM;rw[upd_same] at δ;cases δ;exact⟨o,ν,rfl⟩
   ·rw[upd_ne _ _ aM] at δ;cases δ
  ·rw[upd_ne _ _ e] at δ;exact h.ri j r sp δ
 ·have old:∀j r φ dW,view j r=some (φ,dW)->∃jI,O r=some jI/\eL (n+1) jI (λa=>eG a r)<=φ/\(eL (n+1) jI (λa=>eG a r)=φ->jI=dW):=λj r φ dW hv=>by
   obtain⟨jI,J,U,μ⟩:=h.vN j r φ dW hv;refine⟨jI,J,?_⟩;by_cases e:r=s
   ·subst e;rw[ν] at J;cases J;exact⟨R,λx=>R⟩
   ·rw[LY r e,K4 (N:=n) (τ:=λj=>tok j r) (ht r)];exact⟨U,μ⟩
  by_cases e:j=n
  ·subst e;rw[upd_same] at δ;cases δ
  ·rw[upd_ne _ _ e] at δ;by_cases aM:j=i
   ·subst aM;rw[upd_same] at δ;by_cases Δ:r=s
    ·subst Δ;rw[upd_same] at δ;cases δ
    ·rw[upd_ne _ _ Δ] at δ;exact old _ _ _ _ δ
   ·rw[upd_ne _ _ aM] at δ;exact old _ _ _ _ δ
 ·rcases jG j r k _ g δ with⟨_,_,_,Ε,_⟩|⟨_,_,μ⟩
  ·cases Ε
  ·exact h.dr j r k L g jJ cl μ
 ·rcases GN j r m fj aQ δ with⟨rfl,rfl,_⟩|⟨_,_,μ⟩|⟨_,_,_,μ⟩
  ·exact rr
  ·exact h.par j r m fj aQ μ
  ·exact h.par j r m fj aQ μ
 ·rcases jG j r k m g δ with⟨rfl,rfl,_⟩|⟨e2,_,μ⟩
  ·exact⟨R,upd_same ..,R⟩
  ·obtain⟨a1,a9,cK⟩:=h.o9 j r k m g μ;exact⟨a1,by rw[upd_ne _ _ e2];exact a9,cK⟩
 ·by_cases e:j=n
  ·subst e;rw[upd_same];exact⟨_,_,_,zT⟩
  ·rw[upd_ne _ _ e];obtain⟨k,m,g,J⟩:=h.sB j an R;exact⟨k,m,g,(GO j _ k m g J).2⟩
 ·by_cases e:j=n
  ·subst e;rw[upd_same] at δ;rw[zT] at δ;cases δ;rw[upd_same];simp
  ·rw[upd_ne _ _ e] at δ;rw[upd_ne _ _ e];rcases jG j _ k m g δ with⟨x,_⟩|⟨_,_,μ⟩
   ·exact absurd x e
   ·exact h.eA j k m g an μ
 ·rw[upd_ne _ _ (show(0:Nat)≠n by omega)];exact h.ui
 ·by_cases e:j=n
  ·subst e;rw[upd_same] at δ;cases δ
  ·rw[upd_ne _ _ e] at δ ι;have:=h.pa j r δ ι;rw[to j r e λx=>?_]
   ·exact this
   ·obtain⟨rfl,rfl⟩:=x;rw[Ν] at this;exact this
 ·rcases jG j r k m g δ with⟨_,_,_,_,Ε⟩|⟨_,_,μ⟩
  ·exact absurd Ε Ο
  ·exact h.pb j r k m g jJ cl μ Ο
 ·have key:∀j k m g,tok j s=.ch k m g->k<q-(p+1):=λj k m g δ=>by
   have:=h.uj s j k m g q (p+1) .add δ (by rw[<-rr];exact Ν);omega
  rcases jG j r k m g J with⟨rfl,rfl,cK,_⟩|⟨_,_,μ⟩<;>rcases jG bJ r k cb g' U with⟨rfl,dt,fK,_⟩|⟨_,_,Ε⟩
  ·rfl
  ·have:=key bJ k cb g' Ε;omega
  ·subst dt;have:=key j k m g μ;omega
  ·exact h.vO r j bJ k m g cb g' μ Ε
 ·rcases jG j r k m g J with⟨_,rfl,cK,_⟩|⟨_,_,μ⟩
  ·rcases GN _ r jJ fj aQ U with⟨_,_,rfl,rfl,_⟩|⟨_,x,_⟩|⟨_,x,_⟩
   ·omega
   ·exact absurd rfl x
   ·exact absurd rr.symm x
  ·rcases GN _ r jJ fj aQ U with⟨_,rfl,rfl,rfl,_⟩|⟨_,_,Ε⟩|⟨_,x,rfl,Ε⟩
   ·have:=h.uj r j k m g jJ (fj+1) .add μ (by rw[<-rr];exact Ν);omega
   ·exact h.uj r j k m g jJ fj aQ μ Ε
   ·exact absurd rr.symm x
 ·obtain⟨a,b⟩:=h.fM r jJ ι;refine⟨a,λk=>(b k).trans ⟨λ⟨j,m,g,Γ,Δ⟩=>⟨j,m,g,(GO j r k m g Γ).2,Δ⟩,λ⟨j,m,g,Γ,Δ⟩=>?_⟩⟩;rcases jG j r k m g Γ with⟨_,_,_,Ε,_⟩|⟨_,_,μ⟩
  ·subst Ε;exact Δ.elim
  ·exact⟨j,m,g,μ,Δ⟩
 ·obtain⟨a,b⟩:=h.gz r jJ ι;refine⟨a,λk=>(b k).trans ⟨λ⟨j,m,g,Γ,Δ⟩=>⟨j,m,g,(GO j r k m g Γ).2,Δ⟩,λ⟨j,m,g,Γ,Δ⟩=>?_⟩⟩;rcases jG j r k m g Γ with⟨_,_,_,_,Ε⟩|⟨_,_,μ⟩
  ·exact absurd Ε Δ
  ·exact⟨j,m,g,μ,Δ⟩
def aV.new (sp:Spec):aV:={toSpec:=sp,cn:=0,wk:=0,sv:=0,nw:=0,db:=0,L:=[],cnt:=0,wt:=0,cP:=0,ak:=[]}
theorem Tw (N:Nat) (φ:Tok->Nat) (eE:φ .nil=0):ba N (λ_=>.nil) φ=0:=by
 induction N with
 | zero=>rfl
 | succ N ω=>rw[vJ,ω,eE]
theorem eY.Tx (h:eY n tok spec view rel O bw home) (ν:O s=none) (bf:i<n) (ι:rel i=false) (sp:Spec) :
  eY n (b' tok i s (.par 0 0 .add)) (upd spec i (upd (spec i) s (some sp))) (upd view i (upd (view i) s none)) rel (upd O s (some (aV.new sp))) (upd bw s i) home:=by
 have hb:=h.bare s ν
 have aY:∀j,j≠0->j<n->home j≠s:=λj an δ e=>by
  obtain⟨k,m,g,J⟩:=h.sB j an δ;rw[e,hb j] at J;cases J
 have CR:(λj=>b' tok i s (.par 0 0 .add) j s)=upd (λ_=>.nil) i (.par 0 0 .add):=by
  rw[Ll];have:(λj=>tok j s)=λ_=>.nil:=funext hb;rw[this]
 have qa:∀j r,r≠s->b' tok i s (.par 0 0 .add) j r=tok j r:=λj r ι=>e8 _ λx=>ι x.2
 have jG:∀j r k m g,b' tok i s (.par 0 0 .add) j r=.ch k m g↔tok j r=.ch k m g:=λj r k m g=>by
  by_cases e:j=i/\r=s
  ·obtain⟨rfl,rfl⟩:=e;rw[fi,hb];simp
  ·rw[e8 _ e]
 have xT:∀j k m g,tok j s≠.ch k m g:=λj k m g e=>by rw[hb] at e;cases e
 have hr:∀r q,upd O s (some (aV.new sp)) r=some q->(r=s/\q=aV.new sp)\/(r≠s/\O r=some q):=λr q Ξ=>by
  by_cases e:r=s
  ·subst e;rw[upd_same] at Ξ;cases Ξ;exact .inl ⟨rfl,rfl⟩
  ·rw[upd_ne _ _ e] at Ξ;exact .inr ⟨e,Ξ⟩
 have one:∀φ:Tok->Nat,φ .nil=0->ba n (upd (λ_=>.nil) i (.par 0 0 .add)) φ=φ (.par 0 0 .add):=λφ eE=>by
  have e:=gN (N:=n) (λ_=>.nil) (.par 0 0 .add) φ bf;rw[Tw n φ eE] at e;simp only[eE] at e;omega
 refine⟨λr q Ξ=>?_,λr ι j=>?_,λj r δ=>?_,λj r LZ δ=>?_,λj r φ dW δ=>?_,λj r k L g q Ξ δ=>?_,λj r m p aQ δ=>?_,λj r k m g δ=>?_,λj an δ=>?_,λj k m g an δ=>?_,h.ui,λj r δ ft=>?_,λj r k m g q Ξ δ Ο=>?_,λr j bJ k m g cb g' J U=>?_,λr j k m g q p aQ J U=>?_,λr q ι=>?_,λr q ι=>?_⟩
 ·rcases hr r q Ξ with⟨rfl,rfl⟩|⟨e,cl⟩
  ·rw[CR];constructor
   ·unfold pU;rw[one iS rfl,one og rfl,one mJ rfl,one lT rfl,one nB rfl,one lU rfl,one ra rfl,one oh rfl,one q' rfl];constructor<;>simp[aV.new,iS,og,mJ,lT,nB,lU,ra,oh,q']
   ·unfold o1;rw[one jF rfl,one kx rfl,one ky rfl,one lV rfl,one e1 rfl,one hH rfl,one iT rfl,one mK rfl,one lW rfl,one iU rfl];constructor<;>simp[aV.new,jF,kx,ky,lV,e1,hH,iT,mK,lW,iU]
  ·rw[Gn _ _ _ _ e];exact h.a7 r q cl
 ·have e:r≠s:=λe=>by rw[e,upd_same] at ι;cases ι
  rw[upd_ne _ _ e] at ι;rw[qa j r e];exact h.bare r ι j
 ·rw[e8 _ (λx=>R)];exact h.out j r δ
 ·by_cases e:j=i
  ·subst e;rw[upd_same] at δ;by_cases aM:r=s
   ·subst aM;rw[upd_same] at δ;cases δ;exact⟨_,upd_same ..,rfl⟩
   ·rw[upd_ne _ _ aM] at δ;obtain⟨q,a,b⟩:=h.ri j r LZ δ;exact⟨q,by rw[upd_ne _ _ aM];exact a,b⟩
  ·rw[upd_ne _ _ e] at δ;obtain⟨q,a,b⟩:=h.ri j r LZ δ;have aM:r≠s:=λaM=>by rw[aM,ν] at a;cases a
   exact⟨q,by rw[upd_ne _ _ aM];exact a,b⟩
 ·have old:∀j r φ dW,view j r=some (φ,dW)->∃jI,upd O s (some (aV.new sp)) r=some jI/\eL n jI (λa=>b' tok i s (.par 0 0 .add) a r)<=φ/\(eL n jI (λa=>b' tok i s (.par 0 0 .add) a r)=φ->jI=dW):=λj r φ dW hv=>by
   obtain⟨jI,a,b⟩:=h.vN j r φ dW hv;have aM:r≠s:=λaM=>by rw[aM,ν] at a;cases a
   exact⟨jI,by rw[upd_ne _ _ aM];exact a,by rw[Gn _ _ _ _ aM];exact b⟩
  by_cases e:j=i
  ·subst e;rw[upd_same] at δ;by_cases aM:r=s
   ·subst aM;rw[upd_same] at δ;cases δ
   ·rw[upd_ne _ _ aM] at δ;exact old _ _ _ _ δ
  ·rw[upd_ne _ _ e] at δ;exact old _ _ _ _ δ
 ·rw[jG] at δ;rcases hr r q Ξ with⟨rfl,rfl⟩|⟨e,cl⟩
  ·exact absurd δ (xT _ _ _ _)
  ·exact h.dr j r k L g q cl δ
 ·by_cases e:j=i/\r=s
  ·obtain⟨rfl,rfl⟩:=e;rw[upd_same]
  ·rw[e8 _ e] at δ;have aM:r≠s:=λaM=>by rw[aM,hb] at δ;cases δ
   rw[upd_ne _ _ aM];exact h.par j r m p aQ δ
 ·rw[jG] at δ;have aM:r≠s:=λaM=>by rw[aM] at δ;exact xT _ _ _ _ δ
  rw[upd_ne _ _ aM];exact h.o9 j r k m g δ
 ·obtain⟨k,m,g,J⟩:=h.sB j an δ;exact⟨k,m,g,(jG _ _ _ _ _).2 J⟩
 ·rw[jG] at δ;exact h.eA j k m g an δ
 ·have e:j≠i:=λe=>by rw[e,ι] at δ;cases δ
  rw[sG _ e];exact h.pa j r δ ft
 ·rw[jG] at δ;rcases hr r q Ξ with⟨rfl,rfl⟩|⟨e,cl⟩
  ·exact absurd δ (xT _ _ _ _)
  ·exact h.pb j r k m g q cl δ Ο
 ·rw[jG] at J U;exact h.vO r j bJ k m g cb g' J U
 ·rw[jG] at J;have aM:r≠s:=λaM=>by rw[aM] at J;exact xT _ _ _ _ J
  rw[upd_ne _ _ aM,qa _ _ aM] at U;exact h.uj r j k m g q p aQ J U
 ·simp only[jG];rcases hr r q ι with⟨rfl,rfl⟩|⟨e,cl⟩
  ·exact⟨List.nodup_nil,λk=>⟨λx=>(by cases x),λ⟨j,m,g,x,_⟩=>absurd x (xT _ _ _ _)⟩⟩
  ·exact h.fM r q cl
 ·simp only[jG];rcases hr r q ι with⟨rfl,rfl⟩|⟨e,cl⟩
  ·exact⟨List.nodup_nil,λk=>⟨λx=>(by cases x),λ⟨j,m,g,x,_⟩=>absurd x (xT _ _ _ _)⟩⟩
  ·exact h.gz r q cl
end
theorem Ty (t:Trace) (u:Trace) {k:Nat} (hu:∀op∈u,op.g≠k):Deaf (t++u) k=Deaf t k:=by
 obtain⟨l⟩:=u;rw[Deaf_append]
 induction l generalizing t with
 | nil=>rfl
 | cons y l ω=>
  have Κ:y.g≠k:=hu y ζ
  have Γ:deafStep k (Deaf t k) y=Deaf t k:=by
   unfold deafStep;split<;>simp[Κ]
  rw[List.foldl_cons,Γ];exact ω t (λop Μ=>hu op (by simp at Μ ⊢;exact .inr Μ))
theorem Tz {said:Bool} {t:Trace} {y z:MemOp} (h:¬Race said t) (nt:∀op∈(#[y,z]:Trace),op.act.touch?=none):¬Race said (t++#[y,z]):=by
 have e:t++#[y,z]=(t++#[y])++#[z]:=by rw[Array.append_assoc];rfl
 rw[e];refine noRace_append (g:=z.g) (noRace_append (g:=y.g) h (λop Μ=>by simp at Μ;rw[Μ]) λk a _ op Μ b hb _=>?_) (λop Μ=>by simp at Μ;rw[Μ]) λk a _ op Μ b hb _=>?_
 ·simp at Μ;subst Μ;rw[nt op ζ] at hb;cases hb
 ·simp at Μ;subst Μ;rw[nt op ζ] at hb;cases hb
section
variable {P:Program} {Q:Value->Prop} {bn:World} {c c':dc} {gs:Array Goroutine} {w w':World} {t:Trace} {i:Nat} {g g':Goroutine} {es:Array Event}
variable {f:Bool×Goroutine×a2->gy (Bool×Goroutine×a2)}
theorem Inv.GP (h:Inv P Q bn c gs w t) (Ο:gs[i]?=some g) (χ:Ld P (i==0) (l5 P Q f) g (c.x i)):ix P Q bn c gs w t i f:=by
 obtain⟨s,sp,n,p,g',ch,nD,nE,J,μ,Ε,au,uf,bd,cH,mX,aI,zU⟩:=χ;have bf:i<gs.size:=mW Ο;obtain⟨o,ψ,b7⟩:=h.bj.ri i s sp J;subst b7;have eb:c.tok i s=.par n (p+1) .add:=μ;have hd:c.deaf i=0:=Ε;have eu:c.rel i=false:=bd;have ν:=cH w (h.mem.fit (.inl i));have lp:gs.size≠i:=R;let N:=gs.size;let y:MemOp:={g:=i,fn:=g.frame.fn,pos:=g.frame.place,act:=.go gs.size};let z:MemOp:={g:=gs.size,fn:=ch.frame.fn,pos:=g.frame.place,act:=.start};have v5:Deaf t i=0:=by rw[h.bU.hears];exact hd
 have hM:Deaf t gs.size=0:=by
  have:=Ty #[] t (k:=gs.size) (λop Μ e=>by
   obtain⟨k,χ⟩:=Array.mem_iff_getElem?.1 Μ;have:=h.et.dY k op.g (by simp[Trace.g?,χ]);omega)
  rw[Array.empty_append] at this;exact this
 let CS:a2:={c.x i with G:=nD,tok:=upd (c.tok i) s (.par n p .add),view:=upd (c.view i) s none}
 let CU:a2:=⟨nE,λ_=>none,upd (λ_=>.nil) s (.ch (n-(p+1)) .idle .work),upd (λ_=>none) s (some o.toSpec),λ_=>none,0,false⟩
 let eG:=upd (b' c.tok i s (.par n p .add)) gs.size (upd (λ_=>.nil) s (.ch (n-(p+1)) .idle .work))
 let c':dc:={c with H:=bO (bO c.H (.inl i) nD) (.inl gs.size) nE,aN:=upd c.aN gs.size (λ_=>none),tok:=eG,spec:=upd c.spec gs.size (upd (λ_=>none) s (some o.toSpec)),view:=upd (upd c.view i (upd (c.view i) s none)) gs.size λ_=>none,deaf:=upd c.deaf gs.size 0,rel:=upd c.rel gs.size false,home:=upd c.home gs.size s,T:=upd (upd c.T i (f (i==0,g',CS))) gs.size (f (false,ch,CU))}
 have TA:=h.bj.fork ψ eb
 have eh:=runT_crowd_spawn (sl:=none) Ο ν
 have TB:((MemOp.ofEvents i g.frame.fn g.frame.place #[]).push {g:=i,fn:=g.frame.fn,pos:=g.frame.place,act:=.go gs.size} |>.push {g:=gs.size,fn:=ch.frame.fn,pos:=g.frame.place,act:=.start})=#[y,z]:=by rw[LC];rfl
 have L0:(Sum.inl i:cN)≠.inl gs.size:=λe=>lp (by cases e;rfl)
 have TC:∀r,eG gs.size r≠.nil->r=s:=λr ι=>by
  apply Classical.byContradiction;intro e;apply ι;show upd (b' c.tok i s (.par n p .add)) gs.size (upd (λ_=>.nil) s (.ch (n-(p+1)) .idle .work)) gs.size r=.nil;rw[upd_same,upd_ne _ _ e]
 have CV:∀j,j≠gs.size->eG j=b' c.tok i s (.par n p .add) j:=λj δ=>upd_ne _ _ δ
 have TD:∀j r,j≠gs.size->eG j r≠.nil->c.tok j r≠.nil:=λj r δ ι=>by
  rw[CV j δ] at ι;exact zP eb ζ j r ι
 have uz:∀j r q fj,eG j r=.par q fj .bm↔c.tok j r=.par q fj .bm:=λj r q fj=>by
  by_cases e:j=gs.size
  ·subst e;rw[h.bj.out gs.size r (Nat.le_refl _)];show upd (b' c.tok i s (.par n p .add)) gs.size (upd (λ_=>.nil) s (.ch (n-(p+1)) .idle .work)) gs.size r=_↔_;rw[upd_same];by_cases aM:r=s
   ·subst aM;rw[upd_same];simp
   ·rw[upd_ne _ _ aM]
  ·rw[CV j e];exact CN eb ζ ζ j r q fj
 have Gz:∀j r k L g,c.tok j r=.ch k (.dr L) g->eG j r=.ch k (.dr L) g:=λj r k L g δ=>by
  have e:j≠gs.size:=λe=>by rw[e,h.bj.out _ r (Nat.le_refl _)] at δ;cases δ
  rw[CV j e,e8 _ λx=>?_]
  ·exact δ
  ·obtain⟨rfl,rfl⟩:=x;rw[eb] at δ;cases δ
 have fa:∀j,j≠gs.size->c'.rel j=c.rel j:=λj δ=>upd_ne _ _ δ
 have CW:∀j,c'.rel j=true->j≠gs.size:=λj δ e=>by
  subst e;have:upd c.rel gs.size false gs.size=true:=δ;rw[upd_same] at this;cases this
 have fX:∀j b v,upd c.aN gs.size (λ_=>none) j b=some v->c.aN j b=some v:=λj b v hv=>by
  by_cases e:j=gs.size
  ·subst e;rw[upd_same] at hv;cases hv
  ·rw[upd_ne _ _ e] at hv;exact hv
 have nt:∀op∈(#[y,z]:Trace),op.act.touch?=none:=λop Μ=>by simp at Μ;rcases Μ with rfl|rfl<;>rfl
 have nH:∀op∈(#[y,z]:Trace),∀m,op.act≠.mark m:=λop Μ m=>by simp at Μ;rcases Μ with rfl|rfl<;>simp[y,z]
 have L1:∀k,Knows t i k->Knows (t++#[y,z]) gs.size k:=λk χ=>Knows.spawn χ rfl rfl rfl rfl v5 hM
 have TE:∀a k,j3 c.tok c.O t a k->j3 eG c.O (t++#[y,z]) a k:=λa k χ=>by
  cases a with
  | inl j=>exact Knows.app _ χ
  | inr b=>
   rcases χ with⟨p,op,J,U,μ,Ε⟩|χ
   ·have π:=lt_size_of_getElem? J;exact .inl ⟨p,op,by rw[getElem?_append_old π];exact J,U,(heard_old π).2 μ,Ε.app _⟩
   ·refine .inr λbk o' jD hb j δ=>?_;by_cases e:j=gs.size
    ·subst e;have:=TC bk δ;subst this;exact L1 k (χ _ o' jD hb i (by rw[eb];simp))
    ·exact(χ bk o' jD hb j (TD j bk e δ)).app _
 have L2:∀a,dy (t++#[y,z]) (j3 eG c.O (t++#[y,z]) a) (c.H a):=λa=>
  (h.bU.perms a).others (TE a) λop Μ x γ=>by rw[nt op Μ] at γ;cases γ
 have hinv:Inv P Q bn c' ((gs.setIfInBounds i g').push ch) w (t++#[y,z]):=by
  have cv:((gs.setIfInBounds i g').push ch).size=gs.size+1:=ζ;refine⟨by rw[cv];omega,(h.mem.two (mX.l.fits (h.mem.fit (.inl i))) (mX.r.fits (h.mem.fit (.inl i))) h.mem.fV).xQ fX,(h.hold.two L0 mX.l.rj mX.r.rj mX.apart ⟨λs o ν=>⟨o,ν,rfl⟩,λs o ν=>⟨o,ν,rfl⟩⟩ λx γ=>by rcases γ with e|e<;>cases e).xQ fX,?_,by rw[cv];exact TA,?_,?_,?_,?_⟩
  ·refine⟨λsaid=>Tz (h.bU.race said) nt,λop Μ=>?_,λop Μ a=>?_,λa=>?_,λj b v hv k a χ=>?_,λbk o' b jD hb k a χ fs=>?_,λj=>?_⟩
   ·rcases Array.mem_append.1 Μ with Μ|Μ
    ·exact h.bU.low op Μ
    ·simp at Μ;rcases Μ with rfl|rfl<;>trivial
   ·rcases Array.mem_append.1 Μ with Μ|Μ
    ·exact h.bU.norel op Μ a
    ·exact nH op Μ _
   ·show dy _ _ (bO (bO c.H (.inl i) nD) (.inl gs.size) nE a);by_cases Δ:a=.inl gs.size
    ·subst Δ;rw[dS];exact(((h.bU.perms (.inl i)).others L1 λop Μ x γ=>by rw[nt op Μ] at γ;cases γ):dy _ (Knows _ gs.size) _).sub mX.r
    ·rw[bP _ _ Δ];by_cases Γ:a=.inl i
     ·subst Γ;rw[dS];exact(L2 (.inl i)).sub mX.l
     ·rw[bP _ _ Γ];exact L2 a
   ·have:=fX j b v hv;rcases nA χ with hL|⟨_,op,Μ,_,γ⟩
    ·exact h.bU.o5 j b v this k a hL
    ·rw[nt op Μ] at γ;cases γ
   ·rcases nA χ with hL|⟨_,op,Μ,_,γ⟩
    ·rcases h.bU.cont bk o' b jD hb k a hL fs with x|⟨x,dj⟩
     ·exact .inl x
     ·obtain⟨op,j5,_⟩:=touch_of hL;exact .inr ⟨x,by rw[g?_old (lt_size_of_getElem? j5)];exact dj⟩
    ·rw[nt op Μ] at γ;cases γ
   ·have Γ:Deaf (t++#[y,z]) j=Deaf t j:=by
     have e:t++#[y,z]=(t++#[y])++#[z]:=by rw[Array.append_assoc];rfl
     rw[e,Deaf_push,Deaf_push];simp[deafStep,y,z]
    rw[Γ];by_cases e:j=gs.size
    ·subst e;rw[hM];exact(upd_same ..).symm
    ·rw[h.bU.hears];exact(upd_ne _ _ e).symm
  ·have js:∀b,bO (bO c.H (.inl i) nD) (.inl gs.size) nE (.inr b)=c.H (.inr b):=λb=>by rw[jr,jr]
   refine⟨λr q m Ξ hm cm iX=>?_,λr q Ξ cm=>?_⟩
   ·show q.ar q.L (bO (bO c.H (.inl i) nD) (.inl gs.size) nE (.inr m));rw[js];exact h.eF.p6 r q m Ξ hm (λj q p x=>cm j q p ((uz j r q p).2 x)) λj k L g x=>iX j k L g (Gz _ _ _ _ _ x)
   ·show lZ q.D q.ak (bO (bO c.H (.inl i) nD) (.inl gs.size) nE (.inr r));rw[js];exact h.eF.mR r q Ξ (λj q p x=>cm j q p ((uz j r q p).2 x))
  ·rw[cv];refine⟨λk a χ=>?_,λj fN δ=>?_,λj fN δ cm=>?_,λj fN δ a b=>?_⟩
   ·obtain⟨op,Μ,hK⟩:=Option.map_eq_some_iff.1 χ;rcases getElem?_append_cases Μ with⟨_,ll⟩|⟨_,gA⟩
    ·have:=h.et.dY k a (by simp[Trace.g?,ll,hK]);omega
    ·simp at gA;rcases gA with rfl|rfl
     ·rw[<-hK];show i<gs.size+1;omega
     ·rw[<-hK];show gs.size<gs.size+1;omega
   ·have e2:=CW j δ;rw[fa j e2] at δ;obtain⟨op,a1,a9,cK,gx,h6⟩:=h.et.c1 j fN δ;have π:=lt_size_of_getElem? a1;refine⟨op,?_,a9,?_,(heard_old π).2 gx,λaf hL ε=>?_⟩
    ·show(t++#[y,z])[c.dJ j]?=some op;rw[getElem?_append_old π];exact a1
    ·show op.act=.mark (.releaseMerge ⟨upd c.home gs.size s j,0,none⟩);rw[upd_ne _ _ e2];exact cK
    ·obtain⟨sD,Μ,hK⟩:=Option.map_eq_some_iff.1 hL;rcases getElem?_append_cases Μ with⟨ru,ll⟩|⟨hle,gA⟩
     ·exact(h6 af (by simp[Trace.g?,ll,hK]) ((zI ru).1 ε)).app _
     ·exact absurd ε (xN nt af hle)
   ·have e2:=CW j δ;rw[fa j e2] at δ;obtain⟨q,fj,Ξ⟩:=cm;have zV:c'.home j=c.home j:=upd_ne _ _ e2;rw[zV] at Ξ ⊢;exact(h.et.c2 j fN δ ⟨q,fj,(uz _ _ _ _).1 Ξ⟩).app _
   ·have e2:=CW j δ;rw[fa j e2] at δ;have zV:c'.home j=c.home j:=upd_ne _ _ e2;rw[zV] at a b ⊢;have TF:=CW _ b;rw[fa _ TF] at b;exact(h.et.c3 j fN δ a b).app _
  ·refine⟨λr q cb Ξ dk p op π κ=>?_,λj b v hv op Μ κ=>?_⟩
   ·rcases getElem?_append_cases π with⟨ru,iw⟩|⟨_,gA⟩
    ·obtain⟨⟨af,GH,g,μ⟩,Ε⟩:=h.fW.jH r q cb Ξ dk p op iw κ;have e2:op.g≠gs.size:=λe=>by rw[e,h.bj.out _ r (Nat.le_refl _)] at μ;cases μ
     refine⟨?_,λι=>?_⟩
     ·rw[show c'.tok op.g=b' c.tok i s (.par n _ .add) op.g from CV _ e2];exact zQ eb (λ_ _ _ e=>by cases e) _ _ _ _ _ μ
     ·rw[fa _ e2] at ι;exact(Ε ι).app _
    ·exact absurd κ (nH op gA _)
   ·rcases Array.mem_append.1 Μ with Μ|Μ
    ·exact h.fW.vV j b v (fX j b v hv) op Μ κ
    ·exact nH op Μ _ κ
  ·intro j b hb;by_cases e:j=gs.size
   ·subst e;rw[Array.getElem?_push] at hb;simp at hb;subst hb;refine⟨ch,?_,.inl rfl⟩;have γ:c'.x gs.size=CU:=by simp[c',CU,eG,dc.x,upd_same]
    have Ι:c'.T gs.size=f (false,ch,CU):=upd_same ..
    have hm:(gs.size==0)=false:=by rw[beq_eq_false_iff_ne];exact Nat.ne_of_gt h.pos
    rw[γ,Ι,hm];exact zU
   ·have dV:(gs.setIfInBounds i g')[j]?=some b:=by
     rw[Array.getElem?_push] at hb;simpa[e] using hb
    by_cases Γ:j=i
    ·subst Γ;rw[Array.getElem?_setIfInBounds_self_of_lt bf] at dV;cases dV;refine⟨g',?_,.inl rfl⟩;have γ:c'.x j=CS:=by simp[c',CS,eG,dc.x,upd_same,upd_ne _ _ e,vZ,bP _ _ L0]
     have Ι:c'.T j=f (j==0,g',CS):=by show upd (upd c.T j _) gs.size _ j=_;rw[upd_ne _ _ e,upd_same]
     rw[γ,Ι];exact aI
    ·rw[Array.getElem?_setIfInBounds_ne (Ne.symm Γ)] at dV;obtain⟨cQ,Gr,jM⟩:=h.vW j b dV;have h7:(Sum.inl j:cN)≠.inl gs.size:=λx=>e (by cases x;rfl);have gm:(Sum.inl j:cN)≠.inl i:=λx=>Γ (by cases x;rfl);have γ:c'.x j=c.x j:=by simp[c',eG,dc.x,upd_ne _ _ e,upd_ne _ _ Γ,sG _ Γ,bP _ _ h7,bP _ _ gm]
     have Ι:c'.T j=c.T j:=by show upd (upd c.T i _) gs.size _ j=_;rw[upd_ne _ _ e,upd_ne _ _ Γ]
     have Ν:c'.tok j=c.tok j:=congrArg a2.tok γ;refine⟨cQ,by rw[γ,Ι];exact Gr,?_⟩;rw[Ν];exact jM
 refine λsl=>⟨c',_,w,_,runT_crowd_spawn Ο ν,?_,.inr (.inl ⟨ζ,_,_,rfl⟩)⟩;rw[TB];exact hinv
end
end Go.TL
