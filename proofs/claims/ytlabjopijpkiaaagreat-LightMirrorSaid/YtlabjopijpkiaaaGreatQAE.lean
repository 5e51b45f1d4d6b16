import Derived.Test.YtlabjopijpkiaaaGreatQAD
set_option maxHeartbeats 16000000
set_option maxRecDepth 20000
set_option linter.unusedSectionVars false
set_option linter.unusedSimpArgs false
set_option linter.unusedVariables false
namespace Go.TL
open Go.Conc
open Go.ConcM (OsLater)
open Go.ConcN (sumTo upd sumTo_upd upd_ne upd_same sumTo_congr le_sumTo)
theorem Iw:∀(q:Nat) (l:List Nat),l.Nodup->(∀x∈l,x<q)->l.length<=q:=by
 intro q
 induction q with
 | zero=>intro l _ h;cases l with
  | nil=>simp
  | cons a l=>exact absurd (h a (by simp)) (by omega)
 | succ q Γ=>
  intro l Ι h;have:=Γ (l.erase q) (Ι.erase q) (λx U=>by
   have J:=(Ι.mem_erase_iff).1 U
   have:=h x J.2
   have:=J.1;omega)
  by_cases Ψ:q∈l
  ·have:=List.length_erase_of_mem Ψ;omega
  ·rw[List.erase_of_not_mem Ψ] at this;omega
theorem Ps (l:List Nat) (q:Nat) (Ι:l.Nodup) (h:∀x∈l,x<q) (Β:l.length=q):∀k,k<q->k∈l:=λk Α=>by
 apply Classical.byContradiction;intro h5;have:=Iw q (k::l) (List.nodup_cons.2 ⟨h5,Ι⟩) (λx U=>by
  rcases List.mem_cons.1 U with rfl|U
  ·exact Α
  ·exact h x U)
 simp at this;omega
section
variable {n:Nat} {tok:Nat->Nat->Tok} {spec:Nat->Nat->Option Spec} {view:Nat->Nat->Option (Nat×aD)} {rel:Nat->Bool} {O:Nat->Option aD} {bc home:Nat->Nat} {s i:Nat} {o:aD}
theorem ek.fin (h:ek n tok spec view rel O bc home) (ν:O s=some o) {j q p:Nat} {ay:qg} (Η:tok j s=.par q p ay) (he:hg (.par q p ay)=1):p=0/\o.cnt=0/\∀a k m g,tok a s=.ch k m g->g=.gone:=by
 have γ:j<n:=h.lt (s:=s) (by rw[Η];simp)
 have Ι:=(h.a5 s o ν).2
 have rC:aT n (λa=>tok a s) hg=1:=by
  rw[nX (φ:=hg) (λt Η=>by cases t<;>simp_all [ep,hg]) Ι.mw γ (by rw[Η];rfl),Η,he]
 have aΟ:aT n (λa=>tok a s) gw=p:=by
  rw[nX (φ:=gw) (λt Η=>by cases t<;>simp_all [ep,gw]) Ι.mw γ (by rw[Η];rfl),Η];rfl
 obtain⟨f1,f2,f3,f4,f5,f6⟩:=Ι.HI rC;refine⟨by omega,f4,λa k m g κ=>?_⟩;have DU:a<n:=h.lt (s:=s) (by rw[κ];simp);have z0:=Ι.Dg;have l1:=eW (λa=>tok a s) h0 DU;have l2:=eW (λa=>tok a s) iS DU;have qi:=eW (λa=>tok a s) iT DU;simp only[κ,h0,iS,iT] at l1 l2 qi;cases g with
 | gone=>rfl
 | work=>simp only[qh] at l1;omega
 | rel=>simp only[qh] at l1;omega
 | l2=>simp only[sO] at l2;omega
 | gO=>simp only[sP] at qi;omega
theorem ek.Ix (h:ek n tok spec view rel O bc home) (ν:O s=some o) {k:Nat} {m:kg} {g:rl} (Η:tok i s=.ch k m g) (Ο:g≠.gone):∀j q p,tok j s≠.par q p .bf:=λj q p γ=>
 Ο ((h.fin ν γ rfl).2.2 i k m g Η)
theorem ek.only (h:ek n tok spec view rel O bc home) (ν:O s=some o) (Η:hc (tok i s)=1):∀j k L g,tok j s=.ch k (.cW L) g->j=i:=λj k L g γ=>by
 apply Classical.byContradiction;intro bd;have aY:i<n:=h.lt (s:=s) (by intro e;rw[e] at Η;cases Η);have eH:j<n:=h.lt (s:=s) (by rw[γ];simp);have Δ:=fC (λa=>tok a s) .nil hc aY;have Ε:=eW (upd (λa=>tok a s) i .nil) hc eH;rw[upd_ne _ _ bd] at Ε;have xk:hc .nil=0:=rfl;have z1:hc (tok j s)=1:=by rw[γ];rfl
 simp only[Η,xk] at Δ;simp only[z1] at Ε;have:=(h.a5 s o ν).1.HG;have:=(h.a5 s o ν).1.f1;omega
def pf (tok:Nat->Nat->Tok) (s:Nat):Nat->List Nat
 | 0=>[]
 | n+1=>match tok n s with
  | .ch k _ _=>k::pf tok s n
  | _=>pf tok s n
theorem xn (tok:Nat->Nat->Tok) (s:Nat):∀n k,k∈pf tok s n↔∃j m g,j<n/\tok j s=.ch k m g
 | 0,k=>by simp[pf]
 | n+1,k=>by
  have Γ:=xn tok s n k
  have old:(∃j m g,j<n/\tok j s=.ch k m g)->∃j m g,j<n+1/\tok j s=.ch k m g:=λ⟨j,m,g,J,R⟩=>⟨j,m,g,by omega,R⟩
  have split:(∃j m g,j<n+1/\tok j s=.ch k m g)->(∃j m g,j<n/\tok j s=.ch k m g)\/∃m g,tok n s=.ch k m g:=λ⟨j,m,g,J,R⟩=>by
   by_cases e:j=n
   ·subst e;exact .inr ⟨m,g,R⟩
   ·exact .inl ⟨j,m,g,by omega,R⟩
  unfold pf;cases U:tok n s with
  | nil=>exact Γ.trans ⟨old,λh=>(split h).elim id λ⟨m,g,e⟩=>by rw[U] at e;cases e⟩
  | par=>exact Γ.trans ⟨old,λh=>(split h).elim id λ⟨m,g,e⟩=>by rw[U] at e;cases e⟩
  | ch Χ bO g'=>
   rw[List.mem_cons,Γ];constructor
   ·rintro(rfl|h)
    ·exact⟨n,bO,g',by omega,U⟩
    ·exact old h
   ·intro h;rcases split h with h|⟨m,g,e⟩
    ·exact .inr h
    ·rw[U] at e;cases e;exact .inl rfl
theorem Iy (tok:Nat->Nat->Tok) (s:Nat):∀n,(pf tok s n).length=aT n (λa=>tok a s) kj
 | 0=>rfl
 | n+1=>by
  have Γ:=Iy tok s n;rw[sU];unfold pf;cases U:tok n s<;>simp[kj,Γ]
theorem Iz (Β:∀j bp k m g bO g',tok j s=.ch k m g->tok bp s=.ch k bO g'->j=bp):∀n,(pf tok s n).Nodup
 | 0=>List.nodup_nil
 | n+1=>by
  have Γ:=Iz Β n;unfold pf;cases U:tok n s with
  | nil=>exact Γ
  | par=>exact Γ
  | ch k m g=>
   refine List.nodup_cons.2 ⟨λh=>?_,Γ⟩;obtain⟨j,bO,g',J,R⟩:=(xn tok s n k).1 h;have:=Β j n k bO g' m g R U;omega
theorem ek.full (h:ek n tok spec view rel O bc home) (ν:O s=some o) {q:Nat} {ay:qg} (Η:tok i s=.par q 0 ay) (kW:ay=.kR\/ay=.w4) :
  o.ag.Perm (List.range q)/\(o.aI≠none->o.L.Perm (List.range q))/\∀a k m g,tok a s=.ch k m g->g=.gone:=by
 have aY:i<n:=h.lt (s:=s) (by rw[Η];simp)
 have he:hg (.par q 0 ay)=1:=by rcases kW with rfl|rfl<;>rfl
 obtain⟨_,_,qq⟩:=h.fin ν Η he;have Ι:=(h.a5 s o ν).2;have b8:aT n (λa=>tok a s) hf=q:=by
  rw[nX (φ:=hf) (λt Η=>by cases t<;>simp_all [ep,hf]) Ι.mw aY (by rw[Η];rfl),Η];rfl
 have k5:aT n (λa=>tok a s) gw=0:=by
  rw[nX (φ:=gw) (λt Η=>by cases t<;>simp_all [ep,gw]) Ι.mw aY (by rw[Η];rfl),Η];rfl
 have aΡ:=Ι.HH
 have uT:=h.par i s q 0 ay Η;subst uT;have Pt:=Iz (tok:=tok) (s:=s) (λj bp k m g bO g' J R=>h.sZ s j bp k m g bO g' J R) n;have lt:∀k∈pf tok s n,k<q:=λk Α=>by
  obtain⟨j,m,g,_,γ⟩:=(xn tok s n k).1 Α;have:=h.rv s j k m g q 0 ay γ Η;omega
 have full:=Ps _ q Pt lt (by rw[Iy];omega);obtain⟨ez,fS⟩:=h.fv s o ν;obtain⟨Pu,lm⟩:=h.e3 s o ν;refine⟨(List.perm_ext_iff_of_nodup ez List.nodup_range).2 λk=>?_,λeX=>(List.perm_ext_iff_of_nodup Pu List.nodup_range).2 λk=>?_,qq⟩
 ·rw[fS,List.mem_range];constructor
  ·rintro⟨j,m,g,γ,_⟩;have:=h.rv s j k m g q 0 ay γ Η;omega
  ·intro Α;obtain⟨j,m,g,_,γ⟩:=(xn tok s n k).1 (full k Α);exact⟨j,m,g,γ,by rw[qq j k m g γ];simp⟩
 ·rw[lm,List.mem_range];constructor
  ·rintro⟨j,m,g,γ,_⟩;have:=h.rv s j k m g q 0 ay γ Η;omega
  ·intro Α;obtain⟨j,m,g,_,γ⟩:=(xn tok s n k).1 (full k Α);refine⟨j,m,g,γ,?_⟩;rcases h.nh j s k m g o ν γ (by rw[qq j k m g γ];simp) with rfl|⟨_,e⟩
   ·trivial
   ·exact absurd e eX
end
section
variable {H H':cl->υ} {ao n4:Nat->Nat->Option (Array Value×TypeId)} {tok dZ:Nat->Nat->Tok} {O O':Nat->Option aD} {bc:Nat->Nat} {deaf:Nat->Nat} {N gz:Nat} {t:Trace} {a' w w':World} {i:Nat} {y:MemOp} {b s:Nat} {o:aD}
theorem ofEvents_one {fn:FuncId} {pos:String} {e:Event}:MemOp.ofEvents i fn pos #[e]=#[{g:=i,fn,pos,act:=.ofEvent e}]:=by rw[ofEvents_eq];simp
theorem hK.word (h:hK H ao tok O bc deaf N t) (ad:y.g=i) (κ:y.act=.mark (.acquire ⟨b,0,none⟩)\/y.act=.mark (.releaseMerge ⟨b,0,none⟩)) (hb:b<N) (dc:kX O O') (hv:∀j b v,n4 j b=some v->ao j b=some v)
  (χ:∀k,c5 (t++#[y]) (iv dZ O' (t++#[y]) k) (H' k)):hK H' n4 dZ O' bc deaf N (t++#[y]):=by
 have nt:y.act.touch?=none:=by rcases κ with e|e<;>rw[e]<;>rfl
 have old:∀k a,touchAt (t++#[y]) k=some a->touchAt t k=some a/\k<t.size:=λk a Α=>by
  obtain⟨x,U,uI⟩:=touch_of Α;rcases getElem?_append_cases U with⟨ar,gN⟩|⟨_,fw⟩
  ·exact⟨by rw[touchAt_of gN];exact uI,ar⟩
  ·simp at fw;subst fw;rw[nt] at uI;cases uI
 refine⟨λsaid=>noRace_append (g:=i) (h.race said) (λop Θ=>by simp at Θ;subst Θ;exact ad) (λk a _ op Θ c η _=>by simp at Θ;subst Θ;rw[nt] at η;cases η),λop Θ=>?_,λop Θ a=>?_,χ,λj c v η k a Α=>h.m' j c v (hv j c v η) k a (old k a Α).1,λs o' c ν η k a Α eO=>?_,λj=>?_⟩
 ·rcases Array.mem_append.1 Θ with Θ|Θ
  ·exact h.low op Θ
  ·simp at Θ;subst Θ;rcases κ with e|e<;>rw[e]<;>exact hb
 ·rcases Array.mem_append.1 Θ with Θ|Θ
  ·exact h.norel op Θ a
  ·simp at Θ;subst Θ;rcases κ with e|e<;>rw[e]<;>simp
 ·obtain⟨kn,J,R⟩:=dc.1 s o' ν;obtain⟨ς,Κ⟩:=old k a Α;rcases h.cont s kn c J (by rw[R];exact η) k a ς eO with x|⟨x,cT⟩
  ·exact .inl x
  ·exact .inr ⟨x,by rw[g?_old Κ];exact cT⟩
 ·rw[Deaf_push,<-h.hears j];rcases κ with e|e<;>simp[deafStep,e]
theorem hK.uU (h:hK H ao tok O bc deaf N t) (k:cl) (nt:y.act.touch?=none) (dc:kX O O') (dv:∀i s,dZ i s≠.nil->tok i s≠.nil):c5 (t++#[y]) (iv dZ O' (t++#[y]) k) (H k):=
 (h.perms k).others (λ_ Α=>zV dc.1 dv (Dx _ Α)) λop Θ a κ=>by simp at Θ;subst Θ;rw[nt] at κ;cases κ
theorem Knows.marked {p:Nat} {op:MemOp} (J:t[p]?=some op) (R:op.act=.mark (.releaseMerge ⟨b,0,none⟩)) (ς:t.heard p) (dN:∀op∈t,∀a,op.act≠.mark (.release a)) (Ο:y.g=i) (ad:y.act=.mark (.acquire ⟨b,0,none⟩)) (hd:Deaf t i=0):Knows (t++#[y]) i p:=by
 have ix:(t++#[y])[t.size]?=some y:=by simp
 have xf:(t++#[y]).heard t.size:=⟨i,by simp[Trace.g?,Ο],by rw[deaf_old (Nat.le_refl _)];exact hd⟩
 have χ:=lt_size_of_getElem? J;refine⟨t.size,y,ix,Ο,.inr (.single (.inr ⟨.marked (a:=⟨b,0,none⟩) χ (.inr ?_) ?_ ?_,(heard_old χ).2 ς,xf⟩))⟩
 ·rw[act?_old χ,act?_of J,R]
 ·rw[act?_of ix,ad]
 ·intro Χ h3 eI jk;rw[act?_old eI] at jk;obtain⟨qo,iy,hj⟩:=Option.map_eq_some_iff.1 jk;exact dN qo (mem_of_getElem? iy) _ hj
theorem c5.lV {iq:Nat->Prop} {G:υ} (h:c5 t iq G) (nt:y.act.touch?=none) (Α:∀k,iq k->Knows (t++#[y]) i k):c5 (t++#[y]) (Knows (t++#[y]) i) G:=
 h.others Α λop Θ a κ=>by simp at Θ;subst Θ;rw[nt] at κ;cases κ
theorem Sub.empty (G:υ):Sub υ.empty G:=⟨λ_ _ _ _ h=>(by cases h),λ_ _ h=>(by cases h),λ_ _ h=>(by cases h)⟩
theorem Sub.both {A B bw:υ} (h:Sub A bw) (k:Sub B bw):Sub (join A B) bw:=by
 refine⟨λb o v p η=>?_,λb x ι=>?_,λb x hv=>?_⟩
 ·simp only[join] at η;cases Ο:A.av b o with
  | none=>rw[Ο] at η;exact k.av b o v p η
  | some z=>rw[Ο] at η;cases η;exact h.av b o v p Ο
 ·simp only[join] at ι;cases Ο:A.row b with
  | none=>rw[Ο] at ι;exact k.row b x ι
  | some z=>rw[Ο] at ι;cases ι;exact h.row b _ Ο
 ·simp only[join] at hv;cases Ο:A.obj b with
  | none=>rw[Ο] at hv;exact k.obj b x hv
  | some z=>rw[Ο] at hv;cases hv;exact h.obj b _ Ο
theorem Sub.Pv {G H:υ} (cS:Fits G w) (ψ:Fits H w) (ap:Apart G H):Sub H (join G H):=by
 refine⟨λb o v p η=>?_,λb x ι=>?_,λb x hv=>?_⟩
 ·simp only[join];cases Ο:G.av b o with
  | none=>exact⟨p,η,id⟩
  | some z=>
   obtain⟨eN,ef⟩:=z;have Δ:=cS.av b o eN ef Ο;have Ε:=ψ.av b o v p η;rw[Δ] at Ε;cases Ε;refine⟨ef,rfl,λχ=>?_⟩;subst χ;exact absurd ⟨_,Ο⟩ (ap.oZ b o ⟨_,η⟩)
 ·simp only[join];cases Ο:G.row b with
  | none=>exact ι
  | some z=>
   obtain⟨t1,gP⟩:=z;obtain⟨t2,fl⟩:=x;obtain⟨c1,a1,bg⟩:=cS.row b t1 gP Ο;obtain⟨c2,bs,cF⟩:=ψ.row b t2 fl ι;rw[a1] at bs;cases bs;rw[<-bg,<-cF]
 ·simp only[join];cases Ο:G.obj b with
  | none=>exact hv
  | some z=>exact absurd ⟨x,hv⟩ (ap.obj b ⟨z,Ο⟩)
theorem DV (G:υ):join G υ.empty=G:=by
 obtain⟨a,b,c⟩:=G;simp only[join,υ.empty];congr
 ·funext x y;cases a x y<;>rfl
 ·funext x;cases b x<;>rfl
 ·funext x;cases c x<;>rfl
theorem gj.uV (h:gj H ao O a' w) (hv:∀j b v,n4 j b=some v->ao j b=some v):gj H n4 O a' w:=⟨h.fit,λj b c t hb=>h.kV j b c t (hv j b _ hb),h.e',h.keep⟩
theorem hh.uV (h:hh H ao O gz) (hv:∀j b v,n4 j b=some v->ao j b=some v):hh H n4 O gz:=by
 have IA:∀j b,ao j b=none->n4 j b=none:=λj b e=>by
  cases U:n4 j b with
  | none=>rfl
  | some v=>rw[hv j b v U] at e;cases e
 exact⟨h.apart,h.high,h.mx,λj b v hb=>let ⟨a1,bg,cr⟩:=h.fresh j b v (hv j b v hb);⟨a1,bg,λk Α=>IA k b (cr k Α)⟩,λs o b ν hb=>let ⟨a1,bg,cr⟩:=h.jj s o b ν hb;⟨a1,bg,λk=>IA k b (cr k)⟩,h.jF,h.n0,h.dY⟩
theorem jo {o':aD} (ω:O s=some o) {r:Nat} {q:aD} (h:upd O s (some o') r=some q):(r=s/\q=o')\/(r≠s/\O r=some q):=by
 by_cases e:r=s
 ·subst e;rw[upd_same] at h;cases h;exact .inl ⟨rfl,rfl⟩
 ·rw[upd_ne _ _ e] at h;exact .inr ⟨e,h⟩
theorem z6 {a b:Tok} (Η:tok i s=a) (κ:∀q p,a≠.par q p .bf) (hb:∀q p,b≠.par q p .bf) (j r q p:Nat):bM tok i s b j r=.par q p .bf↔tok j r=.par q p .bf:=by
 by_cases e:j=i/\r=s
 ·obtain⟨rfl,rfl⟩:=e;rw[eG,Η];exact⟨λx=>absurd x (hb q p),λx=>absurd x (κ q p)⟩
 ·rw[ew _ e]
theorem xo {a b:Tok} (Η:tok i s=a) (κ:a≠.nil) (j r:Nat) (h:bM tok i s b j r≠.nil):tok j r≠.nil:=by
 by_cases e:j=i/\r=s
 ·obtain⟨rfl,rfl⟩:=e;rw[Η];exact κ
 ·rw[ew _ e] at h;exact h
theorem xp {a b:Tok} (Η:tok i s=a) (hb:∀k m g,a=.ch k m g->∃k m g,b=.ch k m g) (j r k:Nat) (m:kg) (g:rl) (h:tok j r=.ch k m g):∃k m g,bM tok i s b j r=.ch k m g:=by
 by_cases e:j=i/\r=s
 ·obtain⟨rfl,rfl⟩:=e;rw[eG];exact hb k m g (Η▸h)
 ·rw[ew _ e];exact⟨k,m,g,h⟩
end
section
variable {P:Program} {Q:Value->Prop} {a':World} {c c':cN} {gs:Array Goroutine} {w w':World} {t:Trace} {i:Nat} {g g':Goroutine} {es:Array Event}
variable {f:Bool×Goroutine×aK->fu (Bool×Goroutine×aK)}
theorem Inv.z7 (h:Inv P Q a' c gs w t) (Ο:gs[i]?=some g) (Α:HT P (i==0) (kq P Q f) g (c.x i)):gZ P Q a' c gs w t i f:=by
 obtain⟨s,sp,m,k,g',J,R,ς,Κ,aF,aV,cj,DW⟩:=Α;have aY:i<gs.size:=k4 Ο;obtain⟨o,ω,bF⟩:=h.a2.o7 i s sp J;subst bF;have dv:c.tok i s=.ch k .own .work:=ς;have hd:c.deaf i=0:=Κ;have dN:c.rel i=false:=aV;have ν:=cj w (h.mem.fit (.inl i));have tc:=h.a2.Ix ω dv (by simp);have c7:=h.dY.n3 s o m ω R tc (λj Χ L g γ=>by
  have:=h.a2.only ω (i:=i) (by rw[dv];rfl) j Χ L g γ;subst this;rw[dv] at γ;cases γ)
 have ck:=DW o.L (c.H (.inr m)) c7 (h.hold.apart _ _ (by simp)) ⟨(h.a2.e3 s o ω).1,λΑ=>(by
  obtain⟨j,bO,aa,Δ,Ε⟩:=((h.a2.e3 s o ω).2 k).1 Α;have:=h.a2.sZ s j i k bO aa _ _ Δ dv;subst this;rw[dv] at Δ;cases Δ;exact Ε),w,h.mem.fit _,h.mem.fit _⟩
 let cT:aK:={c.x i with G:=join (c.H (.inl i)) (c.H (.inr m)),tok:=upd (c.tok i) s (.ch k (.cW o.L) .work),view:=upd (c.view i) s none}
 let c':cN:={c with H:=bt (bt c.H (.inl i) (join (c.H (.inl i)) (c.H (.inr m)))) (.inr m) υ.empty,tok:=bM c.tok i s (.ch k (.cW o.L) .work),view:=upd c.view i (upd (c.view i) s none),O:=upd c.O s (some o),T:=upd c.T i (f (i==0,g',cT))}
 have dc:=kX.upd (o':=o) ω rfl
 have bf:=z6 (b:=.ch k (.cW o.L) .work) dv (by simp) (by simp)
 have nil:=xo (b:=.ch k (.cW o.L) .work) dv (by simp)
 have hm:dS s o.toSpec m:=.inr R;refine gZ.go (c':=c') Ο ν ?_ _ rfl;rw[ofEvents_one];have mz:c'.x i=cT:=by
  have:(Sum.inl i:cl)≠.inr m:=by simp
  simp[c',cT,cN.x,upd_same,ta,bu _ _ this]
 refine h.laid (c':=c') Ο (h.mem.two (xg (h.mem.fit _) (h.mem.fit _)) (s4 w) λr q Ψ=>?_) ?_ ?_ (h.a2.Dh ω dv) ⟨λr q bO Ψ cU b3 hk=>?_,λr q Ψ b3=>?_⟩
  (h.dL.app aY (λop Θ=>by simp at Θ;subst Θ;rfl) (λU=>by rw[dN] at U;cases U) (λs q p ⟨j,x⟩=>⟨j,(bf j s q p).1 x⟩) (λj s q p x=>(bf j s q p).1 x))
  (h.fS.app h.bD.low (λop Θ b hb=>by simp at Θ;subst Θ;cases hb) (λj b v hv=>.inl ⟨v,hv⟩) (λr q Ψ=>?_) (λj r Χ mu g e=>xp dv (λ_ _ _ _=>⟨_,_,_,rfl⟩) j r Χ mu g e))
  ⟨g',?_,.inl rfl⟩ (λj γ=>⟨?_,upd_ne _ _ γ⟩) (.inr λj r q _ a b=>?_)
 ·rcases jo ω Ψ with⟨rfl,rfl⟩|⟨_,bV⟩
  ·exact h.mem.e' _ _ ω
  ·exact h.mem.e' _ _ bV
 ·exact h.hold.two (by simp) (Sub.refl _) (Sub.empty _) (Apart.rz _) dc λx U=>by
   rcases U with e|e
   ·cases e;exact⟨s,o,ω,hm⟩
   ·cases e
 ·refine h.bD.word (i:=i) rfl (.inl rfl) (h.low ω hm) dc (λ_ _ _ x=>x) λa=>?_;by_cases Ε:a=.inr m
  ·subst Ε;show c5 _ _ (bt _ _ _ _);rw[dm];exact c5.empty
  ·show c5 _ _ (bt _ _ _ _);rw[bu _ _ Ε];by_cases Δ:a=.inl i
   ·subst Δ;rw[dm];exact((h.bD.perms (.inl i)).own (λop Θ=>by simp at Θ;subst Θ;rfl)).join ((h.bD.perms (.inr m)).acquire h.bD.norel ω hm (by rw[dv];simp) rfl rfl (by rw[h.bD.hears];exact hd))
   ·rw[bu _ _ Δ];exact h.bD.uU a rfl dc nil
 ·rcases jo ω Ψ with⟨rfl,rfl⟩|⟨e,bV⟩
  ·exact absurd (eG ..) (hk i k q.L .work)
  ·have bd:(.inr bO:cl)≠.inr m:=λx=>by cases x;exact e (h.hold.jF r s q o m bV ω (.inr cU) hm)
   show q.bw q.L (bt (bt c.H _ _) (.inr m) _ (.inr bO));rw[bu _ _ bd,hL];exact h.dY.n3 r q bO bV cU (λj q p x=>b3 j q p ((bf j r q p).2 x)) λj k L g x=>hk j k L g (by show bM c.tok i s _ j r=_;rw[ew _ (λy=>e y.2)];exact x)
 ·rcases jo ω Ψ with⟨rfl,rfl⟩|⟨e,bV⟩
  ·have bd:(.inr r:cl)≠.inr m:=λx=>by cases x;exact h.hold.n0 _ q m ω R rfl
   show ko q.D q.ag (bt (bt c.H _ _) (.inr m) _ (.inr r));rw[bu _ _ bd,hL];exact h.dY.kZ r q ω (λj q p x=>b3 j q p ((bf j r q p).2 x))
  ·have bd:(.inr r:cl)≠.inr m:=λx=>by cases x;exact e (h.hold.jF m s q o m bV ω (.inl rfl) hm)
   show ko q.D q.ag (bt (bt c.H _ _) (.inr m) _ (.inr r));rw[bu _ _ bd,hL];exact h.dY.kZ r q bV (λj q p x=>b3 j q p ((bf j r q p).2 x))
 ·rcases jo ω Ψ with⟨rfl,rfl⟩|⟨_,bV⟩
  ·exact⟨_,ω,rfl⟩
  ·exact⟨q,bV,rfl⟩
 ·rw[mz];show iu P Q (upd c.T i (f (i==0,g',cT)) i) _ _ _;rw[upd_same];exact ck
 ·have gP:(Sum.inl j:cl)≠.inr m:=by simp
  have fl:(Sum.inl j:cl)≠.inl i:=λe=>γ (by cases e;rfl);simp[c',cN.x,upd_ne _ _ γ,qs _ γ,bu _ _ gP,bu _ _ fl]
 ·exact⟨q,by show upd c.O s (some o) r=some q;rw[z3 ω];exact a,b⟩
theorem Inv.DX (h:Inv P Q a' c gs w t) (Ο:gs[i]?=some g) (Α:HU P (i==0) (kq P Q f) g (c.x i)):gZ P Q a' c gs w t i f:=by
 obtain⟨s,sp,m,k,L,g',G',E,J,R,ς,Κ,aF,aV,cj,k6,eA,ck⟩:=Α;have aY:i<gs.size:=k4 Ο;obtain⟨o,ω,bF⟩:=h.a2.o7 i s sp J;subst bF;have dv:c.tok i s=.ch k (.cW L) .work:=ς;have hd:c.deaf i=0:=Κ;have dN:c.rel i=false:=aV;have ν:=cj w (h.mem.fit (.inl i));have aS:o.L=L:=h.a2.cW i s k L .work o ω dv;let o':aD:={o with L:=o.L++[k]};let cT:aK:={c.x i with G:=G',tok:=upd (c.tok i) s (.ch k .fin .work),view:=upd (c.view i) s none};let c':cN:={c with H:=bt (bt c.H (.inl i) G') (.inr m) E,tok:=bM c.tok i s (.ch k .fin .work),view:=upd c.view i (upd (c.view i) s none),O:=upd c.O s (some o'),T:=upd c.T i (f (i==0,g',cT))};have dc:kX c.O (upd c.O s (some o')):=kX.upd ω rfl;have bf:=z6 (b:=.ch k .fin .work) dv (by simp) (by simp);have nil:=xo (b:=.ch k .fin .work) dv (by simp);have hm:dS s o.toSpec m:=.inr R;refine gZ.go (c':=c') Ο ν ?_ _ rfl;rw[ofEvents_one];have mz:c'.x i=cT:=by
  have:(Sum.inl i:cl)≠.inr m:=by simp
  simp[c',cT,cN.x,upd_same,ta,bu _ _ this]
 refine h.laid (c':=c') Ο (h.mem.two (k6.l.fits (h.mem.fit (.inl i))) (k6.r.fits (h.mem.fit (.inl i))) λr q Ψ=>?_) ?_ ?_ (h.a2.OY ω dv) ⟨λr q bO Ψ cU b3 hk=>?_,λr q Ψ b3=>?_⟩
  (h.dL.app aY (λop Θ=>by simp at Θ;subst Θ;rfl) (λU=>by rw[dN] at U;cases U) (λs q p ⟨j,x⟩=>⟨j,(bf j s q p).1 x⟩) (λj s q p x=>(bf j s q p).1 x))
  ⟨λr q bO Ψ cU p op χ κ=>?_,λj b v hv op Θ κ=>?_⟩
  ⟨g',?_,.inl rfl⟩ (λj γ=>⟨?_,upd_ne _ _ γ⟩) (.inr λj r q _ a b=>?_)
 ·rcases jo ω Ψ with⟨rfl,rfl⟩|⟨_,bV⟩
  ·exact(h.mem.e' r o ω:dF r o w)
  ·exact h.mem.e' _ _ bV
 ·exact h.hold.two (by simp) k6.l.o8 k6.r.o8 k6.apart dc λx U=>by
   rcases U with e|e
   ·cases e;exact⟨s,o,ω,hm⟩
   ·cases e
 ·refine h.bD.word (i:=i) rfl (.inr rfl) (h.low ω hm) dc (λ_ _ _ x=>x) λa=>?_;by_cases Ε:a=.inr m
  ·subst Ε;show c5 _ _ (bt _ _ _ _);rw[dm];exact((c5.release (h.bD.perms (.inl i)) rfl rfl (by rw[h.bD.hears];exact hd)).sub k6.r).mono λ_ x=>zV dc.1 nil x
  ·show c5 _ _ (bt _ _ _ _);rw[bu _ _ Ε];by_cases Δ:a=.inl i
   ·subst Δ;rw[dm];exact((h.bD.perms (.inl i)).own (λop Θ=>by simp at Θ;subst Θ;rfl)).sub k6.l
   ·rw[bu _ _ Δ];exact h.bD.uU a rfl dc nil
 ·rcases jo ω Ψ with⟨rfl,rfl⟩|⟨e,bV⟩
  ·have e:bO=m:=by have:o.aI=some bO:=cU;rw[R] at this;cases this;rfl
   subst e;show o.bw (o.L++[k]) (bt (bt c.H _ _) (.inr bO) _ (.inr bO));rw[dm,aS];exact eA
  ·have bd:(.inr bO:cl)≠.inr m:=λx=>by cases x;exact e (h.hold.jF r s q o m bV ω (.inr cU) hm)
   show q.bw q.L (bt (bt c.H _ _) (.inr m) _ (.inr bO));rw[bu _ _ bd,hL];exact h.dY.n3 r q bO bV cU (λj q p x=>b3 j q p ((bf j r q p).2 x)) λj k L g x=>hk j k L g (by show bM c.tok i s _ j r=_;rw[ew _ (λy=>e y.2)];exact x)
 ·rcases jo ω Ψ with⟨rfl,rfl⟩|⟨e,bV⟩
  ·have bd:(.inr r:cl)≠.inr m:=λx=>by cases x;exact h.hold.n0 _ o m ω R rfl
   show ko o.D o.ag (bt (bt c.H _ _) (.inr m) _ (.inr r));rw[bu _ _ bd,hL];exact h.dY.kZ r o ω (λj q p x=>b3 j q p ((bf j r q p).2 x))
  ·have bd:(.inr r:cl)≠.inr m:=λx=>by cases x;exact e (h.hold.jF m s q o m bV ω (.inl rfl) hm)
   show ko q.D q.ag (bt (bt c.H _ _) (.inr m) _ (.inr r));rw[bu _ _ bd,hL];exact h.dY.kZ r q bV (λj q p x=>b3 j q p ((bf j r q p).2 x))
 ·rcases getElem?_append_cases χ with⟨_,hl⟩|⟨_,fw⟩
  ·have xq:∀gQ,c.O r=some gQ->gQ.aI=some bO->(∃Χ mu g,bM c.tok i s (.ch k .fin .work) op.g r=.ch Χ mu g)/\(c.rel op.g=true->Before (t++#[{g:=i,fn:=g.frame.fn,pos:=g.frame.place,act:=MemAct.ofEvent (Go.ConcR.mk (Mark.releaseMerge {block:=m,off:=0}))}]) p (c.df op.g)):=λgQ Δ Ε=>by
    obtain⟨⟨Χ,mu,g,ς⟩,Κ⟩:=h.fS.h2 r gQ bO Δ Ε p op hl κ;exact⟨xp dv (λ_ _ _ _=>⟨_,_,_,rfl⟩) _ _ _ _ _ ς,λι=>(Κ ι).app _⟩
   rcases jo ω Ψ with⟨rfl,rfl⟩|⟨_,bV⟩
   ·exact xq o ω cU
   ·exact xq q bV cU
  ·simp at fw;subst fw;cases κ;have:r=s:=by
    rcases jo ω Ψ with⟨rfl,rfl⟩|⟨_,bV⟩
    ·rfl
    ·exact h.hold.jF r s q o m bV ω (.inr cU) hm
   subst this;exact⟨⟨k,.fin,.work,eG ..⟩,λι=>by
    have:c.rel i=true:=ι;rw[dN] at this;cases this⟩
 ·rcases Array.mem_append.1 Θ with Θ|Θ
  ·exact h.fS.s8 j b v hv op Θ κ
  ·simp at Θ;subst Θ;cases κ;have:=(h.hold.jj s o m ω hm).2.2 j;have kp:c.ao j m=some v:=hv;rw[this] at kp;cases kp
 ·rw[mz];show iu P Q (upd c.T i (f (i==0,g',cT)) i) _ _ _;rw[upd_same];exact ck
 ·have gP:(Sum.inl j:cl)≠.inr m:=by simp
  have fl:(Sum.inl j:cl)≠.inl i:=λe=>γ (by cases e;rfl);simp[c',cN.x,upd_ne _ _ γ,qs _ γ,bu _ _ gP,bu _ _ fl]
 ·by_cases e:r=s
  ·subst e;rw[ω] at a;cases a;exact⟨o',upd_same ..,b⟩
  ·exact⟨q,by show upd c.O s (some o') r=some q;rw[upd_ne _ _ e];exact a,b⟩
end
section
variable {P:Program} {Q:Value->Prop} {a':World} {c c':cN} {gs:Array Goroutine} {w w':World} {t:Trace} {i:Nat} {g g':Goroutine} {es:Array Event}
variable {f:Bool×Goroutine×aK->fu (Bool×Goroutine×aK)}
theorem Inv.parent (h:Inv P Q a' c gs w t) {s:Nat} {o:aD} (ω:c.O s=some o):c.bc s<gs.size/\∃q p ay,c.tok (c.bc s) s=.par q p ay:=by
 obtain⟨i0,jm,χ⟩:=zJ (φ:=ep) (N:=gs.size) (τ:=λa=>c.tok a s) (by rw[(h.a2.a5 s o ω).2.mw];exact Nat.one_pos);have xj:∃q p ay,c.tok i0 s=.par q p ay:=by
  cases U:c.tok i0 s with
  | par q p ay=>exact⟨q,p,ay,rfl⟩
  | nil=>simp[U,ep] at χ
  | ch=>simp[U,ep] at χ
 obtain⟨q,p,ay,U⟩:=xj;have cw:=h.a2.par i0 _ q p ay U;subst cw;exact⟨jm,q,p,ay,U⟩
theorem Inv.DY (h:Inv P Q a' c gs w t) (Ο:gs[i]?=some g) (Α:HV P (i==0) (kq P Q f) g (c.x i)):gZ P Q a' c gs w t i f:=by
 obtain⟨s,sp,k,mu,g',E,J,ς,ry,Pw,Κ,aF,aV,cj,iW,dQ,ck⟩:=Α;have aY:i<gs.size:=k4 Ο;obtain⟨o,ω,bF⟩:=h.a2.o7 i s sp J;subst bF;have dv:c.tok i s=.ch k mu .work:=ς;have hd:c.deaf i=0:=Κ;have dN:c.rel i=false:=aV;have IB:∀a7,a7≠s->fi (c.tok i a7):=Pw;have ν:=cj w (h.mem.fit (.inl i));obtain⟨jm,qp,ar⟩:=h.a2.nf i s k mu .work dv;have tc:=h.a2.Ix ω dv (by simp);let y:MemOp:={g:=i,fn:=g.frame.fn,pos:=g.frame.place,act:=MemAct.ofEvent (Go.ConcR.mk (Mark.releaseMerge ⟨s,0,none⟩))};have DZ:y.act=.mark (.releaseMerge ⟨s,0,none⟩):=rfl;have ix:(t++#[y])[t.size]?=some y:=by simp
 have Px:(t++#[y]).heard t.size:=⟨i,by simp[Trace.g?,y],by rw[deaf_old (Nat.le_refl _)];exact(h.bD.hears i).trans hd⟩
 let o':aD:={o with ag:=k::o.ag}
 let cT:aK:={c.x i with G:=υ.empty,ao:=λ_=>none,tok:=upd (c.tok i) s (.ch k mu .rel),view:=upd (c.view i) s none,rel:=true}
 let c':cN:={c with H:=bt (bt c.H (.inl i) υ.empty) (.inr s) (join E (c.H (.inr s))),ao:=upd c.ao i λ_=>none,tok:=bM c.tok i s (.ch k mu .rel),view:=upd c.view i (upd (c.view i) s none),O:=upd c.O s (some o'),rel:=upd c.rel i true,df:=upd c.df i t.size,T:=upd c.T i (f (i==0,g',cT))}
 have dc:kX c.O (upd c.O s (some o')):=kX.upd ω rfl
 have bf:=z6 (b:=.ch k mu .rel) dv (by simp) (by simp)
 have nil:=xo (b:=.ch k mu .rel) dv (by simp)
 have jq:dS s o.toSpec s:=.inl rfl
 have fa:∀j b v,upd c.ao i (λ_=>none) j b=some v->c.ao j b=some v:=λj b v hv=>by
  by_cases e:j=i
  ·subst e;rw[upd_same] at hv;cases hv
  ·rw[upd_ne _ _ e] at hv;exact hv
 have iA:=h.hold.apart (.inl i) (.inr s) (by simp)
 have hSub:Sub (join E (c.H (.inr s))) (join (c.H (.inl i)) (c.H (.inr s))):=Sub.both (Sub.o8 iW) (Sub.Pv (h.mem.fit _) (h.mem.fit _) iA)
 have IC:∀j r Χ L g,c.tok j r=.ch Χ (.cW L) g->bM c.tok i s (.ch k mu .rel) j r=.ch Χ (.cW L) g:=λj r Χ L g γ=>by
  rw[ew _ (λe=>?_)]
  ·exact γ
  ·obtain⟨rfl,rfl⟩:=e;rw[dv] at γ;rcases ry with rfl|⟨rfl,_⟩<;>cases γ
 have qn:∀j,j≠i->∀r,bM c.tok i s (.ch k mu .rel) j r=c.tok j r:=λj γ r=>ew _ λe=>γ e.1;refine gZ.go (c':=c') Ο ν ?_ _ rfl;rw[ofEvents_one];have mz:c'.x i=cT:=by
  have:(Sum.inl i:cl)≠.inr s:=by simp
  simp[c',cT,cN.x,upd_same,ta,bu _ _ this]
 have Py:s7 gs.size c'.tok c'.rel c'.bc c'.home c'.df (t++#[y]):=by
  refine⟨λΧ g' gB=>?_,λj e4 γ=>?_,λj e4 γ b3=>?_,λj e4 γ pg bA=>?_⟩
  ·obtain⟨op,Θ,gA⟩:=Option.map_eq_some_iff.1 gB;rcases getElem?_append_cases Θ with⟨_,jI⟩|⟨_,fw⟩
   ·exact h.dL.dA Χ g' (by simp[Trace.g?,jI,gA])
   ·simp at fw;subst fw;rw[<-gA];exact aY
  ·by_cases e:j=i
   ·subst e;have Δ:c'.df j=t.size:=upd_same ..;rw[Δ];refine⟨y,ix,rfl,by rw[DZ];show _=MemAct.mark (.releaseMerge ⟨c.home j,0,none⟩);rw[qp],Px,λΧ gB η=>?_⟩;obtain⟨op,Θ,gA⟩:=Option.map_eq_some_iff.1 gB;rcases getElem?_append_cases Θ with⟨ph,jI⟩|⟨hle,fw⟩
    ·exact .inr (hb_po ph Θ ix gA)
    ·exact absurd η (uS (u:=#[y]) (λop Θ=>by simp at Θ;subst Θ;rfl) Χ hle)
   ·have dE:c.rel j=true:=by have:upd c.rel i true j=true:=γ;rwa [upd_ne _ _ e] at this
    have Δ:c'.df j=c.df j:=upd_ne _ _ e;rw[Δ];obtain⟨op,a1,bg,cr,fX,hI⟩:=h.dL.c1 j e4 dE;have χ:=lt_size_of_getElem? a1;refine⟨op,by rw[getElem?_append_old χ];exact a1,bg,cr,(heard_old χ).2 fX,λΧ gB η=>?_⟩;obtain⟨qo,Θ,gA⟩:=Option.map_eq_some_iff.1 gB;rcases getElem?_append_cases Θ with⟨ph,jI⟩|⟨hle,fw⟩
    ·exact(hI Χ (by simp[Trace.g?,jI,gA]) ((xi ph).1 η)).app _
    ·exact absurd η (uS (u:=#[y]) (λop Θ=>by simp at Θ;subst Θ;rfl) Χ hle)
  ·obtain⟨q,p,Ψ⟩:=b3;have bV:c.tok (c.bc (c.home j)) (c.home j)=.par q p .bf:=(bf _ _ q p).1 Ψ;by_cases e:j=i
   ·subst e;rw[qp] at bV;exact absurd bV (tc _ q p)
   ·have dE:c.rel j=true:=by have:upd c.rel i true j=true:=γ;rwa [upd_ne _ _ e] at this
    have Δ:c'.df j=c.df j:=upd_ne _ _ e;rw[Δ];exact(h.dL.c2 j e4 dE ⟨q,p,bV⟩).app _
  ·by_cases e:j=i
   ·subst e;exfalso;have Pz:c.bc s≠0:=by rw[<-qp];exact pg
    have bd:c.bc s≠j:=by omega
    have xr:c.rel (c.bc s)=true:=by
     have:upd c.rel j true (c.bc (c.home j))=true:=bA;rw[qp,upd_ne _ _ bd] at this;exact this
    obtain⟨_,q,p,ay,qt⟩:=h.parent ω;have cG:fi (c.tok (c.bc s) s):=by
     by_cases Ε:s=c.home (c.bc s)
     ·obtain⟨cB,fq,aa,eI⟩:=h.a2.qm (c.bc s) Pz (by omega);rw[<-Ε,qt] at eI;cases eI
     ·exact h.a2.ng _ s xr Ε
    rw[qt] at cG;cases ay<;>first|exact cG.elim|exact tc _ _ _ qt
   ·have dE:c.rel j=true:=by have:upd c.rel i true j=true:=γ;rwa [upd_ne _ _ e] at this
    have Δ:c'.df j=c.df j:=upd_ne _ _ e;rw[Δ];by_cases Ε:c.bc (c.home j)=i
    ·have a3:c'.df (c.bc (c.home j))=t.size:=by rw[Ε];exact upd_same ..
     show Before _ _ (c'.df (c.bc (c.home j)));rw[a3];obtain⟨op,a1,_⟩:=h.dL.c1 j e4 dE;have eH:j<gs.size:=by
      obtain⟨op,a1,bg,_⟩:=h.dL.c1 j e4 dE;exact h.dL.dA (c.df j) j (by simp[Trace.g?,a1,bg])
     obtain⟨cB,fq,aa,eI⟩:=h.a2.qm j e4 eH;obtain⟨h4,uW⟩:=h.obj (i:=j) (s:=c.home j) (by rw[eI];simp);obtain⟨_,q,p,ay,qt⟩:=h.parent uW;rw[Ε] at qt;have bd:c.home j≠s:=λcg=>by rw[cg,dv] at qt;cases qt
     have cG:=IB _ bd;rw[qt] at cG;have kW:ay=.bf:=by cases ay<;>first|exact cG.elim|rfl
     subst kW;have ID:=h.dL.c2 j e4 dE ⟨q,p,by rw[Ε];exact qt⟩;rw[Ε] at ID;exact .inr (ID.hb_new (u:=#[y]) (Nat.le_refl _) ix rfl)
    ·have a3:c'.df (c.bc (c.home j))=c.df (c.bc (c.home j)):=upd_ne _ _ Ε
     show Before _ _ (c'.df (c.bc (c.home j)));rw[a3];refine(h.dL.c3 j e4 dE pg ?_).app _;have:upd c.rel i true (c.bc (c.home j))=true:=bA
     rwa [upd_ne _ _ Ε] at this
 refine h.laid (c':=c') Ο ((h.mem.two (s4 w) (xg (iW.fits (h.mem.fit (.inl i))) (h.mem.fit _)) λr q Ψ=>?_).uV fa) ((h.hold.two (by simp) (Sub.empty _) hSub (Apart.rz _).symm dc λx U=>?_).uV fa) ?_ (h.a2.OZ ω dv ry IB) ⟨λr q bO Ψ cU b3 hk=>?_,λr q Ψ b3=>?_⟩
  Py ⟨λr q bO Ψ cU p op χ κ=>?_,λj b v hv op Θ κ=>?_⟩
  ⟨g',?_,.inl rfl⟩ (λj γ=>⟨?_,upd_ne _ _ γ⟩) (.inr λj r q _ a b=>?_)
 ·rcases jo ω Ψ with⟨rfl,rfl⟩|⟨_,bV⟩
  ·exact(h.mem.e' r o ω:dF r o w)
  ·exact h.mem.e' _ _ bV
 ·rcases U with e|e
  ·cases e;exact⟨s,o,ω,jq⟩
  ·cases e
 ·refine h.bD.word (i:=i) rfl (.inr rfl) (h.low ω jq) dc fa λa=>?_;by_cases Ε:a=.inr s
  ·subst Ε;show c5 _ _ (bt _ _ _ _);rw[dm];exact(((c5.release (h.bD.perms (.inl i)) rfl rfl (by rw[h.bD.hears];exact hd)).sub iW).mono λ_ x=>zV dc.1 nil x).join (h.bD.uU (.inr s) rfl dc nil)
  ·show c5 _ _ (bt _ _ _ _);rw[bu _ _ Ε];by_cases Δ:a=.inl i
   ·subst Δ;rw[dm];exact c5.empty
   ·rw[bu _ _ Δ];exact h.bD.uU a rfl dc nil
 ·rcases jo ω Ψ with⟨rfl,rfl⟩|⟨e,bV⟩
  ·have bd:(.inr bO:cl)≠.inr r:=λx=>by cases x;exact h.hold.n0 _ o _ ω cU rfl
   show o.bw o.L (bt (bt c.H _ _) (.inr r) _ (.inr bO));rw[bu _ _ bd,hL];exact h.dY.n3 r o bO ω cU (λj q p x=>b3 j q p ((bf j r q p).2 x)) λj k L g x=>hk j k L g (IC _ _ _ _ _ x)
  ·have bd:(.inr bO:cl)≠.inr s:=λx=>e (h.hold.jF r s q o bO bV ω (.inr cU) (by cases x;exact jq))
   show q.bw q.L (bt (bt c.H _ _) (.inr s) _ (.inr bO));rw[bu _ _ bd,hL];exact h.dY.n3 r q bO bV cU (λj q p x=>b3 j q p ((bf j r q p).2 x)) λj k L g x=>hk j k L g (IC _ _ _ _ _ x)
 ·rcases jo ω Ψ with⟨rfl,rfl⟩|⟨e,bV⟩
  ·show ko o.D (k::o.ag) (bt (bt c.H _ _) (.inr r) _ (.inr r));rw[dm];exact⟨E,c.H (.inr r),dQ,h.dY.kZ r o ω (λj q p x=>b3 j q p ((bf j r q p).2 x)),iA.sub iW (Sub.refl _),rfl⟩
  ·have bd:(.inr r:cl)≠.inr s:=λx=>by cases x;exact e rfl
   show ko q.D q.ag (bt (bt c.H _ _) (.inr s) _ (.inr r));rw[bu _ _ bd,hL];exact h.dY.kZ r q bV (λj q p x=>b3 j q p ((bf j r q p).2 x))
 ·rcases getElem?_append_cases χ with⟨ph,hl⟩|⟨_,fw⟩
  ·have xq:∀gQ,c.O r=some gQ->gQ.aI=some bO->(∃Χ D1 g,bM c.tok i s (.ch k mu .rel) op.g r=.ch Χ D1 g)/\(c'.rel op.g=true->Before (t++#[y]) p (c'.df op.g)):=λgQ Δ Ε=>by
    obtain⟨⟨Χ,D1,g,ς⟩,Κ⟩:=h.fS.h2 r gQ bO Δ Ε p op hl κ;refine⟨xp dv (λ_ _ _ _=>⟨_,_,_,rfl⟩) _ _ _ _ _ ς,λι=>?_⟩;by_cases e:op.g=i
    ·have Δ:c'.df op.g=t.size:=by rw[e];exact upd_same ..
     rw[Δ];exact .inr (hb_po ph χ ix e)
    ·have Δ:c'.df op.g=c.df op.g:=upd_ne _ _ e
     have Ε:c.rel op.g=true:=by have:upd c.rel i true op.g=true:=ι;rwa [upd_ne _ _ e] at this
     rw[Δ];exact(Κ Ε).app _
   rcases jo ω Ψ with⟨rfl,rfl⟩|⟨_,bV⟩
   ·exact xq o ω cU
   ·exact xq q bV cU
  ·simp at fw;subst fw;cases κ;exfalso;rcases jo ω Ψ with⟨rfl,rfl⟩|⟨e,bV⟩
   ·exact h.hold.n0 _ o _ ω cU rfl
   ·exact e (h.hold.jF r s q o s bV ω (.inr cU) jq)
 ·have kp:=fa j b v hv;rcases Array.mem_append.1 Θ with Θ|Θ
  ·exact h.fS.s8 j b v kp op Θ κ
  ·simp at Θ;subst Θ;cases κ;have:=(h.hold.jj s o s ω jq).2.2 j;rw[this] at kp;cases kp
 ·rw[mz];show iu P Q (upd c.T i (f (i==0,g',cT)) i) _ _ _;rw[upd_same];exact ck
 ·have gP:(Sum.inl j:cl)≠.inr s:=by simp
  have fl:(Sum.inl j:cl)≠.inl i:=λe=>γ (by cases e;rfl);simp[c',cN.x,upd_ne _ _ γ,qs _ γ,bu _ _ gP,bu _ _ fl]
 ·by_cases e:r=s
  ·subst e;rw[ω] at a;cases a;exact⟨o',upd_same ..,b⟩
  ·exact⟨q,by show upd c.O s (some o') r=some q;rw[upd_ne _ _ e];exact a,b⟩
theorem Inv.z8 (h:Inv P Q a' c gs w t) (Ο:gs[i]?=some g) (Α:HW P (i==0) (kq P Q f) g (c.x i)):gZ P Q a' c gs w t i f:=by
 obtain⟨s,sp,n,ay,g',J,ς,kW,Κ,aF,aV,cj,DW⟩:=Α;have aY:i<gs.size:=k4 Ο;obtain⟨o,ω,bF⟩:=h.a2.o7 i s sp J;subst bF;have dv:c.tok i s=.par n 0 ay:=ς;have hd:c.deaf i=0:=Κ;have dN:c.rel i=false:=aV;have ν:=cj w (h.mem.fit (.inl i));have pg:=h.a2.par i s n 0 ay dv;obtain⟨IE,kr,qq⟩:=h.a2.full ω dv kW;have jq:dS s o.toSpec s:=.inl rfl;have tc:∀j q p,c.tok j s≠.par q p .bf:=λj q p γ=>by
  have e:=h.a2.par j s q p .bf γ;rw[<-pg] at e;subst e;rw[dv] at γ;rcases kW with rfl|rfl<;>cases γ
 let y:MemOp:={g:=i,fn:=g.frame.fn,pos:=g.frame.place,act:=MemAct.ofEvent (Go.ConcR.mk (Mark.acquire ⟨s,0,none⟩))}
 have DZ:y.act=.mark (.acquire ⟨s,0,none⟩):=rfl
 have te:Deaf t i=0:=by rw[h.bD.hears];exact hd
 have dc:kX c.O (upd c.O s (some o)):=kX.upd ω rfl
 have nil:=xo (b:=.par n 0 .bf) dv (by simp)
 have IF:∀j,(∃k m g,c.tok j s=.ch k m g)->j≠0/\c.home j=s/\c.rel j=true/\Knows (t++#[y]) i (c.df j):=λj ⟨k,m,g,γ⟩=>by
  obtain⟨a1,bg,_⟩:=h.a2.nf j s k m g γ;have cr:c.rel j=true:=(h.a2.n1 j k m g a1 (by rw[bg];exact γ)).2 (by rw[qq j k m g γ];simp);obtain⟨op,bs,cF,fD,k2,_⟩:=h.dL.c1 j a1 cr;rw[bg] at fD;exact⟨a1,bg,cr,Knows.marked bs fD k2 h.bD.norel rfl DZ te⟩
 have PA:=h.dY.kZ s o ω tc;obtain⟨bH,ed,PB,PC,PD,PE,PF,iB,h6,D2,jJ,D3,D4,D5⟩:∃(bH:cl->υ) (ed:υ),Fits ed w/\(o.aI≠none->o.bw o.L ed)/\(o.aI=none->ed=υ.empty)/\Apart (c.H (.inl i)) ed/\Apart (c.H (.inr s)) ed/\
   bH (.inl i)=join (join (c.H (.inl i)) (c.H (.inr s))) ed/\(∀j,j≠i->bH (.inl j)=c.H (.inl j))/\(∀m,o.aI=some m->bH (.inr m)=υ.empty)/\(∀b,b≠s->o.aI≠some b->bH (.inr b)=c.H (.inr b))/\
   hh bH c.ao (upd c.O s (some o)) a'.heap.size/\gj bH c.ao (upd c.O s (some o)) a' w/\∀a,c5 (t++#[y]) (iv (bM c.tok i s (.par n 0 .bf)) (upd c.O s (some o)) (t++#[y]) a) (bH a):=by
  have k0:∀r q,upd c.O s (some o) r=some q->dF r q w:=λr q Ψ=>by
   rcases jo ω Ψ with⟨rfl,rfl⟩|⟨_,bV⟩
   ·exact h.mem.e' _ _ ω
   ·exact h.mem.e' _ _ bV
  have uX:c5 (t++#[y]) (Knows (t++#[y]) i) (join (c.H (.inl i)) (c.H (.inr s))):=
   ((h.bD.perms (.inl i)).own (λop Θ=>by simp at Θ;subst Θ;rfl)).join ((h.bD.perms (.inr s)).acquire h.bD.norel ω jq (by rw[dv];simp) rfl rfl te)
  have IG:hh (bt (bt c.H (.inl i) (join (c.H (.inl i)) (c.H (.inr s)))) (.inr s) υ.empty) c.ao (upd c.O s (some o)) a'.heap.size:=
   h.hold.two (by simp) (Sub.refl _) (Sub.empty _) (Apart.rz _) dc λx U=>by
    rcases U with e|e
    ·cases e;exact⟨s,o,ω,jq⟩
    ·cases e
  have IH:gj (bt (bt c.H (.inl i) (join (c.H (.inl i)) (c.H (.inr s)))) (.inr s) υ.empty) c.ao (upd c.O s (some o)) a' w:=h.mem.two (xg (h.mem.fit _) (h.mem.fit _)) (s4 w) k0
  have mA:(Sum.inl i:cl)≠.inr s:=by simp
  cases eX:o.aI with
  | none=>
   refine⟨bt (bt c.H (.inl i) (join (c.H (.inl i)) (c.H (.inr s)))) (.inr s) υ.empty,υ.empty,s4 w,λx=>absurd rfl x,λ_=>rfl,Apart.rz _,Apart.rz _,?_,λj γ=>?_,λm hm=>(by cases hm),λb hb _=>?_,IG,IH,λa=>?_⟩
   ·rw[bu _ _ mA,dm,DV]
   ·have fl:(Sum.inl j:cl)≠.inl i:=λe=>γ (by cases e;rfl);rw[bu _ _ (by simp),bu _ _ fl]
   ·have fl:(Sum.inr b:cl)≠.inr s:=λe=>hb (by cases e;rfl);rw[bu _ _ fl,hL]
   ·by_cases Ε:a=.inr s
    ·subst Ε;rw[dm];exact c5.empty
    ·rw[bu _ _ Ε];by_cases Δ:a=.inl i
     ·subst Δ;rw[dm];exact uX
     ·rw[bu _ _ Δ];exact h.bD.uU a rfl dc nil
  | some m=>
   have hm:dS s o.toSpec m:=.inr eX
   have qu:m≠s:=h.hold.n0 s o m ω eX
   have qv:(Sum.inr m:cl)≠.inr s:=λe=>qu (by cases e;rfl)
   have II:(Sum.inl i:cl)≠.inr m:=by simp
   have PG:∀j k L g,c.tok j s≠.ch k (.cW L) g:=λj k L g γ=>by
    rcases h.a2.nh j s k _ g o ω γ (by rw[qq j k _ g γ];simp) with e|⟨e,_⟩<;>cases e
   have PH:=h.dY.n3 s o m ω eX tc PG
   have PI:Apart (c.H (.inr s)) (c.H (.inr m)):=h.hold.apart _ _ (Ne.symm qv)
   have PJ:Apart (c.H (.inl i)) (c.H (.inr m)):=h.hold.apart _ _ II
   have er:bt (bt c.H (.inl i) (join (c.H (.inl i)) (c.H (.inr s)))) (.inr s) υ.empty (.inl i)=join (c.H (.inl i)) (c.H (.inr s)):=by rw[bu _ _ mA,dm]
   have fb:bt (bt c.H (.inl i) (join (c.H (.inl i)) (c.H (.inr s)))) (.inr s) υ.empty (.inr m)=c.H (.inr m):=by rw[bu _ _ qv,hL]
   have PK:=IG.two (a:=.inl i) (b:=.inr m) (A:=join (join (c.H (.inl i)) (c.H (.inr s))) (c.H (.inr m))) (B:=υ.empty) (O':=upd c.O s (some o)) (by simp) (by rw[er,fb];exact Sub.refl _) (Sub.empty _) (Apart.rz _) ⟨λs o' ν=>⟨o',ν,rfl⟩,λs o' ν=>⟨o',ν,rfl⟩⟩ λx U=>by
    rcases U with e|e
    ·cases e;exact⟨s,o,upd_same ..,hm⟩
    ·cases e
   have PL:=IH.two (a:=.inl i) (b:=.inr m) (A:=join (join (c.H (.inl i)) (c.H (.inr s))) (c.H (.inr m))) (B:=υ.empty) (O':=upd c.O s (some o)) (xg (xg (h.mem.fit _) (h.mem.fit _)) (h.mem.fit _)) (s4 w) k0;refine⟨_,c.H (.inr m),h.mem.fit _,λ_=>PH,λx=>(by cases x),PJ,PI,?_,λj γ=>?_,λbO cU=>?_,λb hb dp=>?_,PK,PL,λa=>?_⟩
   ·rw[bu _ _ II,dm]
   ·have fl:(Sum.inl j:cl)≠.inl i:=λe=>γ (by cases e;rfl);rw[bu _ _ (by simp),bu _ _ fl,bu _ _ (by simp),bu _ _ fl]
   ·cases cU;rw[dm]
   ·have fl:(Sum.inr b:cl)≠.inr s:=λe=>hb (by cases e;rfl)
    have z9:(Sum.inr b:cl)≠.inr m:=λe=>dp (by cases e;rfl);rw[bu _ _ z9,hL,bu _ _ fl,hL]
   ·by_cases a3:a=.inr m
    ·subst a3;rw[dm];exact c5.empty
    ·rw[bu _ _ a3];by_cases Δ:a=.inl i
     ·subst Δ;rw[dm];refine uX.join ((h.bD.perms (.inr m)).lV rfl λk Α=>?_);rcases Α with⟨p,op,a1,bg,cr,fX⟩|Α
      ·obtain⟨s',cF⟩:=h.fS.h2 s o m ω eX p op a1 bg;obtain⟨_,_,c3,c4⟩:=IF op.g s';have hb:=(cF c3).app #[y];refine Knows.of_before ?_ c4;rcases hb with e|hb
       ·rw[<-e];exact fX.app _
       ·exact .inr ((fX.app #[y]).hb hb)
      ·exact(Α s o ω hm i (by rw[dv];simp)).app _
     ·rw[bu _ _ Δ];by_cases Ε:a=.inr s
      ·subst Ε;rw[dm];exact c5.empty
      ·rw[bu _ _ Ε,bu _ _ Δ];exact h.bD.uU a rfl dc nil
 have PM:Apart (c.H (.inl i)) (c.H (.inr s)):=h.hold.apart _ _ (by simp)
 have ck:=DW o.ag o.L (c.H (.inr s)) ed IE PA (λx=>⟨kr x,PC x⟩) PD PM PE PF ⟨w,h.mem.fit _,h.mem.fit _,PB⟩
 let cT:aK:={c.x i with G:=join (join (c.H (.inl i)) (c.H (.inr s))) ed,tok:=upd (c.tok i) s (.par n 0 .bf),view:=upd (c.view i) s none}
 let c':cN:={c with H:=bH,tok:=bM c.tok i s (.par n 0 .bf),view:=upd c.view i (upd (c.view i) s none),O:=upd c.O s (some o),T:=upd c.T i (f (i==0,g',cT))}
 have mz:c'.x i=cT:=by simp[c',cT,cN.x,upd_same,ta,iB]
 have qn:∀j r,¬(j=i/\r=s)->bM c.tok i s (.par n 0 .bf) j r=c.tok j r:=λj r e=>ew _ e
 have IJ:∀r q b,c.O r=some q->r≠s->dS r q.toSpec b->b≠s/\o.aI≠some b:=λr q b Ψ ι hb=>⟨λe=>ι (h.hold.jF r s q o b Ψ ω hb (.inl e)),λe=>ι (h.hold.jF r s q o b Ψ ω hb (.inr e))⟩;refine gZ.go (c':=c') Ο ν ?_ _ rfl;rw[ofEvents_one];refine h.laid (c':=c') Ο D4 D3 (h.bD.word (i:=i) rfl (.inl rfl) (h.low ω jq) dc (λ_ _ _ x=>x) D5) (h.a2.gtake ω dv kW) ⟨λr q bO Ψ cU b3 hk=>?_,λr q Ψ b3=>?_⟩ ?_
  (h.fS.app h.bD.low (λop Θ b hb=>by simp at Θ;subst Θ;cases hb) (λj b v hv=>.inl ⟨v,hv⟩) (λr q Ψ=>?_) (λj r Χ mu g e=>xp dv (λk m g e=>?_) j r Χ mu g e))
  ⟨g',?_,.inl rfl⟩ (λj γ=>⟨?_,upd_ne _ _ γ⟩) (.inr λj r q _ a b=>?_)
 ·rcases jo ω Ψ with⟨rfl,rfl⟩|⟨e,bV⟩
  ·exact absurd (eG ..) (b3 i n 0)
  ·obtain⟨Δ,Ε⟩:=IJ r q bO bV e (.inr cU);show q.bw q.L (bH (.inr bO));rw[jJ bO Δ Ε];exact h.dY.n3 r q bO bV cU (λj q p x=>b3 j q p (by show bM c.tok i s _ j r=_;rw[qn j r (λy=>e y.2)];exact x)) λj k L g x=>hk j k L g (by show bM c.tok i s _ j r=_;rw[qn j r (λy=>e y.2)];exact x)
 ·rcases jo ω Ψ with⟨rfl,rfl⟩|⟨e,bV⟩
  ·exact absurd (eG ..) (b3 i n 0)
  ·obtain⟨Δ,Ε⟩:=IJ r q r bV e (.inl rfl);show ko q.D q.ag (bH (.inr r));rw[jJ r Δ Ε];exact h.dY.kZ r q bV (λj q p x=>b3 j q p (by show bM c.tok i s _ j r=_;rw[qn j r (λy=>e y.2)];exact x))
 ·refine⟨λΧ g' gB=>?_,λj e4 γ=>?_,λj e4 γ b3=>?_,λj e4 γ a b=>(h.dL.c3 j e4 γ a b).app _⟩
  ·obtain⟨op,Θ,gA⟩:=Option.map_eq_some_iff.1 gB;rcases getElem?_append_cases Θ with⟨_,jI⟩|⟨_,fw⟩
   ·exact h.dL.dA Χ g' (by simp[Trace.g?,jI,gA])
   ·simp at fw;subst fw;rw[<-gA];exact aY
  ·obtain⟨op,a1,bg,cr,fX,hI⟩:=h.dL.c1 j e4 γ;have χ:=lt_size_of_getElem? a1;refine⟨op,by rw[getElem?_append_old χ];exact a1,bg,cr,(heard_old χ).2 fX,λΧ gB η=>?_⟩;obtain⟨qo,Θ,gA⟩:=Option.map_eq_some_iff.1 gB;rcases getElem?_append_cases Θ with⟨ph,jI⟩|⟨hle,fw⟩
   ·exact(hI Χ (by simp[Trace.g?,jI,gA]) ((xi ph).1 η)).app _
   ·exact absurd η (uS (u:=#[y]) (λop Θ=>by simp at Θ;subst Θ;rfl) Χ hle)
  ·obtain⟨q,p,Ψ⟩:=b3;by_cases e:c.bc (c.home j)=i/\c.home j=s
   ·obtain⟨Δ,Ε⟩:=e;show Knows _ (c.bc (c.home j)) (c.df j);rw[Δ];have eH:j<gs.size:=by
     obtain⟨op,a1,bg,_⟩:=h.dL.c1 j e4 γ;exact h.dL.dA (c.df j) j (by simp[Trace.g?,a1,bg])
    obtain⟨cB,fq,aa,eI⟩:=h.a2.qm j e4 eH;rw[Ε] at eI;exact(IF j ⟨cB,fq,aa,eI⟩).2.2.2
   ·refine(h.dL.c2 j e4 γ ⟨q,p,?_⟩).app _;have:bM c.tok i s (.par n 0 .bf) (c.bc (c.home j)) (c.home j)=.par q p .bf:=Ψ
    rwa [qn _ _ e] at this
 ·rcases jo ω Ψ with⟨rfl,rfl⟩|⟨_,bV⟩
  ·exact⟨_,ω,rfl⟩
  ·exact⟨q,bV,rfl⟩
 ·cases e
 ·rw[mz];show iu P Q (upd c.T i (f (i==0,g',cT)) i) _ _ _;rw[upd_same];exact ck
 ·simp[c',cN.x,upd_ne _ _ γ,qs _ γ,h6 j γ]
 ·exact⟨q,by show upd c.O s (some o) r=some q;rw[z3 ω];exact a,b⟩
end
section
variable {n:Nat} {tok:Nat->Nat->Tok} {spec:Nat->Nat->Option Spec} {view:Nat->Nat->Option (Nat×aD)} {rel:Nat->Bool} {O:Nat->Option aD} {bc home:Nat->Nat} {s i:Nat} {o:aD}
theorem ek.fork (h:ek n tok spec view rel O bc home) (ν:O s=some o) {q p:Nat} (Η:tok i s=.par q (p+1) .add) :
  ek (n+1) (upd (bM tok i s (.par q p .add)) n (upd (λ_=>.nil) s (.ch (q-(p+1)) .idle .work))) (upd spec n (upd (λ_=>none) s (some o.toSpec))) (upd (upd view i (upd (view i) s none)) n λ_=>none) (upd rel n false) O bc (upd home n s):=by
 have aY:i<n:=h.lt (s:=s) (by rw[Η];simp)
 have jK:n≠i:=by omega
 have pg:=h.par i s q (p+1) .add Η
 have b8:=(h.a5 s o ν).2
 have Ψ:p+1<=q:=by
  have Δ:aT n (λa=>tok a s) hf=q:=by
   rw[nX (φ:=hf) (λt Η=>by cases t<;>simp_all [ep,hf]) b8.mw aY (by rw[Η];rfl),Η];rfl
  have Ε:aT n (λa=>tok a s) gw=p+1:=by
   rw[nX (φ:=gw) (λt Η=>by cases t<;>simp_all [ep,gw]) b8.mw aY (by rw[Η];rfl),Η];rfl
  have:=b8.HH;omega
 generalize z':upd (bM tok i s (.par q p .add)) n (upd (λ_=>.nil) s (.ch (q-(p+1)) .idle .work))=dZ;have xu:dZ n s=.ch (q-(p+1)) .idle .work:=by rw[<-z',upd_same,upd_same]
 have D6:∀r,r≠s->dZ n r=.nil:=λr ι=>by rw[<-z',upd_same,upd_ne _ _ ι]
 have jL:dZ i s=.par q p .add:=by rw[<-z',upd_ne _ _ (Ne.symm jK),eG]
 have to:∀j r,j≠n->¬(j=i/\r=s)->dZ j r=tok j r:=λj r J R=>by rw[<-z',upd_ne _ _ J,ew _ R]
 have n5:∀j r,r≠s->dZ j r=tok j r:=λj r ι=>by
  by_cases e:j=n
  ·subst e;rw[D6 r ι,h.out _ r (Nat.le_refl _)]
  ·exact to j r e λx=>ι x.2
 have Aa:(λj=>dZ j s)=upd (upd (λj=>tok j s) i (.par q p .add)) n (.ch (q-(p+1)) .idle .work):=by
  funext j
  by_cases e:j=n
  ·subst e;rw[xu,upd_same]
  ·rw[upd_ne _ _ e];by_cases aA:j=i
   ·subst aA;rw[jL,upd_same]
   ·rw[upd_ne _ _ aA,to j s e λx=>aA x.1]
 have IK:∀r,r≠s->(λj=>dZ j r)=λj=>tok j r:=λr ι=>funext λj=>n5 j r ι
 have gm:∀r,(λj=>tok j r) n=.nil:=λr=>h.out n r (Nat.le_refl _)
 have h1:∀j r k m g,dZ j r=.ch k m g->(j=n/\r=s/\k=q-(p+1)/\m=.idle/\g=.work)\/(j≠n/\¬(j=i/\r=s)/\tok j r=.ch k m g):=λj r k m g γ=>by
  by_cases e:j=n
  ·subst e;by_cases aA:r=s
   ·subst aA;rw[xu] at γ;cases γ;exact .inl ⟨rfl,rfl,rfl,rfl,rfl⟩
   ·rw[D6 r aA] at γ;cases γ
  ·by_cases aA:j=i/\r=s
   ·obtain⟨rfl,rfl⟩:=aA;rw[jL] at γ;cases γ
   ·rw[to j r e aA] at γ;exact .inr ⟨e,aA,γ⟩
 have D7:∀j r m ef ay,dZ j r=.par m ef ay->(j=i/\r=s/\m=q/\ef=p/\ay=.add)\/(j≠n/\r≠s/\tok j r=.par m ef ay)\/(j≠n/\j≠i/\r=s/\tok j r=.par m ef ay):=λj r m ef ay γ=>by
  by_cases e:j=n
  ·subst e;by_cases aA:r=s
   ·subst aA;rw[xu] at γ;cases γ
   ·rw[D6 r aA] at γ;cases γ
  ·by_cases aA:j=i/\r=s
   ·obtain⟨rfl,rfl⟩:=aA;rw[jL] at γ;cases γ;exact .inl ⟨rfl,rfl,rfl,rfl,rfl⟩
   ·rw[to j r e aA] at γ;by_cases Ε:r=s
    ·exact .inr (.inr ⟨e,λx=>aA ⟨x,Ε⟩,Ε,γ⟩)
    ·exact .inr (.inl ⟨e,Ε,γ⟩)
 have D8:∀j r k m g,tok j r=.ch k m g->j≠n/\dZ j r=.ch k m g:=λj r k m g γ=>by
  have eH:j≠n:=λe=>by rw[e,h.out n r (Nat.le_refl _)] at γ;cases γ
  refine⟨eH,?_⟩;rw[to j r eH λe=>?_]
  ·exact γ
  ·obtain⟨rfl,rfl⟩:=e;rw[Η] at γ;cases γ
 have aΤ:ec (n+1) o (λj=>dZ j s)<ec n o (λj=>tok j s):=by
  rw[Aa,<-HO (N:=n) (τ:=λj=>tok j s) (gm s)];exact OI (N:=n+1) (by omega) (by omega) (Ne.symm jK) Η (gm s) _
 refine⟨λr hn ι=>?_,λr ι j=>?_,λj r γ=>?_,λj r sp γ=>?_,λj r φ dq γ=>?_,λj r k L g hn bV γ=>?_,λj r m ef ay γ=>?_,λj r k m g γ=>?_,λj af γ=>?_,λj k m g af γ=>?_,?_,λj r γ ι=>?_,λj r k m g hn bV γ Ο=>?_,λr j bp k m g bO g' J R=>?_,λr j k m g hn ef ay J R=>?_,λr hn ι=>?_,λr hn ι=>?_⟩
 ·by_cases e:r=s
  ·subst e;rw[ν] at ι;cases ι;rw[Aa];exact OH (HN (h.a5 r o ν) (gm r)) (by omega) (by omega) (Ne.symm jK) Η (gm r) _
  ·rw[IK r e];exact HN (h.a5 r hn ι) (gm r)
 ·have e:r≠s:=λe=>by rw[e,ν] at ι;cases ι
  rw[n5 j r e];exact h.bare r ι j
 ·rw[to j r (by omega) (λx=>by omega)];exact h.out j r (by omega)
 ·by_cases e:j=n
  ·subst e;rw[upd_same] at γ;by_cases aA:r=s
   ·subst aA;rw[upd_same] at γ;cases γ;exact⟨o,ν,rfl⟩
   ·rw[upd_ne _ _ aA] at γ;cases γ
  ·rw[upd_ne _ _ e] at γ;exact h.o7 j r sp γ
 ·have old:∀j r φ dq,view j r=some (φ,dq)->∃h4,O r=some h4/\ec (n+1) h4 (λa=>dZ a r)<=φ/\(ec (n+1) h4 (λa=>dZ a r)=φ->h4=dq):=λj r φ dq hv=>by
   obtain⟨h4,J,R,ς⟩:=h.sY j r φ dq hv;refine⟨h4,J,?_⟩;by_cases e:r=s
   ·subst e;rw[ν] at J;cases J;exact⟨by omega,λx=>by omega⟩
   ·rw[IK r e,HO (N:=n) (τ:=λj=>tok j r) (gm r)];exact⟨R,ς⟩
  by_cases e:j=n
  ·subst e;rw[upd_same] at γ;cases γ
  ·rw[upd_ne _ _ e] at γ;by_cases aA:j=i
   ·subst aA;rw[upd_same] at γ;by_cases Ε:r=s
    ·subst Ε;rw[upd_same] at γ;cases γ
    ·rw[upd_ne _ _ Ε] at γ;exact old _ _ _ _ γ
   ·rw[upd_ne _ _ aA] at γ;exact old _ _ _ _ γ
 ·rcases h1 j r k _ g γ with⟨_,_,_,Κ,_⟩|⟨_,_,ς⟩
  ·cases Κ
  ·exact h.cW j r k L g hn bV ς
 ·rcases D7 j r m ef ay γ with⟨rfl,rfl,_⟩|⟨_,_,ς⟩|⟨_,_,_,ς⟩
  ·exact pg
  ·exact h.par j r m ef ay ς
  ·exact h.par j r m ef ay ς
 ·rcases h1 j r k m g γ with⟨rfl,rfl,_⟩|⟨eH,_,ς⟩
  ·exact⟨by omega,upd_same ..,by omega⟩
  ·obtain⟨a1,bg,cr⟩:=h.nf j r k m g ς;exact⟨a1,by rw[upd_ne _ _ eH];exact bg,cr⟩
 ·by_cases e:j=n
  ·subst e;rw[upd_same];exact⟨_,_,_,xu⟩
  ·rw[upd_ne _ _ e];obtain⟨k,m,g,J⟩:=h.qm j af (by omega);exact⟨k,m,g,(D8 j _ k m g J).2⟩
 ·by_cases e:j=n
  ·subst e;rw[upd_same] at γ;rw[xu] at γ;cases γ;rw[upd_same];simp
  ·rw[upd_ne _ _ e] at γ;rw[upd_ne _ _ e];rcases h1 j _ k m g γ with⟨x,_⟩|⟨_,_,ς⟩
   ·exact absurd x e
   ·exact h.n1 j k m g af ς
 ·rw[upd_ne _ _ (show(0:Nat)≠n by omega)];exact h.ru
 ·by_cases e:j=n
  ·subst e;rw[upd_same] at γ;cases γ
  ·rw[upd_ne _ _ e] at γ ι;have:=h.ng j r γ ι;rw[to j r e λx=>?_]
   ·exact this
   ·obtain⟨rfl,rfl⟩:=x;rw[Η] at this;exact this
 ·rcases h1 j r k m g γ with⟨_,_,_,_,Κ⟩|⟨_,_,ς⟩
  ·exact absurd Κ Ο
  ·exact h.nh j r k m g hn bV ς Ο
 ·have key:∀j k m g,tok j s=.ch k m g->k<q-(p+1):=λj k m g γ=>by
   have:=h.rv s j k m g q (p+1) .add γ (by rw[<-pg];exact Η);omega
  rcases h1 j r k m g J with⟨rfl,rfl,cr,_⟩|⟨_,_,ς⟩<;>rcases h1 bp r k bO g' R with⟨rfl,cF,fD,_⟩|⟨_,_,Κ⟩
  ·rfl
  ·have:=key bp k bO g' Κ;omega
  ·subst cF;have:=key j k m g ς;omega
  ·exact h.sZ r j bp k m g bO g' ς Κ
 ·rcases h1 j r k m g J with⟨_,rfl,cr,_⟩|⟨_,_,ς⟩
  ·rcases D7 _ r hn ef ay R with⟨_,_,rfl,rfl,_⟩|⟨_,x,_⟩|⟨_,x,_⟩
   ·omega
   ·exact absurd rfl x
   ·exact absurd pg.symm x
  ·rcases D7 _ r hn ef ay R with⟨_,rfl,rfl,rfl,_⟩|⟨_,_,Κ⟩|⟨_,x,rfl,Κ⟩
   ·have:=h.rv r j k m g hn (ef+1) .add ς (by rw[<-pg];exact Η);omega
   ·exact h.rv r j k m g hn ef ay ς Κ
   ·exact absurd pg.symm x
 ·obtain⟨a,b⟩:=h.e3 r hn ι;refine⟨a,λk=>(b k).trans ⟨λ⟨j,m,g,Δ,Ε⟩=>⟨j,m,g,(D8 j r k m g Δ).2,Ε⟩,λ⟨j,m,g,Δ,Ε⟩=>?_⟩⟩;rcases h1 j r k m g Δ with⟨_,_,_,Κ,_⟩|⟨_,_,ς⟩
  ·subst Κ;exact Ε.elim
  ·exact⟨j,m,g,ς,Ε⟩
 ·obtain⟨a,b⟩:=h.fv r hn ι;refine⟨a,λk=>(b k).trans ⟨λ⟨j,m,g,Δ,Ε⟩=>⟨j,m,g,(D8 j r k m g Δ).2,Ε⟩,λ⟨j,m,g,Δ,Ε⟩=>?_⟩⟩;rcases h1 j r k m g Δ with⟨_,_,_,_,Κ⟩|⟨_,_,ς⟩
  ·exact absurd Κ Ε
  ·exact⟨j,m,g,ς,Ε⟩
def aD.new (sp:Spec):aD:={toSpec:=sp,bY:=0,wk:=0,sv:=0,nw:=0,cM:=0,L:=[],cnt:=0,wt:=0,cn:=0,ag:=[]}
theorem PN (N:Nat) (φ:Tok->Nat) (dX:φ .nil=0):aT N (λ_=>.nil) φ=0:=by
 induction N with
 | zero=>rfl
 | succ N Γ=>rw[sU,Γ,dX]
theorem ek.PO (h:ek n tok spec view rel O bc home) (ν:O s=none) (aY:i<n) (ι:rel i=false) (sp:Spec) :
  ek n (bM tok i s (.par 0 0 .add)) (upd spec i (upd (spec i) s (some sp))) (upd view i (upd (view i) s none)) rel (upd O s (some (aD.new sp))) (upd bc s i) home:=by
 have hb:=h.bare s ν
 have aN:∀j,j≠0->j<n->home j≠s:=λj af γ e=>by
  obtain⟨k,m,g,J⟩:=h.qm j af γ;rw[e,hb j] at J;cases J
 have Aa:(λj=>bM tok i s (.par 0 0 .add) j s)=upd (λ_=>.nil) i (.par 0 0 .add):=by
  rw[H6];have:(λj=>tok j s)=λ_=>.nil:=funext hb;rw[this]
 have n5:∀j r,r≠s->bM tok i s (.par 0 0 .add) j r=tok j r:=λj r ι=>ew _ λx=>ι x.2
 have h1:∀j r k m g,bM tok i s (.par 0 0 .add) j r=.ch k m g↔tok j r=.ch k m g:=λj r k m g=>by
  by_cases e:j=i/\r=s
  ·obtain⟨rfl,rfl⟩:=e;rw[eG,hb];simp
  ·rw[ew _ e]
 have uY:∀j k m g,tok j s≠.ch k m g:=λj k m g e=>by rw[hb] at e;cases e
 have gk:∀r q,upd O s (some (aD.new sp)) r=some q->(r=s/\q=aD.new sp)\/(r≠s/\O r=some q):=λr q Ψ=>by
  by_cases e:r=s
  ·subst e;rw[upd_same] at Ψ;cases Ψ;exact .inl ⟨rfl,rfl⟩
  ·rw[upd_ne _ _ e] at Ψ;exact .inr ⟨e,Ψ⟩
 have one:∀φ:Tok->Nat,φ .nil=0->aT n (upd (λ_=>.nil) i (.par 0 0 .add)) φ=φ (.par 0 0 .add):=λφ dX=>by
  have e:=fC (N:=n) (λ_=>.nil) (.par 0 0 .add) φ aY;rw[PN n φ dX] at e;simp only[dX] at e;omega
 refine⟨λr q Ψ=>?_,λr ι j=>?_,λj r γ=>?_,λj r IL γ=>?_,λj r φ dq γ=>?_,λj r k L g q Ψ γ=>?_,λj r m p ay γ=>?_,λj r k m g γ=>?_,λj af γ=>?_,λj k m g af γ=>?_,h.ru,λj r γ eP=>?_,λj r k m g q Ψ γ Ο=>?_,λr j bp k m g bO g' J R=>?_,λr j k m g q p ay J R=>?_,λr q ι=>?_,λr q ι=>?_⟩
 ·rcases gk r q Ψ with⟨rfl,rfl⟩|⟨e,bV⟩
  ·rw[Aa];constructor
   ·unfold nV;rw[one hc rfl,one mq rfl,one kS rfl,one kh rfl,one lQ rfl,one ki rfl,one o2 rfl,one mr rfl,one o1 rfl];constructor<;>simp[aD.new,hc,mq,kS,kh,lQ,ki,o2,mr,o1]
   ·unfold m6;rw[one h0 rfl,one iS rfl,one iT rfl,one kj rfl,one ep rfl,one gw rfl,one hf rfl,one kT rfl,one kl rfl,one hg rfl];constructor<;>simp[aD.new,h0,iS,iT,kj,ep,gw,hf,kT,kl,hg]
  ·rw[DD _ _ _ _ e];exact h.a5 r q bV
 ·have e:r≠s:=λe=>by rw[e,upd_same] at ι;cases ι
  rw[upd_ne _ _ e] at ι;rw[n5 j r e];exact h.bare r ι j
 ·rw[ew _ (λx=>by omega)];exact h.out j r γ
 ·by_cases e:j=i
  ·subst e;rw[upd_same] at γ;by_cases aA:r=s
   ·subst aA;rw[upd_same] at γ;cases γ;exact⟨_,upd_same ..,rfl⟩
   ·rw[upd_ne _ _ aA] at γ;obtain⟨q,a,b⟩:=h.o7 j r IL γ;exact⟨q,by rw[upd_ne _ _ aA];exact a,b⟩
  ·rw[upd_ne _ _ e] at γ;obtain⟨q,a,b⟩:=h.o7 j r IL γ;have aA:r≠s:=λaA=>by rw[aA,ν] at a;cases a
   exact⟨q,by rw[upd_ne _ _ aA];exact a,b⟩
 ·have old:∀j r φ dq,view j r=some (φ,dq)->∃h4,upd O s (some (aD.new sp)) r=some h4/\ec n h4 (λa=>bM tok i s (.par 0 0 .add) a r)<=φ/\(ec n h4 (λa=>bM tok i s (.par 0 0 .add) a r)=φ->h4=dq):=λj r φ dq hv=>by
   obtain⟨h4,a,b⟩:=h.sY j r φ dq hv;have aA:r≠s:=λaA=>by rw[aA,ν] at a;cases a
   exact⟨h4,by rw[upd_ne _ _ aA];exact a,by rw[DD _ _ _ _ aA];exact b⟩
  by_cases e:j=i
  ·subst e;rw[upd_same] at γ;by_cases aA:r=s
   ·subst aA;rw[upd_same] at γ;cases γ
   ·rw[upd_ne _ _ aA] at γ;exact old _ _ _ _ γ
  ·rw[upd_ne _ _ e] at γ;exact old _ _ _ _ γ
 ·rw[h1] at γ;rcases gk r q Ψ with⟨rfl,rfl⟩|⟨e,bV⟩
  ·exact absurd γ (uY _ _ _ _)
  ·exact h.cW j r k L g q bV γ
 ·by_cases e:j=i/\r=s
  ·obtain⟨rfl,rfl⟩:=e;rw[upd_same]
  ·rw[ew _ e] at γ;have aA:r≠s:=λaA=>by rw[aA,hb] at γ;cases γ
   rw[upd_ne _ _ aA];exact h.par j r m p ay γ
 ·rw[h1] at γ;have aA:r≠s:=λaA=>by rw[aA] at γ;exact uY _ _ _ _ γ
  rw[upd_ne _ _ aA];exact h.nf j r k m g γ
 ·obtain⟨k,m,g,J⟩:=h.qm j af γ;exact⟨k,m,g,(h1 _ _ _ _ _).2 J⟩
 ·rw[h1] at γ;exact h.n1 j k m g af γ
 ·have e:j≠i:=λe=>by rw[e,ι] at γ;cases γ
  rw[qs _ e];exact h.ng j r γ eP
 ·rw[h1] at γ;rcases gk r q Ψ with⟨rfl,rfl⟩|⟨e,bV⟩
  ·exact absurd γ (uY _ _ _ _)
  ·exact h.nh j r k m g q bV γ Ο
 ·rw[h1] at J R;exact h.sZ r j bp k m g bO g' J R
 ·rw[h1] at J;have aA:r≠s:=λaA=>by rw[aA] at J;exact uY _ _ _ _ J
  rw[upd_ne _ _ aA,n5 _ _ aA] at R;exact h.rv r j k m g q p ay J R
 ·simp only[h1];rcases gk r q ι with⟨rfl,rfl⟩|⟨e,bV⟩
  ·exact⟨List.nodup_nil,λk=>⟨λx=>(by cases x),λ⟨j,m,g,x,_⟩=>absurd x (uY _ _ _ _)⟩⟩
  ·exact h.e3 r q bV
 ·simp only[h1];rcases gk r q ι with⟨rfl,rfl⟩|⟨e,bV⟩
  ·exact⟨List.nodup_nil,λk=>⟨λx=>(by cases x),λ⟨j,m,g,x,_⟩=>absurd x (uY _ _ _ _)⟩⟩
  ·exact h.fv r q bV
end
theorem PQ (t:Trace) (u:Trace) {k:Nat} (hu:∀op∈u,op.g≠k):Deaf (t++u) k=Deaf t k:=by
 obtain⟨l⟩:=u;rw[Deaf_append]
 induction l generalizing t with
 | nil=>rfl
 | cons y l Γ=>
  have ad:y.g≠k:=hu y (by simp)
  have Δ:deafStep k (Deaf t k) y=Deaf t k:=by
   unfold deafStep;split<;>simp[ad]
  rw[List.foldl_cons,Δ];exact Γ t (λop Θ=>hu op (by simp at Θ ⊢;exact .inr Θ))
theorem PR {said:Bool} {t:Trace} {y z:MemOp} (h:¬Race said t) (nt:∀op∈(#[y,z]:Trace),op.act.touch?=none):¬Race said (t++#[y,z]):=by
 have e:t++#[y,z]=(t++#[y])++#[z]:=by rw[Array.append_assoc];rfl
 rw[e];refine noRace_append (g:=z.g) (noRace_append (g:=y.g) h (λop Θ=>by simp at Θ;rw[Θ]) λk a _ op Θ b hb _=>?_) (λop Θ=>by simp at Θ;rw[Θ]) λk a _ op Θ b hb _=>?_
 ·simp at Θ;subst Θ;rw[nt op (by simp)] at hb;cases hb
 ·simp at Θ;subst Θ;rw[nt op (by simp)] at hb;cases hb
section
variable {P:Program} {Q:Value->Prop} {a':World} {c c':cN} {gs:Array Goroutine} {w w':World} {t:Trace} {i:Nat} {g g':Goroutine} {es:Array Event}
variable {f:Bool×Goroutine×aK->fu (Bool×Goroutine×aK)}
theorem Inv.D9 (h:Inv P Q a' c gs w t) (Ο:gs[i]?=some g) (Α:HX P (i==0) (kq P Q f) g (c.x i)):gZ P Q a' c gs w t i f:=by
 obtain⟨s,sp,n,p,g',ch,lS,lT,J,ς,Κ,aF,rp,aV,cj,k6,ck,PS⟩:=Α;have aY:i<gs.size:=k4 Ο;obtain⟨o,ω,bF⟩:=h.a2.o7 i s sp J;subst bF;have dv:c.tok i s=.par n (p+1) .add:=ς;have hd:c.deaf i=0:=Κ;have dN:c.rel i=false:=aV;have ν:=cj w (h.mem.fit (.inl i));have jK:gs.size≠i:=by omega
 let N:=gs.size
 let y:MemOp:={g:=i,fn:=g.frame.fn,pos:=g.frame.place,act:=.go gs.size}
 let z:MemOp:={g:=gs.size,fn:=ch.frame.fn,pos:=g.frame.place,act:=.start}
 have te:Deaf t i=0:=by rw[h.bD.hears];exact hd
 have rH:Deaf t gs.size=0:=by
  have:=PQ #[] t (k:=gs.size) (λop Θ e=>by
   obtain⟨k,Α⟩:=Array.mem_iff_getElem?.1 Θ;have:=h.dL.dA k op.g (by simp[Trace.g?,Α]);omega)
  rw[Array.empty_append] at this;exact this
 let Ab:aK:={c.x i with G:=lS,tok:=upd (c.tok i) s (.par n p .add),view:=upd (c.view i) s none}
 let Ac:aK:=⟨lT,λ_=>none,upd (λ_=>.nil) s (.ch (n-(p+1)) .idle .work),upd (λ_=>none) s (some o.toSpec),λ_=>none,0,false⟩
 let dZ:=upd (bM c.tok i s (.par n p .add)) gs.size (upd (λ_=>.nil) s (.ch (n-(p+1)) .idle .work))
 let c':cN:={c with H:=bt (bt c.H (.inl i) lS) (.inl gs.size) lT,ao:=upd c.ao gs.size (λ_=>none),tok:=dZ,spec:=upd c.spec gs.size (upd (λ_=>none) s (some o.toSpec)),view:=upd (upd c.view i (upd (c.view i) s none)) gs.size λ_=>none,deaf:=upd c.deaf gs.size 0,rel:=upd c.rel gs.size false,home:=upd c.home gs.size s,T:=upd (upd c.T i (f (i==0,g',Ab))) gs.size (f (false,ch,Ac))}
 have PT:=h.a2.fork ω dv
 have dB:=runT_crowd_spawn (sl:=none) Ο ν
 have PU:((MemOp.ofEvents i g.frame.fn g.frame.place #[]).push {g:=i,fn:=g.frame.fn,pos:=g.frame.place,act:=.go gs.size} |>.push {g:=gs.size,fn:=ch.frame.fn,pos:=g.frame.place,act:=.start})=#[y,z]:=by rw[Iq];rfl
 have IM:(Sum.inl i:cl)≠.inl gs.size:=λe=>jK (by cases e;rfl)
 have PV:∀r,dZ gs.size r≠.nil->r=s:=λr ι=>by
  apply Classical.byContradiction;intro e;apply ι;show upd (bM c.tok i s (.par n p .add)) gs.size (upd (λ_=>.nil) s (.ch (n-(p+1)) .idle .work)) gs.size r=.nil;rw[upd_same,upd_ne _ _ e]
 have Ad:∀j,j≠gs.size->dZ j=bM c.tok i s (.par n p .add) j:=λj γ=>upd_ne _ _ γ
 have PW:∀j r,j≠gs.size->dZ j r≠.nil->c.tok j r≠.nil:=λj r γ ι=>by
  rw[Ad j γ] at ι;exact xo dv (by simp) j r ι
 have rG:∀j r q ef,dZ j r=.par q ef .bf↔c.tok j r=.par q ef .bf:=λj r q ef=>by
  by_cases e:j=gs.size
  ·subst e;rw[h.a2.out gs.size r (Nat.le_refl _)];show upd (bM c.tok i s (.par n p .add)) gs.size (upd (λ_=>.nil) s (.ch (n-(p+1)) .idle .work)) gs.size r=_↔_;rw[upd_same];by_cases aA:r=s
   ·subst aA;rw[upd_same];simp
   ·rw[upd_ne _ _ aA]
  ·rw[Ad j e];exact z6 dv (by simp) (by simp) j r q ef
 have DT:∀j r k L g,c.tok j r=.ch k (.cW L) g->dZ j r=.ch k (.cW L) g:=λj r k L g γ=>by
  have e:j≠gs.size:=λe=>by rw[e,h.a2.out _ r (Nat.le_refl _)] at γ;cases γ
  rw[Ad j e,ew _ λx=>?_]
  ·exact γ
  ·obtain⟨rfl,rfl⟩:=x;rw[dv] at γ;cases γ
 have ez:∀j,j≠gs.size->c'.rel j=c.rel j:=λj γ=>upd_ne _ _ γ
 have Ae:∀j,c'.rel j=true->j≠gs.size:=λj γ e=>by
  subst e;have:upd c.rel gs.size false gs.size=true:=γ;rw[upd_same] at this;cases this
 have fa:∀j b v,upd c.ao gs.size (λ_=>none) j b=some v->c.ao j b=some v:=λj b v hv=>by
  by_cases e:j=gs.size
  ·subst e;rw[upd_same] at hv;cases hv
  ·rw[upd_ne _ _ e] at hv;exact hv
 have nt:∀op∈(#[y,z]:Trace),op.act.touch?=none:=λop Θ=>by simp at Θ;rcases Θ with rfl|rfl<;>rfl
 have lW:∀op∈(#[y,z]:Trace),∀m,op.act≠.mark m:=λop Θ m=>by simp at Θ;rcases Θ with rfl|rfl<;>simp[y,z]
 have IN:∀k,Knows t i k->Knows (t++#[y,z]) gs.size k:=λk Α=>Knows.spawn Α rfl rfl rfl rfl te rH
 have PX:∀a k,iv c.tok c.O t a k->iv dZ c.O (t++#[y,z]) a k:=λa k Α=>by
  cases a with
  | inl j=>exact Knows.app _ Α
  | inr b=>
   rcases Α with⟨p,op,J,R,ς,Κ⟩|Α
   ·have χ:=lt_size_of_getElem? J;exact .inl ⟨p,op,by rw[getElem?_append_old χ];exact J,R,(heard_old χ).2 ς,Κ.app _⟩
   ·refine .inr λa7 o' hY hb j γ=>?_;by_cases e:j=gs.size
    ·subst e;have:=PV a7 γ;subst this;exact IN k (Α _ o' hY hb i (by rw[dv];simp))
    ·exact(Α a7 o' hY hb j (PW j a7 e γ)).app _
 have IP:∀a,c5 (t++#[y,z]) (iv dZ c.O (t++#[y,z]) a) (c.H a):=λa=>
  (h.bD.perms a).others (PX a) λop Θ x U=>by rw[nt op Θ] at U;cases U
 have hinv:Inv P Q a' c' ((gs.setIfInBounds i g').push ch) w (t++#[y,z]):=by
  have b2:((gs.setIfInBounds i g').push ch).size=gs.size+1:=by simp
  refine⟨by rw[b2];omega,(h.mem.two (k6.l.fits (h.mem.fit (.inl i))) (k6.r.fits (h.mem.fit (.inl i))) h.mem.e').uV fa,(h.hold.two IM k6.l.o8 k6.r.o8 k6.apart ⟨λs o ν=>⟨o,ν,rfl⟩,λs o ν=>⟨o,ν,rfl⟩⟩ λx U=>by rcases U with e|e<;>cases e).uV fa,?_,by rw[b2];exact PT,?_,?_,?_,?_⟩
  ·refine⟨λsaid=>PR (h.bD.race said) nt,λop Θ=>?_,λop Θ a=>?_,λa=>?_,λj b v hv k a Α=>?_,λa7 o' b hY hb k a Α eO=>?_,λj=>?_⟩
   ·rcases Array.mem_append.1 Θ with Θ|Θ
    ·exact h.bD.low op Θ
    ·simp at Θ;rcases Θ with rfl|rfl<;>trivial
   ·rcases Array.mem_append.1 Θ with Θ|Θ
    ·exact h.bD.norel op Θ a
    ·exact lW op Θ _
   ·show c5 _ _ (bt (bt c.H (.inl i) lS) (.inl gs.size) lT a);by_cases Ε:a=.inl gs.size
    ·subst Ε;rw[dm];exact(((h.bD.perms (.inl i)).others IN λop Θ x U=>by rw[nt op Θ] at U;cases U):c5 _ (Knows _ gs.size) _).sub k6.r
    ·rw[bu _ _ Ε];by_cases Δ:a=.inl i
     ·subst Δ;rw[dm];exact(IP (.inl i)).sub k6.l
     ·rw[bu _ _ Δ];exact IP a
   ·have:=fa j b v hv;rcases lP Α with gB|⟨_,op,Θ,_,U⟩
    ·exact h.bD.m' j b v this k a gB
    ·rw[nt op Θ] at U;cases U
   ·rcases lP Α with gB|⟨_,op,Θ,_,U⟩
    ·rcases h.bD.cont a7 o' b hY hb k a gB eO with x|⟨x,cT⟩
     ·exact .inl x
     ·obtain⟨op,iy,_⟩:=touch_of gB;exact .inr ⟨x,by rw[g?_old (lt_size_of_getElem? iy)];exact cT⟩
    ·rw[nt op Θ] at U;cases U
   ·have Δ:Deaf (t++#[y,z]) j=Deaf t j:=by
     have e:t++#[y,z]=(t++#[y])++#[z]:=by rw[Array.append_assoc];rfl
     rw[e,Deaf_push,Deaf_push];simp[deafStep,y,z]
    rw[Δ];by_cases e:j=gs.size
    ·subst e;rw[rH];exact(upd_same ..).symm
    ·rw[h.bD.hears];exact(upd_ne _ _ e).symm
  ·have hM:∀b,bt (bt c.H (.inl i) lS) (.inl gs.size) lT (.inr b)=c.H (.inr b):=λb=>by rw[hL,hL]
   refine⟨λr q m Ψ hm b3 hk=>?_,λr q Ψ b3=>?_⟩
   ·show q.bw q.L (bt (bt c.H (.inl i) lS) (.inl gs.size) lT (.inr m));rw[hM];exact h.dY.n3 r q m Ψ hm (λj q p x=>b3 j q p ((rG j r q p).2 x)) λj k L g x=>hk j k L g (DT _ _ _ _ _ x)
   ·show ko q.D q.ag (bt (bt c.H (.inl i) lS) (.inl gs.size) lT (.inr r));rw[hM];exact h.dY.kZ r q Ψ (λj q p x=>b3 j q p ((rG j r q p).2 x))
  ·rw[b2];refine⟨λk a Α=>?_,λj e4 γ=>?_,λj e4 γ b3=>?_,λj e4 γ a b=>?_⟩
   ·obtain⟨op,Θ,gA⟩:=Option.map_eq_some_iff.1 Α;rcases getElem?_append_cases Θ with⟨_,jI⟩|⟨_,fw⟩
    ·have:=h.dL.dA k a (by simp[Trace.g?,jI,gA]);omega
    ·simp at fw;rcases fw with rfl|rfl
     ·rw[<-gA];show i<gs.size+1;omega
     ·rw[<-gA];show gs.size<gs.size+1;omega
   ·have eH:=Ae j γ;rw[ez j eH] at γ;obtain⟨op,a1,bg,cr,fX,hI⟩:=h.dL.c1 j e4 γ;have χ:=lt_size_of_getElem? a1;refine⟨op,?_,bg,?_,(heard_old χ).2 fX,λΧ gB η=>?_⟩
    ·show(t++#[y,z])[c.df j]?=some op;rw[getElem?_append_old χ];exact a1
    ·show op.act=.mark (.releaseMerge ⟨upd c.home gs.size s j,0,none⟩);rw[upd_ne _ _ eH];exact cr
    ·obtain⟨qo,Θ,gA⟩:=Option.map_eq_some_iff.1 gB;rcases getElem?_append_cases Θ with⟨ph,jI⟩|⟨hle,fw⟩
     ·exact(hI Χ (by simp[Trace.g?,jI,gA]) ((xi ph).1 η)).app _
     ·exact absurd η (uS nt Χ hle)
   ·have eH:=Ae j γ;rw[ez j eH] at γ;obtain⟨q,ef,Ψ⟩:=b3;have xv:c'.home j=c.home j:=upd_ne _ _ eH;rw[xv] at Ψ ⊢;exact(h.dL.c2 j e4 γ ⟨q,ef,(rG _ _ _ _).1 Ψ⟩).app _
   ·have eH:=Ae j γ;rw[ez j eH] at γ;have xv:c'.home j=c.home j:=upd_ne _ _ eH;rw[xv] at a b ⊢;have PY:=Ae _ b;rw[ez _ PY] at b;exact(h.dL.c3 j e4 γ a b).app _
  ·refine⟨λr q bO Ψ cU p op χ κ=>?_,λj b v hv op Θ κ=>?_⟩
   ·rcases getElem?_append_cases χ with⟨ph,hl⟩|⟨_,fw⟩
    ·obtain⟨⟨Χ,D1,g,ς⟩,Κ⟩:=h.fS.h2 r q bO Ψ cU p op hl κ;have eH:op.g≠gs.size:=λe=>by rw[e,h.a2.out _ r (Nat.le_refl _)] at ς;cases ς
     refine⟨?_,λι=>?_⟩
     ·rw[show c'.tok op.g=bM c.tok i s (.par n _ .add) op.g from Ad _ eH];exact xp dv (λ_ _ _ e=>by cases e) _ _ _ _ _ ς
     ·rw[ez _ eH] at ι;exact(Κ ι).app _
    ·exact absurd κ (lW op fw _)
   ·rcases Array.mem_append.1 Θ with Θ|Θ
    ·exact h.fS.s8 j b v (fa j b v hv) op Θ κ
    ·exact lW op Θ _ κ
  ·intro j b hb;by_cases e:j=gs.size
   ·subst e;rw[Array.getElem?_push] at hb;simp at hb;subst hb;refine⟨ch,?_,.inl rfl⟩;have U:c'.x gs.size=Ac:=by simp[c',Ac,dZ,cN.x,upd_same]
    have Ζ:c'.T gs.size=f (false,ch,Ac):=upd_same ..
    have hm:(gs.size==0)=false:=by rw[beq_eq_false_iff_ne];exact Nat.ne_of_gt h.pos
    rw[U,Ζ,hm];exact PS
   ·have dp:(gs.setIfInBounds i g')[j]?=some b:=by
     rw[Array.getElem?_push] at hb;simpa[e] using hb
    by_cases Δ:j=i
    ·subst Δ;rw[Array.getElem?_setIfInBounds_self_of_lt aY] at dp;cases dp;refine⟨g',?_,.inl rfl⟩;have U:c'.x j=Ab:=by simp[c',Ab,dZ,cN.x,upd_same,upd_ne _ _ e,ta,bu _ _ IM]
     have Ζ:c'.T j=f (j==0,g',Ab):=by show upd (upd c.T j _) gs.size _ j=_;rw[upd_ne _ _ e,upd_same]
     rw[U,Ζ];exact ck
    ·rw[Array.getElem?_setIfInBounds_ne (Ne.symm Δ)] at dp;obtain⟨cI,DH,k7⟩:=h.s9 j b dp;have gP:(Sum.inl j:cl)≠.inl gs.size:=λx=>e (by cases x;rfl);have fl:(Sum.inl j:cl)≠.inl i:=λx=>Δ (by cases x;rfl);have U:c'.x j=c.x j:=by simp[c',dZ,cN.x,upd_ne _ _ e,upd_ne _ _ Δ,qs _ Δ,bu _ _ gP,bu _ _ fl]
     have Ζ:c'.T j=c.T j:=by show upd (upd c.T i _) gs.size _ j=_;rw[upd_ne _ _ e,upd_ne _ _ Δ]
     have Η:c'.tok j=c.tok j:=congrArg aK.tok U;refine⟨cI,by rw[U,Ζ];exact DH,?_⟩;rw[Η];exact k7
 refine λsl=>⟨c',_,w,_,runT_crowd_spawn Ο ν,?_,.inr (.inl ⟨by simp,_,_,rfl⟩)⟩;rw[PU];exact hinv
end
end Go.TL
