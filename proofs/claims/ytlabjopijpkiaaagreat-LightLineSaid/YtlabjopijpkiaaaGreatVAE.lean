import Derived.Test.YtlabjopijpkiaaaGreatVAD
set_option maxHeartbeats 16000000
set_option maxRecDepth 20000
set_option linter.unusedSectionVars false
set_option linter.unusedSimpArgs false
set_option linter.unusedVariables false
namespace Go.TL
open Go.Conc
open Go.ConcM (OsLater)
open Go.ConcN (sumTo upd sumTo_upd upd_ne upd_same sumTo_congr le_sumTo)
theorem Lj:∀(q:Nat) (l:List Nat),l.Nodup->(∀x∈l,x<q)->l.length<=q:=by
 intro q
 induction q with
 | zero=>intro l _ h;cases l with
  | nil=>simp
  | cons a l=>exact absurd (h a η) R
 | succ q Β=>
  intro l Ζ h;have:=Β (l.erase q) (Ζ.erase q) (λx γ=>by
   have J:=(Ζ.mem_erase_iff).1 γ
   have:=h x J.2
   have:=J.1;omega)
  by_cases Φ:q∈l
  ·have:=List.length_erase_of_mem Φ;omega
  ·rw[List.erase_of_not_mem Φ] at this;omega
theorem SC (l:List Nat) (q:Nat) (Ζ:l.Nodup) (h:∀x∈l,x<q) (ο:l.length=q):∀k,k<q->k∈l:=λk ς=>by
 apply Classical.byContradiction;intro jw;have:=Lj q (k::l) (List.nodup_cons.2 ⟨jw,Ζ⟩) (λx γ=>by
  rcases List.mem_cons.1 γ with rfl|γ
  ·exact ς
  ·exact h x γ)
 simp at this;omega
section
variable {n:Nat} {tok:Nat->Nat->Tok} {spec:Nat->Nat->Option Spec} {view:Nat->Nat->Option (Nat×aS)} {rel:Nat->Bool} {O:Nat->Option aS} {bz home:Nat->Nat} {s i:Nat} {o:aS}
theorem eS.fin (h:eS n tok spec view rel O bz home) (ν:O s=some o) {j q p:Nat} {aL:rX} (Ν:tok j s=.par q p aL) (he:iA (.par q p aL)=1):p=0/\o.cnt=0/\∀a k m g,tok a s=.ch k m g->g=.gone:=by
 have ε:j<n:=h.lt (s:=s) (by rw[Ν];simp)
 have Ζ:=(h.bf s o ν).2
 have tA:a8 n (λa=>tok a s) iA=1:=by
  rw[pz (φ:=iA) (λt Ν=>by cases t<;>simp_all [eX,iA]) Ζ.nZ ε (by rw[Ν];rfl),Ν,he]
 have gΚ:a8 n (λa=>tok a s) hr=p:=by
  rw[pz (φ:=hr) (λt Ν=>by cases t<;>simp_all [eX,hr]) Ζ.nZ ε (by rw[Ν];rfl),Ν];rfl
 obtain⟨f1,f2,f3,f4,f5,f6⟩:=Ζ.Kx tA;refine⟨R,f4,λa k m g κ=>?_⟩;have F':a<n:=h.lt (s:=s) (by rw[κ];simp);have B5:=Ζ.FE;have l1:=fy (λa=>tok a s) jr F';have l2:=fy (λa=>tok a s) kg F';have oD:=fy (λa=>tok a s) kh F';simp only[κ,jr,kg,kh] at l1 l2 oD;cases g with
 | gone=>rfl
 | work=>simp only[rY] at l1;omega
 | rel=>simp only[rY] at l1;omega
 | l2=>simp only[uY] at l2;omega
 | hS=>simp only[uZ] at oD;omega
theorem eS.Lk (h:eS n tok spec view rel O bz home) (ν:O s=some o) {k:Nat} {m:lG} {g:tm} (Ν:tok i s=.ch k m g) (Ξ:g≠.gone):∀j q p,tok j s≠.par q p .bB:=λj q p ε=>
 Ξ ((h.fin ν ε rfl).2.2 i k m g Ν)
theorem eS.only (h:eS n tok spec view rel O bz home) (ν:O s=some o) (Ν:iy (tok i s)=1):∀j k L g,tok j s=.ch k (.dr L) g->j=i:=λj k L g ε=>by
 apply Classical.byContradiction;intro bA;have br:i<n:=h.lt (s:=s) (by intro e;rw[e] at Ν;cases Ν);have fe:j<n:=h.lt (s:=s) (by rw[ε];simp);have Δ:=gI (λa=>tok a s) .nil iy br;have Γ:=fy (upd (λa=>tok a s) i .nil) iy fe;rw[upd_ne _ _ bA] at Γ;have vl:iy .nil=0:=rfl;have qU:iy (tok j s)=1:=by rw[ε];rfl
 simp only[Ν,vl] at Δ;simp only[qU] at Γ;have:=(h.bf s o ν).1.Kv;have:=(h.bf s o ν).1.f1;omega
def qW (tok:Nat->Nat->Tok) (s:Nat):Nat->List Nat
 | 0=>[]
 | n+1=>match tok n s with
  | .ch k _ _=>k::qW tok s n
  | _=>qW tok s n
theorem zh (tok:Nat->Nat->Tok) (s:Nat):∀n k,k∈qW tok s n↔∃j m g,j<n/\tok j s=.ch k m g
 | 0,k=>by simp[qW]
 | n+1,k=>by
  have Β:=zh tok s n k
  have old:(∃j m g,j<n/\tok j s=.ch k m g)->∃j m g,j<n+1/\tok j s=.ch k m g:=λ⟨j,m,g,J,U⟩=>⟨j,m,g,R,U⟩
  have split:(∃j m g,j<n+1/\tok j s=.ch k m g)->(∃j m g,j<n/\tok j s=.ch k m g)\/∃m g,tok n s=.ch k m g:=λ⟨j,m,g,J,U⟩=>by
   by_cases e:j=n
   ·subst e;exact .inr ⟨m,g,U⟩
   ·exact .inl ⟨j,m,g,R,U⟩
  unfold qW;cases γ:tok n s with
  | nil=>exact Β.trans ⟨old,λh=>(split h).elim id λ⟨m,g,e⟩=>by rw[γ] at e;cases e⟩
  | par=>exact Β.trans ⟨old,λh=>(split h).elim id λ⟨m,g,e⟩=>by rw[γ] at e;cases e⟩
  | ch ag b5 g'=>
   rw[List.mem_cons,Β];constructor
   ·rintro(rfl|h)
    ·exact⟨n,b5,g',R,γ⟩
    ·exact old h
   ·intro h;rcases split h with h|⟨m,g,e⟩
    ·exact .inr h
    ·rw[γ] at e;cases e;exact .inl rfl
theorem Ll (tok:Nat->Nat->Tok) (s:Nat):∀n,(qW tok s n).length=a8 n (λa=>tok a s) lJ
 | 0=>rfl
 | n+1=>by
  have Β:=Ll tok s n;rw[u6];unfold qW;cases γ:tok n s<;>simp[lJ,Β]
theorem Lm (ο:∀j bK k m g b5 g',tok j s=.ch k m g->tok bK s=.ch k b5 g'->j=bK):∀n,(qW tok s n).Nodup
 | 0=>List.nodup_nil
 | n+1=>by
  have Β:=Lm ο n;unfold qW;cases γ:tok n s with
  | nil=>exact Β
  | par=>exact Β
  | ch k m g=>
   refine List.nodup_cons.2 ⟨λh=>?_,Β⟩;obtain⟨j,b5,g',J,U⟩:=(zh tok s n k).1 h;have:=ο j n k b5 g' m g U γ;omega
theorem eS.full (h:eS n tok spec view rel O bz home) (ν:O s=some o) {q:Nat} {aL:rX} (Ν:tok i s=.par q 0 aL) (mw:aL=.mj\/aL=.w4) :
  o.al.Perm (List.range q)/\(o.aW≠none->o.L.Perm (List.range q))/\∀a k m g,tok a s=.ch k m g->g=.gone:=by
 have br:i<n:=h.lt (s:=s) (by rw[Ν];simp)
 have he:iA (.par q 0 aL)=1:=by rcases mw with rfl|rfl<;>rfl
 obtain⟨_,_,r9⟩:=h.fin ν Ν he;have Ζ:=(h.bf s o ν).2;have cm:a8 n (λa=>tok a s) iz=q:=by
  rw[pz (φ:=iz) (λt Ν=>by cases t<;>simp_all [eX,iz]) Ζ.nZ br (by rw[Ν];rfl),Ν];rfl
 have cB:a8 n (λa=>tok a s) hr=0:=by
  rw[pz (φ:=hr) (λt Ν=>by cases t<;>simp_all [eX,hr]) Ζ.nZ br (by rw[Ν];rfl),Ν];rfl
 have gΜ:=Ζ.Kw
 have xc:=h.par i s q 0 aL Ν;subst xc;have SD:=Lm (tok:=tok) (s:=s) (λj bK k m g b5 g' J U=>h.vb s j bK k m g b5 g' J U) n;have lt:∀k∈qW tok s n,k<q:=λk ς=>by
  obtain⟨j,m,g,_,ε⟩:=(zh tok s n k).1 ς;have:=h.tu s j k m g q 0 aL ε Ν;omega
 have full:=SC _ q SD lt (by rw[Ll];omega);obtain⟨e5,fW⟩:=h.gx s o ν;obtain⟨SE,lm⟩:=h.fL s o ν;refine⟨(List.perm_ext_iff_of_nodup e5 List.nodup_range).2 λk=>?_,λfz=>(List.perm_ext_iff_of_nodup SE List.nodup_range).2 λk=>?_,r9⟩
 ·rw[fW,List.mem_range];constructor
  ·rintro⟨j,m,g,ε,_⟩;have:=h.tu s j k m g q 0 aL ε Ν;omega
  ·intro ς;obtain⟨j,m,g,_,ε⟩:=(zh tok s n k).1 (full k ς);exact⟨j,m,g,ε,by rw[r9 j k m g ε];simp⟩
 ·rw[lm,List.mem_range];constructor
  ·rintro⟨j,m,g,ε,_⟩;have:=h.tu s j k m g q 0 aL ε Ν;omega
  ·intro ς;obtain⟨j,m,g,_,ε⟩:=(zh tok s n k).1 (full k ς);refine⟨j,m,g,ε,?_⟩;rcases h.oM j s k m g o ν ε (by rw[r9 j k m g ε];simp) with rfl|⟨_,e⟩
   ·trivial
   ·exact absurd e fz
end
section
variable {H H':cM->χ} {aM pG:Nat->Nat->Option (Array Value×TypeId)} {tok eF:Nat->Nat->Tok} {O O':Nat->Option aS} {bz:Nat->Nat} {deaf:Nat->Nat} {N ht:Nat} {t:Trace} {bq w w':World} {i:Nat} {y:MemOp} {b s:Nat} {o:aS}
theorem ofEvents_one {fn:FuncId} {pos:String} {e:Event}:MemOp.ofEvents i fn pos #[e]=#[{g:=i,fn,pos,act:=.ofEvent e}]:=by rw[ofEvents_eq];simp
theorem iV.word (h:iV H aM tok O bz deaf N t) (Ι:y.g=i) (κ:y.act=.mark (.acquire ⟨b,0,none⟩)\/y.act=.mark (.releaseMerge ⟨b,0,none⟩)) (hb:b<N) (dD:mx O O') (hv:∀j b v,pG j b=some v->aM j b=some v)
  (ψ:∀k,dv (t++#[y]) (jR eF O' (t++#[y]) k) (H' k)):iV H' pG eF O' bz deaf N (t++#[y]):=by
 have nt:y.act.touch?=none:=by rcases κ with e|e<;>rw[e]<;>rfl
 have old:∀k a,touchAt (t++#[y]) k=some a->touchAt t k=some a/\k<t.size:=λk a ς=>by
  obtain⟨x,γ,wW⟩:=touch_of ς;rcases getElem?_append_cases γ with⟨aP,hR⟩|⟨_,gy⟩
  ·exact⟨by rw[touchAt_of hR];exact wW,aP⟩
  ·simp at gy;subst gy;rw[nt] at wW;cases wW
 refine⟨λsaid=>noRace_append (g:=i) (h.race said) (λop Μ=>by simp at Μ;subst Μ;exact Ι) (λk a _ op Μ c δ _=>by simp at Μ;subst Μ;rw[nt] at δ;cases δ),λop Μ=>?_,λop Μ a=>?_,ψ,λj c v δ k a ς=>h.oG j c v (hv j c v δ) k a (old k a ς).1,λs o' c ν δ k a ς fs=>?_,λj=>?_⟩
 ·rcases Array.mem_append.1 Μ with Μ|Μ
  ·exact h.low op Μ
  ·simp at Μ;subst Μ;rcases κ with e|e<;>rw[e]<;>exact hb
 ·rcases Array.mem_append.1 Μ with Μ|Μ
  ·exact h.norel op Μ a
  ·simp at Μ;subst Μ;rcases κ with e|e<;>rw[e]<;>simp
 ·obtain⟨lM,J,U⟩:=dD.1 s o' ν;obtain⟨μ,Θ⟩:=old k a ς;rcases h.cont s lM c J (by rw[U];exact δ) k a μ fs with x|⟨x,dn⟩
  ·exact .inl x
  ·exact .inr ⟨x,by rw[g?_old Θ];exact dn⟩
 ·rw[Deaf_push,<-h.hears j];rcases κ with e|e<;>simp[deafStep,e]
theorem iV.xd (h:iV H aM tok O bz deaf N t) (k:cM) (nt:y.act.touch?=none) (dD:mx O O') (dW:∀i s,eF i s≠.nil->tok i s≠.nil):dv (t++#[y]) (jR eF O' (t++#[y]) k) (H k):=
 (h.perms k).others (λ_ ς=>B0 dD.1 dW (FT _ ς)) λop Μ a κ=>by simp at Μ;subst Μ;rw[nt] at κ;cases κ
theorem Knows.marked {p:Nat} {op:MemOp} (J:t[p]?=some op) (U:op.act=.mark (.releaseMerge ⟨b,0,none⟩)) (μ:t.heard p) (ep:∀op∈t,∀a,op.act≠.mark (.release a)) (Ξ:y.g=i) (Ι:y.act=.mark (.acquire ⟨b,0,none⟩)) (hd:Deaf t i=0):Knows (t++#[y]) i p:=by
 have jS:(t++#[y])[t.size]?=some y:=η
 have za:(t++#[y]).heard t.size:=⟨i,by simp[Trace.g?,Ξ],by rw[deaf_old (Nat.le_refl _)];exact hd⟩
 have ψ:=lt_size_of_getElem? J;refine⟨t.size,y,jS,Ξ,.inr (.single (.inr ⟨.marked (a:=⟨b,0,none⟩) ψ (.inr ?_) ?_ ?_,(heard_old ψ).2 μ,za⟩))⟩
 ·rw[act?_old ψ,act?_of J,U]
 ·rw[act?_of jS,Ι]
 ·intro ag iW e3 iX;rw[act?_old e3] at iX;obtain⟨r7,jT,iC⟩:=Option.map_eq_some_iff.1 iX;exact ep r7 (mem_of_getElem? jT) _ iC
theorem dv.np {jO:Nat->Prop} {G:χ} (h:dv t jO G) (nt:y.act.touch?=none) (ς:∀k,jO k->Knows (t++#[y]) i k):dv (t++#[y]) (Knows (t++#[y]) i) G:=
 h.others ς λop Μ a κ=>by simp at Μ;subst Μ;rw[nt] at κ;cases κ
theorem Sub.empty (G:χ):Sub χ.empty G:=⟨λ_ _ _ _ h=>(by cases h),λ_ _ h=>(by cases h),λ_ _ h=>(by cases h)⟩
theorem Sub.both {A B an:χ} (h:Sub A an) (k:Sub B an):Sub (join A B) an:=by
 refine⟨λb o v p δ=>?_,λb x ι=>?_,λb x hv=>?_⟩
 ·simp only[join] at δ;cases Ξ:A.aO b o with
  | none=>rw[Ξ] at δ;exact k.aO b o v p δ
  | some z=>rw[Ξ] at δ;cases δ;exact h.aO b o v p Ξ
 ·simp only[join] at ι;cases Ξ:A.row b with
  | none=>rw[Ξ] at ι;exact k.row b x ι
  | some z=>rw[Ξ] at ι;cases ι;exact h.row b _ Ξ
 ·simp only[join] at hv;cases Ξ:A.obj b with
  | none=>rw[Ξ] at hv;exact k.obj b x hv
  | some z=>rw[Ξ] at hv;cases hv;exact h.obj b _ Ξ
theorem Sub.SF {G H:χ} (da:Fits G w) (Α:Fits H w) (ap:Apart G H):Sub H (join G H):=by
 refine⟨λb o v p δ=>?_,λb x ι=>?_,λb x hv=>?_⟩
 ·simp only[join];cases Ξ:G.aO b o with
  | none=>exact⟨p,δ,id⟩
  | some z=>
   obtain⟨fr,fc⟩:=z;have Δ:=da.aO b o fr fc Ξ;have Γ:=Α.aO b o v p δ;rw[Δ] at Γ;cases Γ;refine⟨fc,rfl,λψ=>?_⟩;subst ψ;exact absurd ⟨_,Ξ⟩ (ap.qH b o ⟨_,δ⟩)
 ·simp only[join];cases Ξ:G.row b with
  | none=>exact ι
  | some z=>
   obtain⟨t1,hU⟩:=z;obtain⟨t2,gl⟩:=x;obtain⟨c1,a1,bd⟩:=da.row b t1 hU Ξ;obtain⟨c2,bw,dm⟩:=Α.row b t2 gl ι;rw[a1] at bw;cases bw;rw[<-bd,<-dm]
 ·simp only[join];cases Ξ:G.obj b with
  | none=>exact hv
  | some z=>exact absurd ⟨x,hv⟩ (ap.obj b ⟨z,Ξ⟩)
theorem Ga (G:χ):join G χ.empty=G:=by
 obtain⟨a,b,c⟩:=G;simp only[join,χ.empty];congr
 ·funext x y;cases a x y<;>rfl
 ·funext x;cases b x<;>rfl
 ·funext x;cases c x<;>rfl
theorem ha.xe (h:ha H aM O bq w) (hv:∀j b v,pG j b=some v->aM j b=some v):ha H pG O bq w:=⟨h.fit,λj b c t hb=>h.mr j b c t (hv j b _ hb),h.fV,h.keep⟩
theorem iB.xe (h:iB H aM O ht) (hv:∀j b v,pG j b=some v->aM j b=some v):iB H pG O ht:=by
 have Ln:∀j b,aM j b=none->pG j b=none:=λj b e=>by
  cases γ:pG j b with
  | none=>rfl
  | some v=>rw[hv j b v γ] at e;cases e
 exact⟨h.apart,h.high,h.n1,λj b v hb=>let ⟨a1,bd,cI⟩:=h.fresh j b v (hv j b v hb);⟨a1,bd,λk ς=>Ln k b (cI k ς)⟩,λs o b ν hb=>let ⟨a1,bd,cI⟩:=h.kE s o b ν hb;⟨a1,bd,λk=>Ln k b (cI k)⟩,h.kY,h.pE,h.eE⟩
theorem kG {o':aS} (ω:O s=some o) {r:Nat} {q:aS} (h:upd O s (some o') r=some q):(r=s/\q=o')\/(r≠s/\O r=some q):=by
 by_cases e:r=s
 ·subst e;rw[upd_same] at h;cases h;exact .inl ⟨rfl,rfl⟩
 ·rw[upd_ne _ _ e] at h;exact .inr ⟨e,h⟩
theorem Ca {a b:Tok} (Ν:tok i s=a) (κ:∀q p,a≠.par q p .bB) (hb:∀q p,b≠.par q p .bB) (j r q p:Nat):b4 tok i s b j r=.par q p .bB↔tok j r=.par q p .bB:=by
 by_cases e:j=i/\r=s
 ·obtain⟨rfl,rfl⟩:=e;rw[fb,Ν];exact⟨λx=>absurd x (hb q p),λx=>absurd x (κ q p)⟩
 ·rw[e2 _ e]
theorem zi {a b:Tok} (Ν:tok i s=a) (κ:a≠.nil) (j r:Nat) (h:b4 tok i s b j r≠.nil):tok j r≠.nil:=by
 by_cases e:j=i/\r=s
 ·obtain⟨rfl,rfl⟩:=e;rw[Ν];exact κ
 ·rw[e2 _ e] at h;exact h
theorem zj {a b:Tok} (Ν:tok i s=a) (hb:∀k m g,a=.ch k m g->∃k m g,b=.ch k m g) (j r k:Nat) (m:lG) (g:tm) (h:tok j r=.ch k m g):∃k m g,b4 tok i s b j r=.ch k m g:=by
 by_cases e:j=i/\r=s
 ·obtain⟨rfl,rfl⟩:=e;rw[fb];exact hb k m g (Ν▸h)
 ·rw[e2 _ e];exact⟨k,m,g,h⟩
end
section
variable {P:Program} {Q:Value->Prop} {bq:World} {c c':de} {gs:Array Goroutine} {w w':World} {t:Trace} {i:Nat} {g g':Goroutine} {es:Array Event}
variable {f:Bool×Goroutine×aZ->gw (Bool×Goroutine×aZ)}
theorem Inv.Cb (h:Inv P Q bq c gs w t) (Ξ:gs[i]?=some g) (ς:KI P (i==0) (lR P Q f) g (c.x i)):h' P Q bq c gs w t i f:=by
 obtain⟨s,sp,m,k,g',J,U,μ,Θ,av,ba,cF,Gb⟩:=ς;have br:i<gs.size:=mD Ξ;obtain⟨o,ω,b0⟩:=h.bh.qP i s sp J;subst b0;have dW:c.tok i s=.ch k .own .work:=μ;have hd:c.deaf i=0:=Θ;have ep:c.rel i=false:=ba;have ν:=cF w (h.mem.fit (.inl i));have vn:=h.bh.Lk ω dW η;have dw:=h.eE.pF s o m ω U vn (λj ag L g ε=>by
  have:=h.bh.only ω (i:=i) (by rw[dW];rfl) j ag L g ε;subst this;rw[dW] at ε;cases ε)
 have aN:=Gb o.L (c.H (.inr m)) dw (h.hold.apart _ _ η) ⟨(h.bh.fL s o ω).1,λς=>(by
  obtain⟨j,b5,ak,Δ,Γ⟩:=((h.bh.fL s o ω).2 k).1 ς;have:=h.bh.vb s j i k b5 ak _ _ Δ dW;subst this;rw[dW] at Δ;cases Δ;exact Γ),w,h.mem.fit _,h.mem.fit _⟩
 let dn:aZ:={c.x i with G:=join (c.H (.inl i)) (c.H (.inr m)),tok:=upd (c.tok i) s (.ch k (.dr o.L) .work),view:=upd (c.view i) s none}
 let c':de:={c with H:=bP (bP c.H (.inl i) (join (c.H (.inl i)) (c.H (.inr m)))) (.inr m) χ.empty,tok:=b4 c.tok i s (.ch k (.dr o.L) .work),view:=upd c.view i (upd (c.view i) s none),O:=upd c.O s (some o),T:=upd c.T i (f (i==0,g',dn))}
 have dD:=mx.upd (o':=o) ω rfl
 have bB:=Ca (b:=.ch k (.dr o.L) .work) dW η η
 have nil:=zi (b:=.ch k (.dr o.L) .work) dW η
 have hm:ew s o.toSpec m:=.inr U;refine h'.go (c':=c') Ξ ν ?_ _ rfl;rw[ofEvents_one];have n5:c'.x i=dn:=by
  have:(Sum.inl i:cM)≠.inr m:=η;simp[c',dn,de.x,upd_same,vm,bQ _ _ this]
 refine h.laid (c':=c') Ξ (h.mem.two (zb (h.mem.fit _) (h.mem.fit _)) (ve w) λr q Φ=>?_) ?_ ?_ (h.bh.FF ω dW) ⟨λr q b5 Φ dp cw iD=>?_,λr q Φ cw=>?_⟩
  (h.ek.app br (λop Μ=>by simp at Μ;subst Μ;rfl) (λγ=>by rw[ep] at γ;cases γ) (λs q p ⟨j,x⟩=>⟨j,(bB j s q p).1 x⟩) (λj s q p x=>(bB j s q p).1 x))
  (h.fW.app h.bU.low (λop Μ b hb=>by simp at Μ;subst Μ;cases hb) (λj b v hv=>.inl ⟨v,hv⟩) (λr q Φ=>?_) (λj r ag mu g e=>zj dW (λ_ _ _ _=>⟨_,_,_,rfl⟩) j r ag mu g e))
  ⟨g',?_,.inl rfl⟩ (λj ε=>⟨?_,upd_ne _ _ ε⟩) (.inr λj r q _ a b=>?_)
 ·rcases kG ω Φ with⟨rfl,rfl⟩|⟨_,cd⟩
  ·exact h.mem.fV _ _ ω
  ·exact h.mem.fV _ _ cd
 ·exact h.hold.two η (Sub.refl _) (Sub.empty _) (Apart.tw _) dD λx γ=>by
   rcases γ with e|e
   ·cases e;exact⟨s,o,ω,hm⟩
   ·cases e
 ·refine h.bU.word (i:=i) rfl (.inl rfl) (h.low ω hm) dD (λ_ _ _ x=>x) λa=>?_;by_cases Γ:a=.inr m
  ·subst Γ;show dv _ _ (bP _ _ _ _);rw[dQ];exact dv.empty
  ·show dv _ _ (bP _ _ _ _);rw[bQ _ _ Γ];by_cases Δ:a=.inl i
   ·subst Δ;rw[dQ];exact((h.bU.perms (.inl i)).own (λop Μ=>by simp at Μ;subst Μ;rfl)).join ((h.bU.perms (.inr m)).acquire h.bU.norel ω hm (by rw[dW];simp) rfl rfl (by rw[h.bU.hears];exact hd))
   ·rw[bQ _ _ Δ];exact h.bU.xd a rfl dD nil
 ·rcases kG ω Φ with⟨rfl,rfl⟩|⟨e,cd⟩
  ·exact absurd (fb ..) (iD i k q.L .work)
  ·have bA:(.inr b5:cM)≠.inr m:=λx=>by cases x;exact e (h.hold.kY r s q o m cd ω (.inr dp) hm)
   show q.an q.L (bP (bP c.H _ _) (.inr m) _ (.inr b5));rw[bQ _ _ bA,iY];exact h.eE.pF r q b5 cd dp (λj q p x=>cw j q p ((bB j r q p).2 x)) λj k L g x=>iD j k L g (by show b4 c.tok i s _ j r=_;rw[e2 _ (λy=>e y.2)];exact x)
 ·rcases kG ω Φ with⟨rfl,rfl⟩|⟨e,cd⟩
  ·have bA:(.inr r:cM)≠.inr m:=λx=>by cases x;exact h.hold.pE _ q m ω U rfl
   show lN q.D q.al (bP (bP c.H _ _) (.inr m) _ (.inr r));rw[bQ _ _ bA,iY];exact h.eE.mz r q ω (λj q p x=>cw j q p ((bB j r q p).2 x))
  ·have bA:(.inr r:cM)≠.inr m:=λx=>by cases x;exact e (h.hold.kY m s q o m cd ω (.inl rfl) hm)
   show lN q.D q.al (bP (bP c.H _ _) (.inr m) _ (.inr r));rw[bQ _ _ bA,iY];exact h.eE.mz r q cd (λj q p x=>cw j q p ((bB j r q p).2 x))
 ·rcases kG ω Φ with⟨rfl,rfl⟩|⟨_,cd⟩
  ·exact⟨_,ω,rfl⟩
  ·exact⟨q,cd,rfl⟩
 ·rw[n5];show jQ P Q (upd c.T i (f (i==0,g',dn)) i) _ _ _;rw[upd_same];exact aN
 ·have hU:(Sum.inl j:cM)≠.inr m:=by simp
  have gl:(Sum.inl j:cM)≠.inl i:=λe=>ε (by cases e;rfl);simp[c',de.x,upd_ne _ _ ε,sa _ ε,bQ _ _ hU,bQ _ _ gl]
 ·exact⟨q,by show upd c.O s (some o) r=some q;rw[B7 ω];exact a,b⟩
theorem Inv.Gc (h:Inv P Q bq c gs w t) (Ξ:gs[i]?=some g) (ς:KJ P (i==0) (lR P Q f) g (c.x i)):h' P Q bq c gs w t i f:=by
 obtain⟨s,sp,m,k,L,g',G',E,J,U,μ,Θ,av,ba,cF,mE,cQ,aN⟩:=ς;have br:i<gs.size:=mD Ξ;obtain⟨o,ω,b0⟩:=h.bh.qP i s sp J;subst b0;have dW:c.tok i s=.ch k (.dr L) .work:=μ;have hd:c.deaf i=0:=Θ;have ep:c.rel i=false:=ba;have ν:=cF w (h.mem.fit (.inl i));have ab:o.L=L:=h.bh.dr i s k L .work o ω dW;let o':aS:={o with L:=o.L++[k]};let dn:aZ:={c.x i with G:=G',tok:=upd (c.tok i) s (.ch k .fin .work),view:=upd (c.view i) s none};let c':de:={c with H:=bP (bP c.H (.inl i) G') (.inr m) E,tok:=b4 c.tok i s (.ch k .fin .work),view:=upd c.view i (upd (c.view i) s none),O:=upd c.O s (some o'),T:=upd c.T i (f (i==0,g',dn))};have dD:mx c.O (upd c.O s (some o')):=mx.upd ω rfl;have bB:=Ca (b:=.ch k .fin .work) dW η η;have nil:=zi (b:=.ch k .fin .work) dW η;have hm:ew s o.toSpec m:=.inr U;refine h'.go (c':=c') Ξ ν ?_ _ rfl;rw[ofEvents_one];have n5:c'.x i=dn:=by
  have:(Sum.inl i:cM)≠.inr m:=η;simp[c',dn,de.x,upd_same,vm,bQ _ _ this]
 refine h.laid (c':=c') Ξ (h.mem.two (mE.l.fits (h.mem.fit (.inl i))) (mE.r.fits (h.mem.fit (.inl i))) λr q Φ=>?_) ?_ ?_ (h.bh.Sc ω dW) ⟨λr q b5 Φ dp cw iD=>?_,λr q Φ cw=>?_⟩
  (h.ek.app br (λop Μ=>by simp at Μ;subst Μ;rfl) (λγ=>by rw[ep] at γ;cases γ) (λs q p ⟨j,x⟩=>⟨j,(bB j s q p).1 x⟩) (λj s q p x=>(bB j s q p).1 x))
  ⟨λr q b5 Φ dp p op ψ κ=>?_,λj b v hv op Μ κ=>?_⟩
  ⟨g',?_,.inl rfl⟩ (λj ε=>⟨?_,upd_ne _ _ ε⟩) (.inr λj r q _ a b=>?_)
 ·rcases kG ω Φ with⟨rfl,rfl⟩|⟨_,cd⟩
  ·exact(h.mem.fV r o ω:At r o w)
  ·exact h.mem.fV _ _ cd
 ·exact h.hold.two η mE.l.qQ mE.r.qQ mE.apart dD λx γ=>by
   rcases γ with e|e
   ·cases e;exact⟨s,o,ω,hm⟩
   ·cases e
 ·refine h.bU.word (i:=i) rfl (.inr rfl) (h.low ω hm) dD (λ_ _ _ x=>x) λa=>?_;by_cases Γ:a=.inr m
  ·subst Γ;show dv _ _ (bP _ _ _ _);rw[dQ];exact((dv.release (h.bU.perms (.inl i)) rfl rfl (by rw[h.bU.hears];exact hd)).sub mE.r).mono λ_ x=>B0 dD.1 nil x
  ·show dv _ _ (bP _ _ _ _);rw[bQ _ _ Γ];by_cases Δ:a=.inl i
   ·subst Δ;rw[dQ];exact((h.bU.perms (.inl i)).own (λop Μ=>by simp at Μ;subst Μ;rfl)).sub mE.l
   ·rw[bQ _ _ Δ];exact h.bU.xd a rfl dD nil
 ·rcases kG ω Φ with⟨rfl,rfl⟩|⟨e,cd⟩
  ·have e:b5=m:=by have:o.aW=some b5:=dp;rw[U] at this;cases this;rfl
   subst e;show o.an (o.L++[k]) (bP (bP c.H _ _) (.inr b5) _ (.inr b5));rw[dQ,ab];exact cQ
  ·have bA:(.inr b5:cM)≠.inr m:=λx=>by cases x;exact e (h.hold.kY r s q o m cd ω (.inr dp) hm)
   show q.an q.L (bP (bP c.H _ _) (.inr m) _ (.inr b5));rw[bQ _ _ bA,iY];exact h.eE.pF r q b5 cd dp (λj q p x=>cw j q p ((bB j r q p).2 x)) λj k L g x=>iD j k L g (by show b4 c.tok i s _ j r=_;rw[e2 _ (λy=>e y.2)];exact x)
 ·rcases kG ω Φ with⟨rfl,rfl⟩|⟨e,cd⟩
  ·have bA:(.inr r:cM)≠.inr m:=λx=>by cases x;exact h.hold.pE _ o m ω U rfl
   show lN o.D o.al (bP (bP c.H _ _) (.inr m) _ (.inr r));rw[bQ _ _ bA,iY];exact h.eE.mz r o ω (λj q p x=>cw j q p ((bB j r q p).2 x))
  ·have bA:(.inr r:cM)≠.inr m:=λx=>by cases x;exact e (h.hold.kY m s q o m cd ω (.inl rfl) hm)
   show lN q.D q.al (bP (bP c.H _ _) (.inr m) _ (.inr r));rw[bQ _ _ bA,iY];exact h.eE.mz r q cd (λj q p x=>cw j q p ((bB j r q p).2 x))
 ·rcases getElem?_append_cases ψ with⟨_,h9⟩|⟨_,gy⟩
  ·have zk:∀iE,c.O r=some iE->iE.aW=some b5->(∃ag mu g,b4 c.tok i s (.ch k .fin .work) op.g r=.ch ag mu g)/\(c.rel op.g=true->Before (t++#[{g:=i,fn:=g.frame.fn,pos:=g.frame.place,act:=MemAct.ofEvent (Go.ConcR.mk (Mark.releaseMerge {block:=m,off:=0}))}]) p (c.dH op.g)):=λiE Δ Γ=>by
    obtain⟨⟨ag,mu,g,μ⟩,Θ⟩:=h.fW.ju r iE b5 Δ Γ p op h9 κ;exact⟨zj dW (λ_ _ _ _=>⟨_,_,_,rfl⟩) _ _ _ _ _ μ,λι=>(Θ ι).app _⟩
   rcases kG ω Φ with⟨rfl,rfl⟩|⟨_,cd⟩
   ·exact zk o ω dp
   ·exact zk q cd dp
  ·simp at gy;subst gy;cases κ;have:r=s:=by
    rcases kG ω Φ with⟨rfl,rfl⟩|⟨_,cd⟩
    ·rfl
    ·exact h.hold.kY r s q o m cd ω (.inr dp) hm
   subst this;exact⟨⟨k,.fin,.work,fb ..⟩,λι=>by
    have:c.rel i=true:=ι;rw[ep] at this;cases this⟩
 ·rcases Array.mem_append.1 Μ with Μ|Μ
  ·exact h.fW.vi j b v hv op Μ κ
  ·simp at Μ;subst Μ;cases κ;have:=(h.hold.kE s o m ω hm).2.2 j;have lQ:c.aM j m=some v:=hv;rw[this] at lQ;cases lQ
 ·rw[n5];show jQ P Q (upd c.T i (f (i==0,g',dn)) i) _ _ _;rw[upd_same];exact aN
 ·have hU:(Sum.inl j:cM)≠.inr m:=by simp
  have gl:(Sum.inl j:cM)≠.inl i:=λe=>ε (by cases e;rfl);simp[c',de.x,upd_ne _ _ ε,sa _ ε,bQ _ _ hU,bQ _ _ gl]
 ·by_cases e:r=s
  ·subst e;rw[ω] at a;cases a;exact⟨o',upd_same ..,b⟩
  ·exact⟨q,by show upd c.O s (some o') r=some q;rw[upd_ne _ _ e];exact a,b⟩
end
section
variable {P:Program} {Q:Value->Prop} {bq:World} {c c':de} {gs:Array Goroutine} {w w':World} {t:Trace} {i:Nat} {g g':Goroutine} {es:Array Event}
variable {f:Bool×Goroutine×aZ->gw (Bool×Goroutine×aZ)}
theorem Inv.parent (h:Inv P Q bq c gs w t) {s:Nat} {o:aS} (ω:c.O s=some o):c.bz s<gs.size/\∃q p aL,c.tok (c.bz s) s=.par q p aL:=by
 obtain⟨i0,k2,ψ⟩:=BO (φ:=eX) (N:=gs.size) (τ:=λa=>c.tok a s) (by rw[(h.bh.bf s o ω).2.nZ];exact Nat.one_pos);have ze:∃q p aL,c.tok i0 s=.par q p aL:=by
  cases γ:c.tok i0 s with
  | par q p aL=>exact⟨q,p,aL,rfl⟩
  | nil=>simp[γ,eX] at ψ
  | ch=>simp[γ,eX] at ψ
 obtain⟨q,p,aL,γ⟩:=ze;have cl:=h.bh.par i0 _ q p aL γ;subst cl;exact⟨k2,q,p,aL,γ⟩
theorem Inv.Gd (h:Inv P Q bq c gs w t) (Ξ:gs[i]?=some g) (ς:KL P (i==0) (lR P Q f) g (c.x i)):h' P Q bq c gs w t i f:=by
 obtain⟨s,sp,k,mu,g',E,J,μ,tv,SG,Θ,av,ba,cF,km,et,aN⟩:=ς;have br:i<gs.size:=mD Ξ;obtain⟨o,ω,b0⟩:=h.bh.qP i s sp J;subst b0;have dW:c.tok i s=.ch k mu .work:=μ;have hd:c.deaf i=0:=Θ;have ep:c.rel i=false:=ba;have Lo:∀bm,bm≠s->gj (c.tok i bm):=SG;have ν:=cF w (h.mem.fit (.inl i));obtain⟨k2,r8,aP⟩:=h.bh.oK i s k mu .work dW;have vn:=h.bh.Lk ω dW η;let y:MemOp:={g:=i,fn:=g.frame.fn,pos:=g.frame.place,act:=MemAct.ofEvent (Go.ConcR.mk (Mark.releaseMerge ⟨s,0,none⟩))};have Ge:y.act=.mark (.releaseMerge ⟨s,0,none⟩):=rfl;have jS:(t++#[y])[t.size]?=some y:=η;have SH:(t++#[y]).heard t.size:=⟨i,by simp[Trace.g?,y],by rw[deaf_old (Nat.le_refl _)];exact(h.bU.hears i).trans hd⟩;let o':aS:={o with al:=k::o.al};let dn:aZ:={c.x i with G:=χ.empty,aM:=λ_=>none,tok:=upd (c.tok i) s (.ch k mu .rel),view:=upd (c.view i) s none,rel:=true};let c':de:={c with H:=bP (bP c.H (.inl i) χ.empty) (.inr s) (join E (c.H (.inr s))),aM:=upd c.aM i λ_=>none,tok:=b4 c.tok i s (.ch k mu .rel),view:=upd c.view i (upd (c.view i) s none),O:=upd c.O s (some o'),rel:=upd c.rel i true,dH:=upd c.dH i t.size,T:=upd c.T i (f (i==0,g',dn))};have dD:mx c.O (upd c.O s (some o')):=mx.upd ω rfl;have bB:=Ca (b:=.ch k mu .rel) dW η η;have nil:=zi (b:=.ch k mu .rel) dW η;have hz:ew s o.toSpec s:=.inl rfl;have fX:∀j b v,upd c.aM i (λ_=>none) j b=some v->c.aM j b=some v:=λj b v hv=>by
  by_cases e:j=i
  ·subst e;rw[upd_same] at hv;cases hv
  ·rw[upd_ne _ _ e] at hv;exact hv
 have ib:=h.hold.apart (.inl i) (.inr s) η
 have hSub:Sub (join E (c.H (.inr s))) (join (c.H (.inl i)) (c.H (.inr s))):=Sub.both (Sub.qQ km) (Sub.SF (h.mem.fit _) (h.mem.fit _) ib)
 have Lp:∀j r ag L g,c.tok j r=.ch ag (.dr L) g->b4 c.tok i s (.ch k mu .rel) j r=.ch ag (.dr L) g:=λj r ag L g ε=>by
  rw[e2 _ (λe=>?_)]
  ·exact ε
  ·obtain⟨rfl,rfl⟩:=e;rw[dW] at ε;rcases tv with rfl|⟨rfl,_⟩<;>cases ε
 have r6:∀j,j≠i->∀r,b4 c.tok i s (.ch k mu .rel) j r=c.tok j r:=λj ε r=>e2 _ λe=>ε e.1;refine h'.go (c':=c') Ξ ν ?_ _ rfl;rw[ofEvents_one];have n5:c'.x i=dn:=by
  have:(Sum.inl i:cM)≠.inr s:=η;simp[c',dn,de.x,upd_same,vm,bQ _ _ this]
 have SI:vh gs.size c'.tok c'.rel c'.bz c'.home c'.dH (t++#[y]):=by
  refine⟨λag g' hy=>?_,λj fM ε=>?_,λj fM ε cw=>?_,λj fM ε qX bS=>?_⟩
  ·obtain⟨op,Μ,hx⟩:=Option.map_eq_some_iff.1 hy;rcases getElem?_append_cases Μ with⟨_,k3⟩|⟨_,gy⟩
   ·exact h.ek.ef ag g' (by simp[Trace.g?,k3,hx])
   ·simp at gy;subst gy;rw[<-hx];exact br
  ·by_cases e:j=i
   ·subst e;have Δ:c'.dH j=t.size:=upd_same ..;rw[Δ];refine⟨y,jS,rfl,by rw[Ge];show _=MemAct.mark (.releaseMerge ⟨c.home j,0,none⟩);rw[r8],SH,λag hy δ=>?_⟩;obtain⟨op,Μ,hx⟩:=Option.map_eq_some_iff.1 hy;rcases getElem?_append_cases Μ with⟨qY,k3⟩|⟨hle,gy⟩
    ·exact .inr (hb_po qY Μ jS hx)
    ·exact absurd δ (xb (u:=#[y]) (λop Μ=>by simp at Μ;subst Μ;rfl) ag hle)
   ·have aH:c.rel j=true:=by have:upd c.rel i true j=true:=ε;rwa [upd_ne _ _ e] at this
    have Δ:c'.dH j=c.dH j:=upd_ne _ _ e;rw[Δ];obtain⟨op,a1,bd,cI,gv,hT⟩:=h.ek.c1 j fM aH;have ψ:=lt_size_of_getElem? a1;refine⟨op,by rw[getElem?_append_old ψ];exact a1,bd,cI,(heard_old ψ).2 gv,λag hy δ=>?_⟩;obtain⟨r7,Μ,hx⟩:=Option.map_eq_some_iff.1 hy;rcases getElem?_append_cases Μ with⟨qY,k3⟩|⟨hle,gy⟩
    ·exact(hT ag (by simp[Trace.g?,k3,hx]) ((zd qY).1 δ)).app _
    ·exact absurd δ (xb (u:=#[y]) (λop Μ=>by simp at Μ;subst Μ;rfl) ag hle)
  ·obtain⟨q,p,Φ⟩:=cw;have cd:c.tok (c.bz (c.home j)) (c.home j)=.par q p .bB:=(bB _ _ q p).1 Φ;by_cases e:j=i
   ·subst e;rw[r8] at cd;exact absurd cd (vn _ q p)
   ·have aH:c.rel j=true:=by have:upd c.rel i true j=true:=ε;rwa [upd_ne _ _ e] at this
    have Δ:c'.dH j=c.dH j:=upd_ne _ _ e;rw[Δ];exact(h.ek.c2 j fM aH ⟨q,p,cd⟩).app _
  ·by_cases e:j=i
   ·subst e;exfalso;have SJ:c.bz s≠0:=by rw[<-r8];exact qX
    have bA:c.bz s≠j:=R
    have zl:c.rel (c.bz s)=true:=by
     have:upd c.rel j true (c.bz (c.home j))=true:=bS;rw[r8,upd_ne _ _ bA] at this;exact this
    obtain⟨_,q,p,aL,sb⟩:=h.parent ω;have cS:gj (c.tok (c.bz s) s):=by
     by_cases Γ:s=c.home (c.bz s)
     ·obtain⟨cN,dx,ak,e3⟩:=h.bh.r5 (c.bz s) SJ R;rw[<-Γ,sb] at e3;cases e3
     ·exact h.bh.oL _ s zl Γ
    rw[sb] at cS;cases aL<;>first|exact cS.elim|exact vn _ _ _ sb
   ·have aH:c.rel j=true:=by have:upd c.rel i true j=true:=ε;rwa [upd_ne _ _ e] at this
    have Δ:c'.dH j=c.dH j:=upd_ne _ _ e;rw[Δ];by_cases Γ:c.bz (c.home j)=i
    ·have a2:c'.dH (c.bz (c.home j))=t.size:=by rw[Γ];exact upd_same ..
     show Before _ _ (c'.dH (c.bz (c.home j)));rw[a2];obtain⟨op,a1,_⟩:=h.ek.c1 j fM aH;have fe:j<gs.size:=by
      obtain⟨op,a1,bd,_⟩:=h.ek.c1 j fM aH;exact h.ek.ef (c.dH j) j (by simp[Trace.g?,a1,bd])
     obtain⟨cN,dx,ak,e3⟩:=h.bh.r5 j fM fe;obtain⟨h8,vo⟩:=h.obj (i:=j) (s:=c.home j) (by rw[e3];simp);obtain⟨_,q,p,aL,sb⟩:=h.parent vo;rw[Γ] at sb;have bA:c.home j≠s:=λcL=>by rw[cL,dW] at sb;cases sb
     have cS:=Lo _ bA;rw[sb] at cS;have mw:aL=.bB:=by cases aL<;>first|exact cS.elim|rfl
     subst mw;have Lq:=h.ek.c2 j fM aH ⟨q,p,by rw[Γ];exact sb⟩;rw[Γ] at Lq;exact .inr (Lq.hb_new (u:=#[y]) (Nat.le_refl _) jS rfl)
    ·have a2:c'.dH (c.bz (c.home j))=c.dH (c.bz (c.home j)):=upd_ne _ _ Γ
     show Before _ _ (c'.dH (c.bz (c.home j)));rw[a2];refine(h.ek.c3 j fM aH qX ?_).app _;have:upd c.rel i true (c.bz (c.home j))=true:=bS
     rwa [upd_ne _ _ Γ] at this
 refine h.laid (c':=c') Ξ ((h.mem.two (ve w) (zb (km.fits (h.mem.fit (.inl i))) (h.mem.fit _)) λr q Φ=>?_).xe fX) ((h.hold.two η (Sub.empty _) hSub (Apart.tw _).symm dD λx γ=>?_).xe fX) ?_ (h.bh.Sd ω dW tv Lo) ⟨λr q b5 Φ dp cw iD=>?_,λr q Φ cw=>?_⟩
  SI ⟨λr q b5 Φ dp p op ψ κ=>?_,λj b v hv op Μ κ=>?_⟩
  ⟨g',?_,.inl rfl⟩ (λj ε=>⟨?_,upd_ne _ _ ε⟩) (.inr λj r q _ a b=>?_)
 ·rcases kG ω Φ with⟨rfl,rfl⟩|⟨_,cd⟩
  ·exact(h.mem.fV r o ω:At r o w)
  ·exact h.mem.fV _ _ cd
 ·rcases γ with e|e
  ·cases e;exact⟨s,o,ω,hz⟩
  ·cases e
 ·refine h.bU.word (i:=i) rfl (.inr rfl) (h.low ω hz) dD fX λa=>?_;by_cases Γ:a=.inr s
  ·subst Γ;show dv _ _ (bP _ _ _ _);rw[dQ];exact(((dv.release (h.bU.perms (.inl i)) rfl rfl (by rw[h.bU.hears];exact hd)).sub km).mono λ_ x=>B0 dD.1 nil x).join (h.bU.xd (.inr s) rfl dD nil)
  ·show dv _ _ (bP _ _ _ _);rw[bQ _ _ Γ];by_cases Δ:a=.inl i
   ·subst Δ;rw[dQ];exact dv.empty
   ·rw[bQ _ _ Δ];exact h.bU.xd a rfl dD nil
 ·rcases kG ω Φ with⟨rfl,rfl⟩|⟨e,cd⟩
  ·have bA:(.inr b5:cM)≠.inr r:=λx=>by cases x;exact h.hold.pE _ o _ ω dp rfl
   show o.an o.L (bP (bP c.H _ _) (.inr r) _ (.inr b5));rw[bQ _ _ bA,iY];exact h.eE.pF r o b5 ω dp (λj q p x=>cw j q p ((bB j r q p).2 x)) λj k L g x=>iD j k L g (Lp _ _ _ _ _ x)
  ·have bA:(.inr b5:cM)≠.inr s:=λx=>e (h.hold.kY r s q o b5 cd ω (.inr dp) (by cases x;exact hz))
   show q.an q.L (bP (bP c.H _ _) (.inr s) _ (.inr b5));rw[bQ _ _ bA,iY];exact h.eE.pF r q b5 cd dp (λj q p x=>cw j q p ((bB j r q p).2 x)) λj k L g x=>iD j k L g (Lp _ _ _ _ _ x)
 ·rcases kG ω Φ with⟨rfl,rfl⟩|⟨e,cd⟩
  ·show lN o.D (k::o.al) (bP (bP c.H _ _) (.inr r) _ (.inr r));rw[dQ];exact⟨E,c.H (.inr r),et,h.eE.mz r o ω (λj q p x=>cw j q p ((bB j r q p).2 x)),ib.sub km (Sub.refl _),rfl⟩
  ·have bA:(.inr r:cM)≠.inr s:=λx=>by cases x;exact e rfl
   show lN q.D q.al (bP (bP c.H _ _) (.inr s) _ (.inr r));rw[bQ _ _ bA,iY];exact h.eE.mz r q cd (λj q p x=>cw j q p ((bB j r q p).2 x))
 ·rcases getElem?_append_cases ψ with⟨qY,h9⟩|⟨_,gy⟩
  ·have zk:∀iE,c.O r=some iE->iE.aW=some b5->(∃ag Gf g,b4 c.tok i s (.ch k mu .rel) op.g r=.ch ag Gf g)/\(c'.rel op.g=true->Before (t++#[y]) p (c'.dH op.g)):=λiE Δ Γ=>by
    obtain⟨⟨ag,Gf,g,μ⟩,Θ⟩:=h.fW.ju r iE b5 Δ Γ p op h9 κ;refine⟨zj dW (λ_ _ _ _=>⟨_,_,_,rfl⟩) _ _ _ _ _ μ,λι=>?_⟩;by_cases e:op.g=i
    ·have Δ:c'.dH op.g=t.size:=by rw[e];exact upd_same ..
     rw[Δ];exact .inr (hb_po qY ψ jS e)
    ·have Δ:c'.dH op.g=c.dH op.g:=upd_ne _ _ e
     have Γ:c.rel op.g=true:=by have:upd c.rel i true op.g=true:=ι;rwa [upd_ne _ _ e] at this
     rw[Δ];exact(Θ Γ).app _
   rcases kG ω Φ with⟨rfl,rfl⟩|⟨_,cd⟩
   ·exact zk o ω dp
   ·exact zk q cd dp
  ·simp at gy;subst gy;cases κ;exfalso;rcases kG ω Φ with⟨rfl,rfl⟩|⟨e,cd⟩
   ·exact h.hold.pE _ o _ ω dp rfl
   ·exact e (h.hold.kY r s q o s cd ω (.inr dp) hz)
 ·have lQ:=fX j b v hv;rcases Array.mem_append.1 Μ with Μ|Μ
  ·exact h.fW.vi j b v lQ op Μ κ
  ·simp at Μ;subst Μ;cases κ;have:=(h.hold.kE s o s ω hz).2.2 j;rw[this] at lQ;cases lQ
 ·rw[n5];show jQ P Q (upd c.T i (f (i==0,g',dn)) i) _ _ _;rw[upd_same];exact aN
 ·have hU:(Sum.inl j:cM)≠.inr s:=by simp
  have gl:(Sum.inl j:cM)≠.inl i:=λe=>ε (by cases e;rfl);simp[c',de.x,upd_ne _ _ ε,sa _ ε,bQ _ _ hU,bQ _ _ gl]
 ·by_cases e:r=s
  ·subst e;rw[ω] at a;cases a;exact⟨o',upd_same ..,b⟩
  ·exact⟨q,by show upd c.O s (some o') r=some q;rw[upd_ne _ _ e];exact a,b⟩
theorem Inv.Cc (h:Inv P Q bq c gs w t) (Ξ:gs[i]?=some g) (ς:KM P (i==0) (lR P Q f) g (c.x i)):h' P Q bq c gs w t i f:=by
 obtain⟨s,sp,n,aL,g',J,μ,mw,Θ,av,ba,cF,Gb⟩:=ς;have br:i<gs.size:=mD Ξ;obtain⟨o,ω,b0⟩:=h.bh.qP i s sp J;subst b0;have dW:c.tok i s=.par n 0 aL:=μ;have hd:c.deaf i=0:=Θ;have ep:c.rel i=false:=ba;have ν:=cF w (h.mem.fit (.inl i));have qX:=h.bh.par i s n 0 aL dW;obtain⟨Lr,lS,r9⟩:=h.bh.full ω dW mw;have hz:ew s o.toSpec s:=.inl rfl;have vn:∀j q p,c.tok j s≠.par q p .bB:=λj q p ε=>by
  have e:=h.bh.par j s q p .bB ε;rw[<-qX] at e;subst e;rw[dW] at ε;rcases mw with rfl|rfl<;>cases ε
 let y:MemOp:={g:=i,fn:=g.frame.fn,pos:=g.frame.place,act:=MemAct.ofEvent (Go.ConcR.mk (Mark.acquire ⟨s,0,none⟩))}
 have Ge:y.act=.mark (.acquire ⟨s,0,none⟩):=rfl
 have vp:Deaf t i=0:=by rw[h.bU.hears];exact hd
 have dD:mx c.O (upd c.O s (some o)):=mx.upd ω rfl
 have nil:=zi (b:=.par n 0 .bB) dW η
 have Ls:∀j,(∃k m g,c.tok j s=.ch k m g)->j≠0/\c.home j=s/\c.rel j=true/\Knows (t++#[y]) i (c.dH j):=λj ⟨k,m,g,ε⟩=>by
  obtain⟨a1,bd,_⟩:=h.bh.oK j s k m g ε;have cI:c.rel j=true:=(h.bh.ey j k m g a1 (by rw[bd];exact ε)).2 (by rw[r9 j k m g ε];simp);obtain⟨op,bw,dm,fJ,mB,_⟩:=h.ek.c1 j a1 cI;rw[bd] at fJ;exact⟨a1,bd,cI,Knows.marked bw fJ mB h.bU.norel rfl Ge vp⟩
 have SK:=h.eE.mz s o ω vn;obtain⟨bR,eL,SL,SM,SN,SO,SP,jW,jx,Gg,k4,Gh,Gi,Gj⟩:∃(bR:cM->χ) (eL:χ),Fits eL w/\(o.aW≠none->o.an o.L eL)/\(o.aW=none->eL=χ.empty)/\Apart (c.H (.inl i)) eL/\Apart (c.H (.inr s)) eL/\
   bR (.inl i)=join (join (c.H (.inl i)) (c.H (.inr s))) eL/\(∀j,j≠i->bR (.inl j)=c.H (.inl j))/\(∀m,o.aW=some m->bR (.inr m)=χ.empty)/\(∀b,b≠s->o.aW≠some b->bR (.inr b)=c.H (.inr b))/\
   iB bR c.aM (upd c.O s (some o)) bq.heap.size/\ha bR c.aM (upd c.O s (some o)) bq w/\∀a,dv (t++#[y]) (jR (b4 c.tok i s (.par n 0 .bB)) (upd c.O s (some o)) (t++#[y]) a) (bR a):=by
  have mA:∀r q,upd c.O s (some o) r=some q->At r q w:=λr q Φ=>by
   rcases kG ω Φ with⟨rfl,rfl⟩|⟨_,cd⟩
   ·exact h.mem.fV _ _ ω
   ·exact h.mem.fV _ _ cd
  have xf:dv (t++#[y]) (Knows (t++#[y]) i) (join (c.H (.inl i)) (c.H (.inr s))):=
   ((h.bU.perms (.inl i)).own (λop Μ=>by simp at Μ;subst Μ;rfl)).join ((h.bU.perms (.inr s)).acquire h.bU.norel ω hz (by rw[dW];simp) rfl rfl vp)
  have Lt:iB (bP (bP c.H (.inl i) (join (c.H (.inl i)) (c.H (.inr s)))) (.inr s) χ.empty) c.aM (upd c.O s (some o)) bq.heap.size:=
   h.hold.two η (Sub.refl _) (Sub.empty _) (Apart.tw _) dD λx γ=>by
    rcases γ with e|e
    ·cases e;exact⟨s,o,ω,hz⟩
    ·cases e
  have Lu:ha (bP (bP c.H (.inl i) (join (c.H (.inl i)) (c.H (.inr s)))) (.inr s) χ.empty) c.aM (upd c.O s (some o)) bq w:=h.mem.two (zb (h.mem.fit _) (h.mem.fit _)) (ve w) mA
  have pH:(Sum.inl i:cM)≠.inr s:=η;cases fz:o.aW with
  | none=>
   refine⟨bP (bP c.H (.inl i) (join (c.H (.inl i)) (c.H (.inr s)))) (.inr s) χ.empty,χ.empty,ve w,λx=>absurd rfl x,λ_=>rfl,Apart.tw _,Apart.tw _,?_,λj ε=>?_,λm hm=>(by cases hm),λb hb _=>?_,Lt,Lu,λa=>?_⟩
   ·rw[bQ _ _ pH,dQ,Ga]
   ·have gl:(Sum.inl j:cM)≠.inl i:=λe=>ε (by cases e;rfl);rw[bQ _ _ η,bQ _ _ gl]
   ·have gl:(Sum.inr b:cM)≠.inr s:=λe=>hb (by cases e;rfl);rw[bQ _ _ gl,iY]
   ·by_cases Γ:a=.inr s
    ·subst Γ;rw[dQ];exact dv.empty
    ·rw[bQ _ _ Γ];by_cases Δ:a=.inl i
     ·subst Δ;rw[dQ];exact xf
     ·rw[bQ _ _ Δ];exact h.bU.xd a rfl dD nil
  | some m=>
   have hm:ew s o.toSpec m:=.inr fz
   have sc:m≠s:=h.hold.pE s o m ω fz
   have pI:(Sum.inr m:cM)≠.inr s:=λe=>sc (by cases e;rfl)
   have Lv:(Sum.inl i:cM)≠.inr m:=η
   have SQ:∀j k L g,c.tok j s≠.ch k (.dr L) g:=λj k L g ε=>by
    rcases h.bh.oM j s k _ g o ω ε (by rw[r9 j k _ g ε];simp) with e|⟨e,_⟩<;>cases e
   have SR:=h.eE.pF s o m ω fz vn SQ
   have SS:Apart (c.H (.inr s)) (c.H (.inr m)):=h.hold.apart _ _ (Ne.symm pI)
   have SU:Apart (c.H (.inl i)) (c.H (.inr m)):=h.hold.apart _ _ Lv
   have dK:bP (bP c.H (.inl i) (join (c.H (.inl i)) (c.H (.inr s)))) (.inr s) χ.empty (.inl i)=join (c.H (.inl i)) (c.H (.inr s)):=by rw[bQ _ _ pH,dQ]
   have dq:bP (bP c.H (.inl i) (join (c.H (.inl i)) (c.H (.inr s)))) (.inr s) χ.empty (.inr m)=c.H (.inr m):=by rw[bQ _ _ pI,iY]
   have SV:=Lt.two (a:=.inl i) (b:=.inr m) (A:=join (join (c.H (.inl i)) (c.H (.inr s))) (c.H (.inr m))) (B:=χ.empty) (O':=upd c.O s (some o)) η (by rw[dK,dq];exact Sub.refl _) (Sub.empty _) (Apart.tw _) ⟨λs o' ν=>⟨o',ν,rfl⟩,λs o' ν=>⟨o',ν,rfl⟩⟩ λx γ=>by
    rcases γ with e|e
    ·cases e;exact⟨s,o,upd_same ..,hm⟩
    ·cases e
   have SW:=Lu.two (a:=.inl i) (b:=.inr m) (A:=join (join (c.H (.inl i)) (c.H (.inr s))) (c.H (.inr m))) (B:=χ.empty) (O':=upd c.O s (some o)) (zb (zb (h.mem.fit _) (h.mem.fit _)) (h.mem.fit _)) (ve w) mA;refine⟨_,c.H (.inr m),h.mem.fit _,λ_=>SR,λx=>(by cases x),SU,SS,?_,λj ε=>?_,λb5 dp=>?_,λb hb dT=>?_,SV,SW,λa=>?_⟩
   ·rw[bQ _ _ Lv,dQ]
   ·have gl:(Sum.inl j:cM)≠.inl i:=λe=>ε (by cases e;rfl);rw[bQ _ _ η,bQ _ _ gl,bQ _ _ η,bQ _ _ gl]
   ·cases dp;rw[dQ]
   ·have gl:(Sum.inr b:cM)≠.inr s:=λe=>hb (by cases e;rfl)
    have Cd:(Sum.inr b:cM)≠.inr m:=λe=>dT (by cases e;rfl);rw[bQ _ _ Cd,iY,bQ _ _ gl,iY]
   ·by_cases a2:a=.inr m
    ·subst a2;rw[dQ];exact dv.empty
    ·rw[bQ _ _ a2];by_cases Δ:a=.inl i
     ·subst Δ;rw[dQ];refine xf.join ((h.bU.perms (.inr m)).np rfl λk ς=>?_);rcases ς with⟨p,op,a1,bd,cI,gv⟩|ς
      ·obtain⟨k0,dm⟩:=h.fW.ju s o m ω fz p op a1 bd;obtain⟨_,_,c3,c4⟩:=Ls op.g k0;have hb:=(dm c3).app #[y];refine Knows.of_before ?_ c4;rcases hb with e|hb
       ·rw[<-e];exact gv.app _
       ·exact .inr ((gv.app #[y]).hb hb)
      ·exact(ς s o ω hm i (by rw[dW];simp)).app _
     ·rw[bQ _ _ Δ];by_cases Γ:a=.inr s
      ·subst Γ;rw[dQ];exact dv.empty
      ·rw[bQ _ _ Γ,bQ _ _ Δ];exact h.bU.xd a rfl dD nil
 have SX:Apart (c.H (.inl i)) (c.H (.inr s)):=h.hold.apart _ _ η
 have aN:=Gb o.al o.L (c.H (.inr s)) eL Lr SK (λx=>⟨lS x,SM x⟩) SN SX SO SP ⟨w,h.mem.fit _,h.mem.fit _,SL⟩
 let dn:aZ:={c.x i with G:=join (join (c.H (.inl i)) (c.H (.inr s))) eL,tok:=upd (c.tok i) s (.par n 0 .bB),view:=upd (c.view i) s none}
 let c':de:={c with H:=bR,tok:=b4 c.tok i s (.par n 0 .bB),view:=upd c.view i (upd (c.view i) s none),O:=upd c.O s (some o),T:=upd c.T i (f (i==0,g',dn))}
 have n5:c'.x i=dn:=by simp[c',dn,de.x,upd_same,vm,jW]
 have r6:∀j r,¬(j=i/\r=s)->b4 c.tok i s (.par n 0 .bB) j r=c.tok j r:=λj r e=>e2 _ e
 have Lw:∀r q b,c.O r=some q->r≠s->ew r q.toSpec b->b≠s/\o.aW≠some b:=λr q b Φ ι hb=>⟨λe=>ι (h.hold.kY r s q o b Φ ω hb (.inl e)),λe=>ι (h.hold.kY r s q o b Φ ω hb (.inr e))⟩;refine h'.go (c':=c') Ξ ν ?_ _ rfl;rw[ofEvents_one];refine h.laid (c':=c') Ξ Gi Gh (h.bU.word (i:=i) rfl (.inl rfl) (h.low ω hz) dD (λ_ _ _ x=>x) Gj) (h.bh.gtake ω dW mw) ⟨λr q b5 Φ dp cw iD=>?_,λr q Φ cw=>?_⟩ ?_
  (h.fW.app h.bU.low (λop Μ b hb=>by simp at Μ;subst Μ;cases hb) (λj b v hv=>.inl ⟨v,hv⟩) (λr q Φ=>?_) (λj r ag mu g e=>zj dW (λk m g e=>?_) j r ag mu g e))
  ⟨g',?_,.inl rfl⟩ (λj ε=>⟨?_,upd_ne _ _ ε⟩) (.inr λj r q _ a b=>?_)
 ·rcases kG ω Φ with⟨rfl,rfl⟩|⟨e,cd⟩
  ·exact absurd (fb ..) (cw i n 0)
  ·obtain⟨Δ,Γ⟩:=Lw r q b5 cd e (.inr dp);show q.an q.L (bR (.inr b5));rw[k4 b5 Δ Γ];exact h.eE.pF r q b5 cd dp (λj q p x=>cw j q p (by show b4 c.tok i s _ j r=_;rw[r6 j r (λy=>e y.2)];exact x)) λj k L g x=>iD j k L g (by show b4 c.tok i s _ j r=_;rw[r6 j r (λy=>e y.2)];exact x)
 ·rcases kG ω Φ with⟨rfl,rfl⟩|⟨e,cd⟩
  ·exact absurd (fb ..) (cw i n 0)
  ·obtain⟨Δ,Γ⟩:=Lw r q r cd e (.inl rfl);show lN q.D q.al (bR (.inr r));rw[k4 r Δ Γ];exact h.eE.mz r q cd (λj q p x=>cw j q p (by show b4 c.tok i s _ j r=_;rw[r6 j r (λy=>e y.2)];exact x))
 ·refine⟨λag g' hy=>?_,λj fM ε=>?_,λj fM ε cw=>?_,λj fM ε a b=>(h.ek.c3 j fM ε a b).app _⟩
  ·obtain⟨op,Μ,hx⟩:=Option.map_eq_some_iff.1 hy;rcases getElem?_append_cases Μ with⟨_,k3⟩|⟨_,gy⟩
   ·exact h.ek.ef ag g' (by simp[Trace.g?,k3,hx])
   ·simp at gy;subst gy;rw[<-hx];exact br
  ·obtain⟨op,a1,bd,cI,gv,hT⟩:=h.ek.c1 j fM ε;have ψ:=lt_size_of_getElem? a1;refine⟨op,by rw[getElem?_append_old ψ];exact a1,bd,cI,(heard_old ψ).2 gv,λag hy δ=>?_⟩;obtain⟨r7,Μ,hx⟩:=Option.map_eq_some_iff.1 hy;rcases getElem?_append_cases Μ with⟨qY,k3⟩|⟨hle,gy⟩
   ·exact(hT ag (by simp[Trace.g?,k3,hx]) ((zd qY).1 δ)).app _
   ·exact absurd δ (xb (u:=#[y]) (λop Μ=>by simp at Μ;subst Μ;rfl) ag hle)
  ·obtain⟨q,p,Φ⟩:=cw;by_cases e:c.bz (c.home j)=i/\c.home j=s
   ·obtain⟨Δ,Γ⟩:=e;show Knows _ (c.bz (c.home j)) (c.dH j);rw[Δ];have fe:j<gs.size:=by
     obtain⟨op,a1,bd,_⟩:=h.ek.c1 j fM ε;exact h.ek.ef (c.dH j) j (by simp[Trace.g?,a1,bd])
    obtain⟨cN,dx,ak,e3⟩:=h.bh.r5 j fM fe;rw[Γ] at e3;exact(Ls j ⟨cN,dx,ak,e3⟩).2.2.2
   ·refine(h.ek.c2 j fM ε ⟨q,p,?_⟩).app _;have:b4 c.tok i s (.par n 0 .bB) (c.bz (c.home j)) (c.home j)=.par q p .bB:=Φ
    rwa [r6 _ _ e] at this
 ·rcases kG ω Φ with⟨rfl,rfl⟩|⟨_,cd⟩
  ·exact⟨_,ω,rfl⟩
  ·exact⟨q,cd,rfl⟩
 ·cases e
 ·rw[n5];show jQ P Q (upd c.T i (f (i==0,g',dn)) i) _ _ _;rw[upd_same];exact aN
 ·simp[c',de.x,upd_ne _ _ ε,sa _ ε,jx j ε]
 ·exact⟨q,by show upd c.O s (some o) r=some q;rw[B7 ω];exact a,b⟩
end
section
variable {n:Nat} {tok:Nat->Nat->Tok} {spec:Nat->Nat->Option Spec} {view:Nat->Nat->Option (Nat×aS)} {rel:Nat->Bool} {O:Nat->Option aS} {bz home:Nat->Nat} {s i:Nat} {o:aS}
theorem eS.fork (h:eS n tok spec view rel O bz home) (ν:O s=some o) {q p:Nat} (Ν:tok i s=.par q (p+1) .add) :
  eS (n+1) (upd (b4 tok i s (.par q p .add)) n (upd (λ_=>.nil) s (.ch (q-(p+1)) .idle .work))) (upd spec n (upd (λ_=>none) s (some o.toSpec))) (upd (upd view i (upd (view i) s none)) n λ_=>none) (upd rel n false) O bz (upd home n s):=by
 have br:i<n:=h.lt (s:=s) (by rw[Ν];simp)
 have k5:n≠i:=R
 have qX:=h.par i s q (p+1) .add Ν
 have cm:=(h.bf s o ν).2
 have Φ:p+1<=q:=by
  have Δ:a8 n (λa=>tok a s) iz=q:=by
   rw[pz (φ:=iz) (λt Ν=>by cases t<;>simp_all [eX,iz]) cm.nZ br (by rw[Ν];rfl),Ν];rfl
  have Γ:a8 n (λa=>tok a s) hr=p+1:=by
   rw[pz (φ:=hr) (λt Ν=>by cases t<;>simp_all [eX,hr]) cm.nZ br (by rw[Ν];rfl),Ν];rfl
  have:=cm.Kw;omega
 generalize Ce:upd (b4 tok i s (.par q p .add)) n (upd (λ_=>.nil) s (.ch (q-(p+1)) .idle .work))=eF;have zm:eF n s=.ch (q-(p+1)) .idle .work:=by rw[<-Ce,upd_same,upd_same]
 have Gk:∀r,r≠s->eF n r=.nil:=λr ι=>by rw[<-Ce,upd_same,upd_ne _ _ ι]
 have k6:eF i s=.par q p .add:=by rw[<-Ce,upd_ne _ _ (Ne.symm k5),fb]
 have to:∀j r,j≠n->¬(j=i/\r=s)->eF j r=tok j r:=λj r J U=>by rw[<-Ce,upd_ne _ _ J,e2 _ U]
 have pJ:∀j r,r≠s->eF j r=tok j r:=λj r ι=>by
  by_cases e:j=n
  ·subst e;rw[Gk r ι,h.out _ r (Nat.le_refl _)]
  ·exact to j r e λx=>ι x.2
 have Cf:(λj=>eF j s)=upd (upd (λj=>tok j s) i (.par q p .add)) n (.ch (q-(p+1)) .idle .work):=by
  funext j
  by_cases e:j=n
  ·subst e;rw[zm,upd_same]
  ·rw[upd_ne _ _ e];by_cases aQ:j=i
   ·subst aQ;rw[k6,upd_same]
   ·rw[upd_ne _ _ aQ,to j s e λx=>aQ x.1]
 have Lx:∀r,r≠s->(λj=>eF j r)=λj=>tok j r:=λr ι=>funext λj=>pJ j r ι
 have hg:∀r,(λj=>tok j r) n=.nil:=λr=>h.out n r (Nat.le_refl _)
 have js:∀j r k m g,eF j r=.ch k m g->(j=n/\r=s/\k=q-(p+1)/\m=.idle/\g=.work)\/(j≠n/\¬(j=i/\r=s)/\tok j r=.ch k m g):=λj r k m g ε=>by
  by_cases e:j=n
  ·subst e;by_cases aQ:r=s
   ·subst aQ;rw[zm] at ε;cases ε;exact .inl ⟨rfl,rfl,rfl,rfl,rfl⟩
   ·rw[Gk r aQ] at ε;cases ε
  ·by_cases aQ:j=i/\r=s
   ·obtain⟨rfl,rfl⟩:=aQ;rw[k6] at ε;cases ε
   ·rw[to j r e aQ] at ε;exact .inr ⟨e,aQ,ε⟩
 have Gl:∀j r m fc aL,eF j r=.par m fc aL->(j=i/\r=s/\m=q/\fc=p/\aL=.add)\/(j≠n/\r≠s/\tok j r=.par m fc aL)\/(j≠n/\j≠i/\r=s/\tok j r=.par m fc aL):=λj r m fc aL ε=>by
  by_cases e:j=n
  ·subst e;by_cases aQ:r=s
   ·subst aQ;rw[zm] at ε;cases ε
   ·rw[Gk r aQ] at ε;cases ε
  ·by_cases aQ:j=i/\r=s
   ·obtain⟨rfl,rfl⟩:=aQ;rw[k6] at ε;cases ε;exact .inl ⟨rfl,rfl,rfl,rfl,rfl⟩
   ·rw[to j r e aQ] at ε;by_cases Γ:r=s
    ·exact .inr (.inr ⟨e,λx=>aQ ⟨x,Γ⟩,Γ,ε⟩)
    ·exact .inr (.inl ⟨e,Γ,ε⟩)
 have Gm:∀j r k m g,tok j r=.ch k m g->j≠n/\eF j r=.ch k m g:=λj r k m g ε=>by
  have fe:j≠n:=λe=>by rw[e,h.out n r (Nat.le_refl _)] at ε;cases ε
  refine⟨fe,?_⟩;rw[to j r fe λe=>?_]
  ·exact ε
  ·obtain⟨rfl,rfl⟩:=e;rw[Ν] at ε;cases ε
 have gΝ:eK (n+1) o (λj=>eF j s)<eK n o (λj=>tok j s):=by
  rw[Cf,<-KD (N:=n) (τ:=λj=>tok j s) (hg s)];exact RX (N:=n+1) R R (Ne.symm k5) Ν (hg s) _
 refine⟨λr jv ι=>?_,λr ι j=>?_,λj r ε=>?_,λj r sp ε=>?_,λj r φ dJ ε=>?_,λj r k L g jv cd ε=>?_,λj r m fc aL ε=>?_,λj r k m g ε=>?_,λj aj ε=>?_,λj k m g aj ε=>?_,?_,λj r ε ι=>?_,λj r k m g jv cd ε Ξ=>?_,λr j bK k m g b5 g' J U=>?_,λr j k m g jv fc aL J U=>?_,λr jv ι=>?_,λr jv ι=>?_⟩
 ·by_cases e:r=s
  ·subst e;rw[ν] at ι;cases ι;rw[Cf];exact RV (KC (h.bf r o ν) (hg r)) R R (Ne.symm k5) Ν (hg r) _
  ·rw[Lx r e];exact KC (h.bf r jv ι) (hg r)
 ·have e:r≠s:=λe=>by rw[e,ν] at ι;cases ι
  rw[pJ j r e];exact h.bare r ι j
 ·rw[to j r R (λx=>R)];exact h.out j r R
 ·by_cases e:j=n
  ·subst e;rw[upd_same] at ε;by_cases aQ:r=s
   ·subst aQ;rw[upd_same] at ε;cases ε;exact⟨o,ν,rfl⟩
   ·rw[upd_ne _ _ aQ] at ε;cases ε
  ·rw[upd_ne _ _ e] at ε;exact h.qP j r sp ε
 ·have old:∀j r φ dJ,view j r=some (φ,dJ)->∃h8,O r=some h8/\eK (n+1) h8 (λa=>eF a r)<=φ/\(eK (n+1) h8 (λa=>eF a r)=φ->h8=dJ):=λj r φ dJ hv=>by
   obtain⟨h8,J,U,μ⟩:=h.va j r φ dJ hv;refine⟨h8,J,?_⟩;by_cases e:r=s
   ·subst e;rw[ν] at J;cases J;exact⟨R,λx=>R⟩
   ·rw[Lx r e,KD (N:=n) (τ:=λj=>tok j r) (hg r)];exact⟨U,μ⟩
  by_cases e:j=n
  ·subst e;rw[upd_same] at ε;cases ε
  ·rw[upd_ne _ _ e] at ε;by_cases aQ:j=i
   ·subst aQ;rw[upd_same] at ε;by_cases Γ:r=s
    ·subst Γ;rw[upd_same] at ε;cases ε
    ·rw[upd_ne _ _ Γ] at ε;exact old _ _ _ _ ε
   ·rw[upd_ne _ _ aQ] at ε;exact old _ _ _ _ ε
 ·rcases js j r k _ g ε with⟨_,_,_,Θ,_⟩|⟨_,_,μ⟩
  ·cases Θ
  ·exact h.dr j r k L g jv cd μ
 ·rcases Gl j r m fc aL ε with⟨rfl,rfl,_⟩|⟨_,_,μ⟩|⟨_,_,_,μ⟩
  ·exact qX
  ·exact h.par j r m fc aL μ
  ·exact h.par j r m fc aL μ
 ·rcases js j r k m g ε with⟨rfl,rfl,_⟩|⟨fe,_,μ⟩
  ·exact⟨R,upd_same ..,R⟩
  ·obtain⟨a1,bd,cI⟩:=h.oK j r k m g μ;exact⟨a1,by rw[upd_ne _ _ fe];exact bd,cI⟩
 ·by_cases e:j=n
  ·subst e;rw[upd_same];exact⟨_,_,_,zm⟩
  ·rw[upd_ne _ _ e];obtain⟨k,m,g,J⟩:=h.r5 j aj R;exact⟨k,m,g,(Gm j _ k m g J).2⟩
 ·by_cases e:j=n
  ·subst e;rw[upd_same] at ε;rw[zm] at ε;cases ε;rw[upd_same];simp
  ·rw[upd_ne _ _ e] at ε;rw[upd_ne _ _ e];rcases js j _ k m g ε with⟨x,_⟩|⟨_,_,μ⟩
   ·exact absurd x e
   ·exact h.ey j k m g aj μ
 ·rw[upd_ne _ _ (show(0:Nat)≠n by omega)];exact h.tt
 ·by_cases e:j=n
  ·subst e;rw[upd_same] at ε;cases ε
  ·rw[upd_ne _ _ e] at ε ι;have:=h.oL j r ε ι;rw[to j r e λx=>?_]
   ·exact this
   ·obtain⟨rfl,rfl⟩:=x;rw[Ν] at this;exact this
 ·rcases js j r k m g ε with⟨_,_,_,_,Θ⟩|⟨_,_,μ⟩
  ·exact absurd Θ Ξ
  ·exact h.oM j r k m g jv cd μ Ξ
 ·have key:∀j k m g,tok j s=.ch k m g->k<q-(p+1):=λj k m g ε=>by
   have:=h.tu s j k m g q (p+1) .add ε (by rw[<-qX];exact Ν);omega
  rcases js j r k m g J with⟨rfl,rfl,cI,_⟩|⟨_,_,μ⟩<;>rcases js bK r k b5 g' U with⟨rfl,dm,fJ,_⟩|⟨_,_,Θ⟩
  ·rfl
  ·have:=key bK k b5 g' Θ;omega
  ·subst dm;have:=key j k m g μ;omega
  ·exact h.vb r j bK k m g b5 g' μ Θ
 ·rcases js j r k m g J with⟨_,rfl,cI,_⟩|⟨_,_,μ⟩
  ·rcases Gl _ r jv fc aL U with⟨_,_,rfl,rfl,_⟩|⟨_,x,_⟩|⟨_,x,_⟩
   ·omega
   ·exact absurd rfl x
   ·exact absurd qX.symm x
  ·rcases Gl _ r jv fc aL U with⟨_,rfl,rfl,rfl,_⟩|⟨_,_,Θ⟩|⟨_,x,rfl,Θ⟩
   ·have:=h.tu r j k m g jv (fc+1) .add μ (by rw[<-qX];exact Ν);omega
   ·exact h.tu r j k m g jv fc aL μ Θ
   ·exact absurd qX.symm x
 ·obtain⟨a,b⟩:=h.fL r jv ι;refine⟨a,λk=>(b k).trans ⟨λ⟨j,m,g,Δ,Γ⟩=>⟨j,m,g,(Gm j r k m g Δ).2,Γ⟩,λ⟨j,m,g,Δ,Γ⟩=>?_⟩⟩;rcases js j r k m g Δ with⟨_,_,_,Θ,_⟩|⟨_,_,μ⟩
  ·subst Θ;exact Γ.elim
  ·exact⟨j,m,g,μ,Γ⟩
 ·obtain⟨a,b⟩:=h.gx r jv ι;refine⟨a,λk=>(b k).trans ⟨λ⟨j,m,g,Δ,Γ⟩=>⟨j,m,g,(Gm j r k m g Δ).2,Γ⟩,λ⟨j,m,g,Δ,Γ⟩=>?_⟩⟩;rcases js j r k m g Δ with⟨_,_,_,_,Θ⟩|⟨_,_,μ⟩
  ·exact absurd Θ Γ
  ·exact⟨j,m,g,μ,Γ⟩
def aS.new (sp:Spec):aS:={toSpec:=sp,ck:=0,wk:=0,sv:=0,nw:=0,dd:=0,L:=[],cnt:=0,wt:=0,cO:=0,al:=[]}
theorem SY (N:Nat) (φ:Tok->Nat) (eD:φ .nil=0):a8 N (λ_=>.nil) φ=0:=by
 induction N with
 | zero=>rfl
 | succ N Β=>rw[u6,Β,eD]
theorem eS.SZ (h:eS n tok spec view rel O bz home) (ν:O s=none) (br:i<n) (ι:rel i=false) (sp:Spec) :
  eS n (b4 tok i s (.par 0 0 .add)) (upd spec i (upd (spec i) s (some sp))) (upd view i (upd (view i) s none)) rel (upd O s (some (aS.new sp))) (upd bz s i) home:=by
 have hb:=h.bare s ν
 have a0:∀j,j≠0->j<n->home j≠s:=λj aj ε e=>by
  obtain⟨k,m,g,J⟩:=h.r5 j aj ε;rw[e,hb j] at J;cases J
 have Cf:(λj=>b4 tok i s (.par 0 0 .add) j s)=upd (λ_=>.nil) i (.par 0 0 .add):=by
  rw[KV];have:(λj=>tok j s)=λ_=>.nil:=funext hb;rw[this]
 have pJ:∀j r,r≠s->b4 tok i s (.par 0 0 .add) j r=tok j r:=λj r ι=>e2 _ λx=>ι x.2
 have js:∀j r k m g,b4 tok i s (.par 0 0 .add) j r=.ch k m g↔tok j r=.ch k m g:=λj r k m g=>by
  by_cases e:j=i/\r=s
  ·obtain⟨rfl,rfl⟩:=e;rw[fb,hb];simp
  ·rw[e2 _ e]
 have xg:∀j k m g,tok j s≠.ch k m g:=λj k m g e=>by rw[hb] at e;cases e
 have hc:∀r q,upd O s (some (aS.new sp)) r=some q->(r=s/\q=aS.new sp)\/(r≠s/\O r=some q):=λr q Φ=>by
  by_cases e:r=s
  ·subst e;rw[upd_same] at Φ;cases Φ;exact .inl ⟨rfl,rfl⟩
  ·rw[upd_ne _ _ e] at Φ;exact .inr ⟨e,Φ⟩
 have one:∀φ:Tok->Nat,φ .nil=0->a8 n (upd (λ_=>.nil) i (.par 0 0 .add)) φ=φ (.par 0 0 .add):=λφ eD=>by
  have e:=gI (N:=n) (λ_=>.nil) (.par 0 0 .add) φ br;rw[SY n φ eD] at e;simp only[eD] at e;omega
 refine⟨λr q Φ=>?_,λr ι j=>?_,λj r ε=>?_,λj r Ly ε=>?_,λj r φ dJ ε=>?_,λj r k L g q Φ ε=>?_,λj r m p aL ε=>?_,λj r k m g ε=>?_,λj aj ε=>?_,λj k m g aj ε=>?_,h.tt,λj r ε ft=>?_,λj r k m g q Φ ε Ξ=>?_,λr j bK k m g b5 g' J U=>?_,λr j k m g q p aL J U=>?_,λr q ι=>?_,λr q ι=>?_⟩
 ·rcases hc r q Φ with⟨rfl,rfl⟩|⟨e,cd⟩
  ·rw[Cf];constructor
   ·unfold px;rw[one iy rfl,one nX rfl,one ml rfl,one lH rfl,one nh rfl,one lI rfl,one qK rfl,one nY rfl,one qJ rfl];constructor<;>simp[aS.new,iy,nX,ml,lH,nh,lI,qK,nY,qJ]
   ·unfold oC;rw[one jr rfl,one kg rfl,one kh rfl,one lJ rfl,one eX rfl,one hr rfl,one iz rfl,one mm rfl,one lK rfl,one iA rfl];constructor<;>simp[aS.new,jr,kg,kh,lJ,eX,hr,iz,mm,lK,iA]
  ·rw[FX _ _ _ _ e];exact h.bf r q cd
 ·have e:r≠s:=λe=>by rw[e,upd_same] at ι;cases ι
  rw[upd_ne _ _ e] at ι;rw[pJ j r e];exact h.bare r ι j
 ·rw[e2 _ (λx=>R)];exact h.out j r ε
 ·by_cases e:j=i
  ·subst e;rw[upd_same] at ε;by_cases aQ:r=s
   ·subst aQ;rw[upd_same] at ε;cases ε;exact⟨_,upd_same ..,rfl⟩
   ·rw[upd_ne _ _ aQ] at ε;obtain⟨q,a,b⟩:=h.qP j r Ly ε;exact⟨q,by rw[upd_ne _ _ aQ];exact a,b⟩
  ·rw[upd_ne _ _ e] at ε;obtain⟨q,a,b⟩:=h.qP j r Ly ε;have aQ:r≠s:=λaQ=>by rw[aQ,ν] at a;cases a
   exact⟨q,by rw[upd_ne _ _ aQ];exact a,b⟩
 ·have old:∀j r φ dJ,view j r=some (φ,dJ)->∃h8,upd O s (some (aS.new sp)) r=some h8/\eK n h8 (λa=>b4 tok i s (.par 0 0 .add) a r)<=φ/\(eK n h8 (λa=>b4 tok i s (.par 0 0 .add) a r)=φ->h8=dJ):=λj r φ dJ hv=>by
   obtain⟨h8,a,b⟩:=h.va j r φ dJ hv;have aQ:r≠s:=λaQ=>by rw[aQ,ν] at a;cases a
   exact⟨h8,by rw[upd_ne _ _ aQ];exact a,by rw[FX _ _ _ _ aQ];exact b⟩
  by_cases e:j=i
  ·subst e;rw[upd_same] at ε;by_cases aQ:r=s
   ·subst aQ;rw[upd_same] at ε;cases ε
   ·rw[upd_ne _ _ aQ] at ε;exact old _ _ _ _ ε
  ·rw[upd_ne _ _ e] at ε;exact old _ _ _ _ ε
 ·rw[js] at ε;rcases hc r q Φ with⟨rfl,rfl⟩|⟨e,cd⟩
  ·exact absurd ε (xg _ _ _ _)
  ·exact h.dr j r k L g q cd ε
 ·by_cases e:j=i/\r=s
  ·obtain⟨rfl,rfl⟩:=e;rw[upd_same]
  ·rw[e2 _ e] at ε;have aQ:r≠s:=λaQ=>by rw[aQ,hb] at ε;cases ε
   rw[upd_ne _ _ aQ];exact h.par j r m p aL ε
 ·rw[js] at ε;have aQ:r≠s:=λaQ=>by rw[aQ] at ε;exact xg _ _ _ _ ε
  rw[upd_ne _ _ aQ];exact h.oK j r k m g ε
 ·obtain⟨k,m,g,J⟩:=h.r5 j aj ε;exact⟨k,m,g,(js _ _ _ _ _).2 J⟩
 ·rw[js] at ε;exact h.ey j k m g aj ε
 ·have e:j≠i:=λe=>by rw[e,ι] at ε;cases ε
  rw[sa _ e];exact h.oL j r ε ft
 ·rw[js] at ε;rcases hc r q Φ with⟨rfl,rfl⟩|⟨e,cd⟩
  ·exact absurd ε (xg _ _ _ _)
  ·exact h.oM j r k m g q cd ε Ξ
 ·rw[js] at J U;exact h.vb r j bK k m g b5 g' J U
 ·rw[js] at J;have aQ:r≠s:=λaQ=>by rw[aQ] at J;exact xg _ _ _ _ J
  rw[upd_ne _ _ aQ,pJ _ _ aQ] at U;exact h.tu r j k m g q p aL J U
 ·simp only[js];rcases hc r q ι with⟨rfl,rfl⟩|⟨e,cd⟩
  ·exact⟨List.nodup_nil,λk=>⟨λx=>(by cases x),λ⟨j,m,g,x,_⟩=>absurd x (xg _ _ _ _)⟩⟩
  ·exact h.fL r q cd
 ·simp only[js];rcases hc r q ι with⟨rfl,rfl⟩|⟨e,cd⟩
  ·exact⟨List.nodup_nil,λk=>⟨λx=>(by cases x),λ⟨j,m,g,x,_⟩=>absurd x (xg _ _ _ _)⟩⟩
  ·exact h.gx r q cd
end
theorem S0 (t:Trace) (u:Trace) {k:Nat} (hu:∀op∈u,op.g≠k):Deaf (t++u) k=Deaf t k:=by
 obtain⟨l⟩:=u;rw[Deaf_append]
 induction l generalizing t with
 | nil=>rfl
 | cons y l Β=>
  have Ι:y.g≠k:=hu y η
  have Δ:deafStep k (Deaf t k) y=Deaf t k:=by
   unfold deafStep;split<;>simp[Ι]
  rw[List.foldl_cons,Δ];exact Β t (λop Μ=>hu op (by simp at Μ ⊢;exact .inr Μ))
theorem S1 {said:Bool} {t:Trace} {y z:MemOp} (h:¬Race said t) (nt:∀op∈(#[y,z]:Trace),op.act.touch?=none):¬Race said (t++#[y,z]):=by
 have e:t++#[y,z]=(t++#[y])++#[z]:=by rw[Array.append_assoc];rfl
 rw[e];refine noRace_append (g:=z.g) (noRace_append (g:=y.g) h (λop Μ=>by simp at Μ;rw[Μ]) λk a _ op Μ b hb _=>?_) (λop Μ=>by simp at Μ;rw[Μ]) λk a _ op Μ b hb _=>?_
 ·simp at Μ;subst Μ;rw[nt op η] at hb;cases hb
 ·simp at Μ;subst Μ;rw[nt op η] at hb;cases hb
section
variable {P:Program} {Q:Value->Prop} {bq:World} {c c':de} {gs:Array Goroutine} {w w':World} {t:Trace} {i:Nat} {g g':Goroutine} {es:Array Event}
variable {f:Bool×Goroutine×aZ->gw (Bool×Goroutine×aZ)}
theorem Inv.Gn (h:Inv P Q bq c gs w t) (Ξ:gs[i]?=some g) (ς:KN P (i==0) (lR P Q f) g (c.x i)):h' P Q bq c gs w t i f:=by
 obtain⟨s,sp,n,p,g',ch,nj,nk,J,μ,Θ,av,tq,ba,cF,mE,aN,S2⟩:=ς;have br:i<gs.size:=mD Ξ;obtain⟨o,ω,b0⟩:=h.bh.qP i s sp J;subst b0;have dW:c.tok i s=.par n (p+1) .add:=μ;have hd:c.deaf i=0:=Θ;have ep:c.rel i=false:=ba;have ν:=cF w (h.mem.fit (.inl i));have k5:gs.size≠i:=R;let N:=gs.size;let y:MemOp:={g:=i,fn:=g.frame.fn,pos:=g.frame.place,act:=.go gs.size};let z:MemOp:={g:=gs.size,fn:=ch.frame.fn,pos:=g.frame.place,act:=.start};have vp:Deaf t i=0:=by rw[h.bU.hears];exact hd
 have hA:Deaf t gs.size=0:=by
  have:=S0 #[] t (k:=gs.size) (λop Μ e=>by
   obtain⟨k,ς⟩:=Array.mem_iff_getElem?.1 Μ;have:=h.ek.ef k op.g (by simp[Trace.g?,ς]);omega)
  rw[Array.empty_append] at this;exact this
 let Cg:aZ:={c.x i with G:=nj,tok:=upd (c.tok i) s (.par n p .add),view:=upd (c.view i) s none}
 let Ch:aZ:=⟨nk,λ_=>none,upd (λ_=>.nil) s (.ch (n-(p+1)) .idle .work),upd (λ_=>none) s (some o.toSpec),λ_=>none,0,false⟩
 let eF:=upd (b4 c.tok i s (.par n p .add)) gs.size (upd (λ_=>.nil) s (.ch (n-(p+1)) .idle .work))
 let c':de:={c with H:=bP (bP c.H (.inl i) nj) (.inl gs.size) nk,aM:=upd c.aM gs.size (λ_=>none),tok:=eF,spec:=upd c.spec gs.size (upd (λ_=>none) s (some o.toSpec)),view:=upd (upd c.view i (upd (c.view i) s none)) gs.size λ_=>none,deaf:=upd c.deaf gs.size 0,rel:=upd c.rel gs.size false,home:=upd c.home gs.size s,T:=upd (upd c.T i (f (i==0,g',Cg))) gs.size (f (false,ch,Ch))}
 have S3:=h.bh.fork ω dW
 have eb:=runT_crowd_spawn (sl:=none) Ξ ν
 have S4:((MemOp.ofEvents i g.frame.fn g.frame.place #[]).push {g:=i,fn:=g.frame.fn,pos:=g.frame.place,act:=.go gs.size} |>.push {g:=gs.size,fn:=ch.frame.fn,pos:=g.frame.place,act:=.start})=#[y,z]:=by rw[Ld];rfl
 have Lz:(Sum.inl i:cM)≠.inl gs.size:=λe=>k5 (by cases e;rfl)
 have S5:∀r,eF gs.size r≠.nil->r=s:=λr ι=>by
  apply Classical.byContradiction;intro e;apply ι;show upd (b4 c.tok i s (.par n p .add)) gs.size (upd (λ_=>.nil) s (.ch (n-(p+1)) .idle .work)) gs.size r=.nil;rw[upd_same,upd_ne _ _ e]
 have Ci:∀j,j≠gs.size->eF j=b4 c.tok i s (.par n p .add) j:=λj ε=>upd_ne _ _ ε
 have S6:∀j r,j≠gs.size->eF j r≠.nil->c.tok j r≠.nil:=λj r ε ι=>by
  rw[Ci j ε] at ι;exact zi dW η j r ι
 have tE:∀j r q fc,eF j r=.par q fc .bB↔c.tok j r=.par q fc .bB:=λj r q fc=>by
  by_cases e:j=gs.size
  ·subst e;rw[h.bh.out gs.size r (Nat.le_refl _)];show upd (b4 c.tok i s (.par n p .add)) gs.size (upd (λ_=>.nil) s (.ch (n-(p+1)) .idle .work)) gs.size r=_↔_;rw[upd_same];by_cases aQ:r=s
   ·subst aQ;rw[upd_same];simp
   ·rw[upd_ne _ _ aQ]
  ·rw[Ci j e];exact Ca dW η η j r q fc
 have F9:∀j r k L g,c.tok j r=.ch k (.dr L) g->eF j r=.ch k (.dr L) g:=λj r k L g ε=>by
  have e:j≠gs.size:=λe=>by rw[e,h.bh.out _ r (Nat.le_refl _)] at ε;cases ε
  rw[Ci j e,e2 _ λx=>?_]
  ·exact ε
  ·obtain⟨rfl,rfl⟩:=x;rw[dW] at ε;cases ε
 have e5:∀j,j≠gs.size->c'.rel j=c.rel j:=λj ε=>upd_ne _ _ ε
 have Cj:∀j,c'.rel j=true->j≠gs.size:=λj ε e=>by
  subst e;have:upd c.rel gs.size false gs.size=true:=ε;rw[upd_same] at this;cases this
 have fX:∀j b v,upd c.aM gs.size (λ_=>none) j b=some v->c.aM j b=some v:=λj b v hv=>by
  by_cases e:j=gs.size
  ·subst e;rw[upd_same] at hv;cases hv
  ·rw[upd_ne _ _ e] at hv;exact hv
 have nt:∀op∈(#[y,z]:Trace),op.act.touch?=none:=λop Μ=>by simp at Μ;rcases Μ with rfl|rfl<;>rfl
 have nq:∀op∈(#[y,z]:Trace),∀m,op.act≠.mark m:=λop Μ m=>by simp at Μ;rcases Μ with rfl|rfl<;>simp[y,z]
 have LA:∀k,Knows t i k->Knows (t++#[y,z]) gs.size k:=λk ς=>Knows.spawn ς rfl rfl rfl rfl vp hA
 have S7:∀a k,jR c.tok c.O t a k->jR eF c.O (t++#[y,z]) a k:=λa k ς=>by
  cases a with
  | inl j=>exact Knows.app _ ς
  | inr b=>
   rcases ς with⟨p,op,J,U,μ,Θ⟩|ς
   ·have ψ:=lt_size_of_getElem? J;exact .inl ⟨p,op,by rw[getElem?_append_old ψ];exact J,U,(heard_old ψ).2 μ,Θ.app _⟩
   ·refine .inr λbm o' jo hb j ε=>?_;by_cases e:j=gs.size
    ·subst e;have:=S5 bm ε;subst this;exact LA k (ς _ o' jo hb i (by rw[dW];simp))
    ·exact(ς bm o' jo hb j (S6 j bm e ε)).app _
 have LB:∀a,dv (t++#[y,z]) (jR eF c.O (t++#[y,z]) a) (c.H a):=λa=>
  (h.bU.perms a).others (S7 a) λop Μ x γ=>by rw[nt op Μ] at γ;cases γ
 have hinv:Inv P Q bq c' ((gs.setIfInBounds i g').push ch) w (t++#[y,z]):=by
  have cv:((gs.setIfInBounds i g').push ch).size=gs.size+1:=η;refine⟨by rw[cv];omega,(h.mem.two (mE.l.fits (h.mem.fit (.inl i))) (mE.r.fits (h.mem.fit (.inl i))) h.mem.fV).xe fX,(h.hold.two Lz mE.l.qQ mE.r.qQ mE.apart ⟨λs o ν=>⟨o,ν,rfl⟩,λs o ν=>⟨o,ν,rfl⟩⟩ λx γ=>by rcases γ with e|e<;>cases e).xe fX,?_,by rw[cv];exact S3,?_,?_,?_,?_⟩
  ·refine⟨λsaid=>S1 (h.bU.race said) nt,λop Μ=>?_,λop Μ a=>?_,λa=>?_,λj b v hv k a ς=>?_,λbm o' b jo hb k a ς fs=>?_,λj=>?_⟩
   ·rcases Array.mem_append.1 Μ with Μ|Μ
    ·exact h.bU.low op Μ
    ·simp at Μ;rcases Μ with rfl|rfl<;>trivial
   ·rcases Array.mem_append.1 Μ with Μ|Μ
    ·exact h.bU.norel op Μ a
    ·exact nq op Μ _
   ·show dv _ _ (bP (bP c.H (.inl i) nj) (.inl gs.size) nk a);by_cases Γ:a=.inl gs.size
    ·subst Γ;rw[dQ];exact(((h.bU.perms (.inl i)).others LA λop Μ x γ=>by rw[nt op Μ] at γ;cases γ):dv _ (Knows _ gs.size) _).sub mE.r
    ·rw[bQ _ _ Γ];by_cases Δ:a=.inl i
     ·subst Δ;rw[dQ];exact(LB (.inl i)).sub mE.l
     ·rw[bQ _ _ Δ];exact LB a
   ·have:=fX j b v hv;rcases ng ς with hy|⟨_,op,Μ,_,γ⟩
    ·exact h.bU.oG j b v this k a hy
    ·rw[nt op Μ] at γ;cases γ
   ·rcases ng ς with hy|⟨_,op,Μ,_,γ⟩
    ·rcases h.bU.cont bm o' b jo hb k a hy fs with x|⟨x,dn⟩
     ·exact .inl x
     ·obtain⟨op,jT,_⟩:=touch_of hy;exact .inr ⟨x,by rw[g?_old (lt_size_of_getElem? jT)];exact dn⟩
    ·rw[nt op Μ] at γ;cases γ
   ·have Δ:Deaf (t++#[y,z]) j=Deaf t j:=by
     have e:t++#[y,z]=(t++#[y])++#[z]:=by rw[Array.append_assoc];rfl
     rw[e,Deaf_push,Deaf_push];simp[deafStep,y,z]
    rw[Δ];by_cases e:j=gs.size
    ·subst e;rw[hA];exact(upd_same ..).symm
    ·rw[h.bU.hears];exact(upd_ne _ _ e).symm
  ·have iZ:∀b,bP (bP c.H (.inl i) nj) (.inl gs.size) nk (.inr b)=c.H (.inr b):=λb=>by rw[iY,iY]
   refine⟨λr q m Φ hm cw iD=>?_,λr q Φ cw=>?_⟩
   ·show q.an q.L (bP (bP c.H (.inl i) nj) (.inl gs.size) nk (.inr m));rw[iZ];exact h.eE.pF r q m Φ hm (λj q p x=>cw j q p ((tE j r q p).2 x)) λj k L g x=>iD j k L g (F9 _ _ _ _ _ x)
   ·show lN q.D q.al (bP (bP c.H (.inl i) nj) (.inl gs.size) nk (.inr r));rw[iZ];exact h.eE.mz r q Φ (λj q p x=>cw j q p ((tE j r q p).2 x))
  ·rw[cv];refine⟨λk a ς=>?_,λj fM ε=>?_,λj fM ε cw=>?_,λj fM ε a b=>?_⟩
   ·obtain⟨op,Μ,hx⟩:=Option.map_eq_some_iff.1 ς;rcases getElem?_append_cases Μ with⟨_,k3⟩|⟨_,gy⟩
    ·have:=h.ek.ef k a (by simp[Trace.g?,k3,hx]);omega
    ·simp at gy;rcases gy with rfl|rfl
     ·rw[<-hx];show i<gs.size+1;omega
     ·rw[<-hx];show gs.size<gs.size+1;omega
   ·have fe:=Cj j ε;rw[e5 j fe] at ε;obtain⟨op,a1,bd,cI,gv,hT⟩:=h.ek.c1 j fM ε;have ψ:=lt_size_of_getElem? a1;refine⟨op,?_,bd,?_,(heard_old ψ).2 gv,λag hy δ=>?_⟩
    ·show(t++#[y,z])[c.dH j]?=some op;rw[getElem?_append_old ψ];exact a1
    ·show op.act=.mark (.releaseMerge ⟨upd c.home gs.size s j,0,none⟩);rw[upd_ne _ _ fe];exact cI
    ·obtain⟨r7,Μ,hx⟩:=Option.map_eq_some_iff.1 hy;rcases getElem?_append_cases Μ with⟨qY,k3⟩|⟨hle,gy⟩
     ·exact(hT ag (by simp[Trace.g?,k3,hx]) ((zd qY).1 δ)).app _
     ·exact absurd δ (xb nt ag hle)
   ·have fe:=Cj j ε;rw[e5 j fe] at ε;obtain⟨q,fc,Φ⟩:=cw;have zn:c'.home j=c.home j:=upd_ne _ _ fe;rw[zn] at Φ ⊢;exact(h.ek.c2 j fM ε ⟨q,fc,(tE _ _ _ _).1 Φ⟩).app _
   ·have fe:=Cj j ε;rw[e5 j fe] at ε;have zn:c'.home j=c.home j:=upd_ne _ _ fe;rw[zn] at a b ⊢;have S8:=Cj _ b;rw[e5 _ S8] at b;exact(h.ek.c3 j fM ε a b).app _
  ·refine⟨λr q b5 Φ dp p op ψ κ=>?_,λj b v hv op Μ κ=>?_⟩
   ·rcases getElem?_append_cases ψ with⟨qY,h9⟩|⟨_,gy⟩
    ·obtain⟨⟨ag,Gf,g,μ⟩,Θ⟩:=h.fW.ju r q b5 Φ dp p op h9 κ;have fe:op.g≠gs.size:=λe=>by rw[e,h.bh.out _ r (Nat.le_refl _)] at μ;cases μ
     refine⟨?_,λι=>?_⟩
     ·rw[show c'.tok op.g=b4 c.tok i s (.par n _ .add) op.g from Ci _ fe];exact zj dW (λ_ _ _ e=>by cases e) _ _ _ _ _ μ
     ·rw[e5 _ fe] at ι;exact(Θ ι).app _
    ·exact absurd κ (nq op gy _)
   ·rcases Array.mem_append.1 Μ with Μ|Μ
    ·exact h.fW.vi j b v (fX j b v hv) op Μ κ
    ·exact nq op Μ _ κ
  ·intro j b hb;by_cases e:j=gs.size
   ·subst e;rw[Array.getElem?_push] at hb;simp at hb;subst hb;refine⟨ch,?_,.inl rfl⟩;have γ:c'.x gs.size=Ch:=by simp[c',Ch,eF,de.x,upd_same]
    have Κ:c'.T gs.size=f (false,ch,Ch):=upd_same ..
    have hm:(gs.size==0)=false:=by rw[beq_eq_false_iff_ne];exact Nat.ne_of_gt h.pos
    rw[γ,Κ,hm];exact S2
   ·have dT:(gs.setIfInBounds i g')[j]?=some b:=by
     rw[Array.getElem?_push] at hb;simpa[e] using hb
    by_cases Δ:j=i
    ·subst Δ;rw[Array.getElem?_setIfInBounds_self_of_lt br] at dT;cases dT;refine⟨g',?_,.inl rfl⟩;have γ:c'.x j=Cg:=by simp[c',Cg,eF,de.x,upd_same,upd_ne _ _ e,vm,bQ _ _ Lz]
     have Κ:c'.T j=f (j==0,g',Cg):=by show upd (upd c.T j _) gs.size _ j=_;rw[upd_ne _ _ e,upd_same]
     rw[γ,Κ];exact aN
    ·rw[Array.getElem?_setIfInBounds_ne (Ne.symm Δ)] at dT;obtain⟨cP,FZ,ic⟩:=h.vj j b dT;have hU:(Sum.inl j:cM)≠.inl gs.size:=λx=>e (by cases x;rfl);have gl:(Sum.inl j:cM)≠.inl i:=λx=>Δ (by cases x;rfl);have γ:c'.x j=c.x j:=by simp[c',eF,de.x,upd_ne _ _ e,upd_ne _ _ Δ,sa _ Δ,bQ _ _ hU,bQ _ _ gl]
     have Κ:c'.T j=c.T j:=by show upd (upd c.T i _) gs.size _ j=_;rw[upd_ne _ _ e,upd_ne _ _ Δ]
     have Ν:c'.tok j=c.tok j:=congrArg aZ.tok γ;refine⟨cP,by rw[γ,Κ];exact FZ,?_⟩;rw[Ν];exact ic
 refine λsl=>⟨c',_,w,_,runT_crowd_spawn Ξ ν,?_,.inr (.inl ⟨η,_,_,rfl⟩)⟩;rw[S4];exact hinv
end
end Go.TL
