import Derived.Test.YtlabjopijpkiaaaGreatUAF
set_option maxHeartbeats 16000000
set_option maxRecDepth 20000
set_option linter.unusedSectionVars false
set_option linter.unusedSimpArgs false
set_option linter.unusedVariables false
namespace Go.TL
open Go.Conc
def sB (S:aH) (B:aU) (σ:List Row) (es:List (η×η)) (xs:Array MapEntry) (clock:Nat):Prop:=
 es.length=xs.size/\(∀(i:Nat) (e:η×η) (y:MapEntry),es[i]?=some e->xs[i]?=some y->av S B σ e.1 y.key/\av S B σ e.2 y.val/\y.born<clock)/\
 ∀(i j:Nat) (y z:MapEntry),xs[i]?=some y->xs[j]?=some z->i<j->y.born<z.born
def CZ (S:aH) (B:aU) (σ:List Row) (left:List (η×η)) (cur:Option (η×η)) (xs:Array MapEntry) (clock:Nat) (seen:Array Nat):Prop:=
 (∃cE:List MapEntry,cE=xs.toList.filter (λe=>!seen.contains e.born)/\left.length=cE.length/\∀(i:Nat) (e:η×η) (y:MapEntry),left[i]?=some e->cE[i]?=some y->av S B σ e.1 y.key/\av S B σ e.2 y.val)/\
 (∀y∈xs,y.born<clock)/\
 ∀e,cur=some e->∃Hq y,seen.back?=some Hq/\xs.find? (·.born==Hq)=some y/\av S B σ e.1 y.key/\av S B σ e.2 y.val
def jP (S:aH) (B:aU) (σ:List Row) (H:χ) (r:Row) (bo:Option (Nat×Nat)):Prop:=
 match r with
 | .cells t k l=>match bo with
  | none=>l=[]
  | some (b,N)=>H.row b=some (t,N)/\l.length*k<=N/\(∀o,o<N->∃w,H.aL b o=some (w,true))/\
   ∃w:Nat->Nat->Value,∀(i:Nat) (e:η),l[i]?=some e->e.cells.length=k/\∀(j:Nat) (a:η),e.cells[j]?=some a->H.aL b (i*k+j)=some (w i j,true)/\av S B σ a (w i j)/\One (w i j)
 | .map es=>∃b N xs clock,bo=some (b,N)/\H.obj b=some (.map xs clock)/\sB S B σ es xs clock
 | .iter m left cur=>∃b N aW k5 xs clock seen,bo=some (b,N)/\B[m]?=some (some (aW,k5))/\(∃es,σ[m]?=some (.map es))/\H.obj b=some (.mapIter (some aW) clock seen clock)/\H.obj aW=some (.map xs clock)/\CZ S B σ left cur xs clock seen
 | .dead=>True
def Row.live (r:Row):Prop:=match r with|.dead=>False|_=>True
structure Holds (S:aH) (B:aU) (σ:List Row) (H:χ):Prop where
 di:∀b o v,S b o=some v->∃p,H.aL b o=some (v,p)
 len:B.length=σ.length
 row:∀(id:Nat) (r:Row) (bo:Option (Nat×Nat)),σ[id]?=some r->B[id]?=some bo->jP S B σ H r bo
 inj:∀(i j:Nat) (et cg:Row) (b gN gO:Nat),i≠j->σ[i]?=some et->σ[j]?=some cg->et.live->cg.live->B[i]?=some (some (b,gN))->B[j]?=some (some (b,gO))->False
 sep:∀(id:Nat) (r:Row) (b N:Nat),σ[id]?=some r->r.live->B[id]?=some (some (b,N))->∀o,S b o=none
def aU.has (B:aU) (b:Nat):Prop:=∃N,some (b,N)∈B
def nu (fq:aH) (dS H:χ) (b:Nat):Prop:=
 (∀o,H.aL b o=dS.aL b o\/∃v p,fq b o=some v/\dS.aL b o=some (v,p)/\H.aL b o=some (v,false))/\H.row b=dS.row b/\H.obj b=dS.obj b
theorem nu.of {fq:aH} {dS H:χ} {b:Nat} (h:(∀o,H.aL b o=dS.aL b o)/\H.row b=dS.row b/\H.obj b=dS.obj b):nu fq dS H b:=⟨λo=>.inl (h.1 o),h.2⟩
structure Ext (fq:aH) (eC:aU) (dS:χ) (S:aH) (B:aU) (H:χ):Prop where
 di:∀b o v,fq b o=some v->S b o=some v
 fQ:∀b,¬eC.has b->¬dS.fresh b->nu fq dS H b
 blocks:∀b,B.has b->eC.has b\/dS.fresh b
 rh:∀b o v,S b o=some v->fq b o=some v\/eC.has b\/dS.fresh b
 grow:∀b,H.fresh b->dS.fresh b
theorem Ext.refl (S:aH) (B:aU) (H:χ):Ext S B H S B H:=⟨λ_ _ _ h=>h,λ_ _ _=>nu.of ⟨λ_=>rfl,rfl,rfl⟩,λ_ h=>.inl h,λ_ _ _ h=>.inl h,λ_ h=>h⟩
theorem Ext.trans {fq bM c0:aH} {eC bR fc:aU} {dS H1 bQ:χ} (h:Ext fq eC dS bM bR H1) (k:Ext bM bR H1 c0 fc bQ):Ext fq eC dS c0 fc bQ:=by
 refine⟨λb o v x=>k.di b o v (h.di b o v x),λb hb Χ=>?_,λb hb=>?_,λb o v hv=>?_,λb x=>h.grow b (k.grow b x)⟩
 ·have Δ:=h.fQ b hb Χ
  have C0:¬H1.fresh b:=λx=>Χ (h.grow b x)
  have k4:¬bR.has b:=λx=>(h.blocks b x).elim hb Χ
  have Γ:=k.fQ b k4 C0;refine⟨λo=>?_,Γ.2.1.trans Δ.2.1,Γ.2.2.trans Δ.2.2⟩;rcases Γ.1 o with x|⟨v,p,p1,k6,C1⟩<;>rcases Δ.1 o with y|⟨u,q,o2,sC,Hr⟩
  ·exact .inl (x.trans y)
  ·exact .inr ⟨u,q,o2,sC,x.trans Hr⟩
  ·rcases h.rh b o v p1 with z|z|z
   ·exact .inr ⟨v,p,z,by rw[<-y];exact k6,C1⟩
   ·exact absurd z hb
   ·exact absurd z Χ
  ·have e:=h.di b o u o2
   have:v=u:=by rw[p1] at e;exact Option.some.inj e
   subst this;exact .inr ⟨v,q,o2,sC,C1⟩
 ·rcases k.blocks b hb with x|x
  ·exact h.blocks b x
  ·exact .inr (h.grow b x)
 ·rcases k.rh b o v hv with x|x|x
  ·exact h.rh b o v x
  ·exact .inr (h.blocks b x)
  ·exact .inr (.inr (h.grow b x))
abbrev aa:=List (Nat×η)
def a6:aa->Nat->η
 | [],_=>.cp
 |(j,a)::r,i=>if j=i then a else a6 r i
def dj (S:aH) (B:aU) (σ:List Row) (env:aa) (t:Array Value):Prop:=∀i,av S B σ (a6 env i) (t.getD i undef)
theorem dj.later {S aA:aH} {B B':aU} {σ σ':List Row} {env:aa} {t:Array Value} (h:dj S B σ env t) (υ:b' S aA B B' σ σ'):dj aA B' σ' env t:=λi=>(h i).later υ
theorem dj.put {S:aH} {B:aU} {σ:List Row} {env:aa} {t:Array Value} (h:dj S B σ env t) {d:Nat} (hd:d<t.size) {a:η} {v:Value} (μ:av S B σ a v):dj S B σ ((d,a)::env) (t.setIfInBounds d v):=by
 intro i;simp only[a6];split
 ·rename_i e;subst e;simpa[Array.getD_eq_getD_getElem?,hd] using μ
 ·rename_i e;have:=h i;rw[Array.getD_eq_getD_getElem?] at this ⊢
  rwa [Array.getElem?_setIfInBounds_ne e]
theorem M' {S:aH} {B:aU} {σ:List Row} {H:χ} (ω:Holds S B σ H) {id:Nat} {r:Row} (h:σ[id]?=some r):∃bo,B[id]?=some bo:=by
 have:id<B.length:=by rw[ω.len];exact(cf.1 h).1
 exact⟨_,a5 this⟩
def lU:TypeDesc->Bool
 | .struct _|.array _ _=>true
 | _=>false
section
variable {P:Program} {α β:Type} {G:χ} {E:Value->χ->Prop}
theorem π.mono {K K':α->χ->Prop} {E':Value->χ->Prop} (ζ:∀a G,K a G->K' a G) (dn:∀v G,E v G->E' v G) (s:Sem α):∀{G:χ},π P s G K E->π P s G K' E':=by
 induction s with
 | pure a=>intro G h;exact ζ _ _ h
 | load m a k Β=>intro G ⟨I,U,v,p,ξ,Κ⟩;exact⟨I,U,v,p,ξ,Β v Κ⟩
 | store m a v k Β=>intro G ⟨I,U,ξ,Κ,aE,bd⟩;exact⟨I,U,ξ,Κ,aE,Β bd⟩
 | new o k Β=>
  intro G h;cases o with
  | cells c t dQ=>exact⟨h.1,λr κ=>Β r (h.2 r κ)⟩
  | _=>exact λr κ=>Β r (h r κ)
 | shape r k Β=>intro G ⟨t,n,I,U⟩;exact⟨t,n,I,Β _ U⟩
 | freeze a n k Β=>intro G h;exact h.elim
 | frozen a k Β=>intro G ⟨I,U⟩;exact⟨I,Β _ U⟩
 | getObj r k Β=>intro G ⟨o,I,U,ξ⟩;exact⟨o,I,U,Β _ ξ⟩
 | setObj r o k Β=>intro G ⟨I,U,ξ,Κ⟩;exact⟨I,U,ξ,Β Κ⟩
 | choose q k Β=>
  intro G h;simp only[π] at h ⊢;split
  ·rw[if_pos ‹_›] at h;exact Β _ h
  ·rw[if_neg ‹_›] at h;exact λn=>Β _ (h n)
 | sys c k Β=>intro G h;exact h.elim
 | program k Β=>intro G h;exact Β P h
 | mark m k Β=>intro G ⟨I,U⟩;exact⟨I,Β U⟩
 | halt x=>
  intro G h;cases x<;>first|exact h.elim|exact dn _ _ h
theorem π.bind {f:α->Sem β} {K:β->χ->Prop} (s:Sem α):∀{G:χ},π P s G (λa G'=>π P (f a) G' K E) E->π P (s.bind f) G K E:=by
 induction s with
 | pure a=>intro G h;exact h
 | load m a k Β=>intro G ⟨I,U,v,p,ξ,Κ⟩;exact⟨I,U,v,p,ξ,Β v Κ⟩
 | store m a v k Β=>intro G ⟨I,U,ξ,Κ,aE,bd⟩;exact⟨I,U,ξ,Κ,aE,Β bd⟩
 | new o k Β=>
  intro G h;cases o with
  | cells c t dQ=>exact⟨h.1,λr κ=>Β r (h.2 r κ)⟩
  | _=>exact λr κ=>Β r (h r κ)
 | shape r k Β=>intro G ⟨t,n,I,U⟩;exact⟨t,n,I,Β _ U⟩
 | freeze a n k Β=>intro G h;exact h.elim
 | frozen a k Β=>intro G ⟨I,U⟩;exact⟨I,Β _ U⟩
 | getObj r k Β=>intro G ⟨o,I,U,ξ⟩;exact⟨o,I,U,Β _ ξ⟩
 | setObj r o k Β=>intro G ⟨I,U,ξ,Κ⟩;exact⟨I,U,ξ,Β Κ⟩
 | choose q k Β=>
  intro G h;simp only[π] at h;simp only[Sem.bind,π];split
  ·rw[if_pos ‹_›] at h;exact Β _ h
  ·rw[if_neg ‹_›] at h;exact λn=>Β _ (h n)
 | sys c k Β=>intro G h;exact h.elim
 | program k Β=>intro G h;exact Β P h
 | mark m k Β=>intro G ⟨I,U⟩;exact⟨I,Β U⟩
 | halt x=>
  intro G h;cases x<;>first|exact h.elim|exact h
theorem π.bind' {f:α->Sem β} {K:β->χ->Prop} {s:Sem α} (h:π P s G (λa G'=>π P (f a) G' K E) E):π P (s >>= f) G K E:=π.bind s h
theorem π.pure' {a:α} {K:α->χ->Prop} (h:K a G):π P (pure a) G K E:=h
theorem π.underlying {t:TypeId} {d:TypeDesc} {K:TypeDesc->χ->Prop} (hd:P.underlying t=some d) (h:K d G):π P (Go.underlying t) G K E:=by
 unfold Go.underlying;refine π.bind' ?_;show π P (match P.underlying t with|some d=>pure d|none=>_) G K E;rw[hd];exact h
theorem π.typeInfo {t:TypeId} {i:TypeInfo} {K:TypeInfo->χ->Prop} (hi:P.info? t=some i) (h:K i G):π P (Go.typeInfo t) G K E:=by
 unfold Go.typeInfo;refine π.bind' ?_;show π P (match P.info? t with|some i=>pure i|none=>_) G K E;have:P.info? t=some i:=hi;rw[this];exact h
theorem π.sizeOf {t:TypeId} {i:TypeInfo} {K:Nat->χ->Prop} (hi:P.info? t=some i) (h:K i.size G):π P (Go.sizeOf t) G K E:=by
 unfold Go.sizeOf;exact π.bind' (π.typeInfo hi (π.pure' h))
theorem π.isAgg {t:TypeId} {d:TypeDesc} {K:Bool->χ->Prop} (hd:P.underlying t=some d) (h:K (lU d) G):π P (Go.isAgg t) G K E:=by
 unfold Go.isAgg;refine π.bind' (π.underlying hd ?_);cases d<;>exact h
theorem π.zeroValue {t:TypeId} {i:TypeInfo} {v:Value} {K:Value->χ->Prop} (hi:P.info? t=some i) (Θ:i.zero=some v) (h:K v G):π P (Go.zeroValue t) G K E:=by
 unfold Go.zeroValue;refine π.bind' (π.typeInfo hi ?_);rw[Θ];exact h
theorem π.Vi {a:Addr} (w:Nat->Value) {K:Array Value->χ->Prop}:∀(n i:Nat) (acc:Array Value),a.spot=none->(∀j,i<=j->j<i+n->∃p,G.aL a.block (a.off+j)=some (w j,p))->K (acc++((List.range n).map λj=>w (i+j)).toArray) G->π P (loadCellsFrom a i n acc) G K E:=by
 intro n
 induction n with
 | zero=>intro i acc _ _ h;simp at h;exact h
 | succ n Β=>
  intro i acc μ ε h;unfold loadCellsFrom;refine π.bind' ?_;obtain⟨p,ψ⟩:=ε i (Nat.le_refl _) R;have Δ:(a.add i).spot=none:=by unfold Addr.add;split<;>simp[μ]
  have Γ:(a.add i).block=a.block:=by unfold Addr.add;split<;>rfl
  have a0:(a.add i).off=a.off+i:=by unfold Addr.add;split<;>simp_all
  refine⟨rfl,Δ,w i,p,by rw[Γ,a0];exact ψ,?_⟩;refine Β (i+1) (acc.push (w i)) μ (λj I U=>ε j R R) ?_;have:acc.push (w i)++((List.range n).map λj=>w (i+1+j)).toArray=acc++((List.range (n+1)).map λj=>w (i+j)).toArray:=by
   rw[List.range_succ_eq_map];apply Array.ext';simp[Function.comp_def,Nat.add_assoc,Nat.add_comm 1]
  rw[this];exact h
theorem π.loadCells {a:Addr} (w:Nat->Value) {n:Nat} {K:Array Value->χ->Prop} (μ:a.spot=none) (ε:∀j,j<n->∃p,G.aL a.block (a.off+j)=some (w j,p)) (h:K ((List.range n).map w).toArray G):π P (Go.loadCells a n) G K E:=by
 unfold Go.loadCells;exact π.Vi w n 0 #[] μ (λj _ δ=>ε j R) (by simpa using h)
def χ.hx (G:χ) (b o:Nat) (vs:List Value):χ:={G with aL:=λΩ o'=>if Ω=b/\o<=o'/\o'<o+vs.length then some ((vs[o'-o]?).getD undef,true) else G.aL Ω o'}
theorem χ.Hs {H:χ} {b o:Nat} {vs:List Value}:∀r,(H.hx b o vs).fresh r->H.fresh r:=
 χ.Hj (λΩ o' h=>by
  simp only[χ.hx] at h;split at h
  ·cases h
  ·exact h) (λ_ h=>h) (λ_ h=>h)
theorem π.storeCells {a:Addr} {K:Unit->χ->Prop} (μ:a.spot=none) (bF:∃t n,G.row a.block=some (t,n)):∀(vs:List Value) (i:Nat) (G':χ),(∀v∈vs,One v)->(∀j,i<=j->j<i+vs.length->G'.owns a.block (a.off+j))->(G'.row=G.row)->K () (G'.hx a.block (a.off+i) vs)->π P (Go.storeCells a vs i) G' K E:=by
 intro vs
 induction vs with
 | nil=>
  intro i G' _ _ _ h;have:G'.hx a.block (a.off+i) []=G':=by
   unfold χ.hx;have:∀Ω o',¬(Ω=a.block/\a.off+i<=o'/\o'<a.off+i+([]:List Value).length):=λΩ o' h=>by simp at h;omega
   simp only[this,if_false]
  rw[this] at h;exact h
 | cons v vs Β=>
  intro i G' CW gd κ h;unfold Go.storeCells;refine π.bind' ?_;have Δ:(a.add i).spot=none:=by unfold Addr.add;split<;>simp[μ]
  have Γ:(a.add i).block=a.block:=by unfold Addr.add;split<;>rfl
  have a0:(a.add i).off=a.off+i:=by unfold Addr.add;split<;>simp_all
  refine⟨rfl,Δ,by rw[Γ,a0];exact gd i (Nat.le_refl _) θ,by rw[Γ,κ];exact bF,CW v θ,?_⟩;refine Β (i+1) _ (λv hv=>CW v (by simp[hv])) (λj I U=>?_) κ ?_
  ·obtain⟨u,hu⟩:=gd j R (by simp;omega);refine⟨u,?_⟩;simp only[χ.vI,Γ,a0];rw[if_neg R];exact hu
  ·have:(G'.vI (a.add i) v).hx a.block (a.off+(i+1)) vs=G'.hx a.block (a.off+i) (v::vs):=by
    unfold χ.hx χ.vI;simp only[Γ,a0];congr 1
    funext Ω o'
    by_cases hb:Ω=a.block
    ·subst hb;by_cases I:o'=a.off+i
     ·subst I;rw[if_neg R,if_pos ⟨rfl,rfl⟩,if_pos ⟨rfl,R,θ⟩];simp
     ·by_cases U:a.off+(i+1)<=o'/\o'<a.off+(i+1)+vs.length
      ·rw[if_pos ⟨rfl,U⟩,if_pos ⟨rfl,R,by simp;omega⟩];have:o'-(a.off+i)=(o'-(a.off+(i+1)))+1:=R;rw[this,List.getElem?_cons_succ]
      ·rw[if_neg (by intro x;exact U x.2),if_neg (by intro x;exact I x.2),if_neg (by intro x;simp at x;omega)]
    ·rw[if_neg (λx=>hb x.1),if_neg (λx=>hb x.1),if_neg (λx=>hb x.1)]
   rw[this];exact h
end
def kH (H H':χ) (b:Nat):Prop:=(∀o,H'.aL b o=H.aL b o)/\H'.row b=H.row b/\H'.obj b=H.obj b
theorem nu.sD {fq:aH} {dS H:χ} {b:Nat} (h:nu fq dS H b) (Η:∀o,fq b o=none):kH dS H b:=
 ⟨λo=>(h.1 o).elim id λ⟨v,p,I,_⟩=>(by rw[Η o] at I;cases I),h.2⟩
section
variable {S aA:aH} {B B':aU} {σ σ':List Row} {H H':χ}
theorem sB.later (υ:b' S aA B B' σ σ') {es:List (η×η)} {xs:Array MapEntry} {clock:Nat} (h:sB S B σ es xs clock):sB aA B' σ' es xs clock:=
 ⟨h.1,λi e y I U=>⟨(h.2.1 i e y I U).1.later υ,(h.2.1 i e y I U).2.1.later υ,(h.2.1 i e y I U).2.2⟩,h.2.2⟩
theorem CZ.later (υ:b' S aA B B' σ σ') {left:List (η×η)} {cur:Option (η×η)} {xs:Array MapEntry} {clock:Nat} {seen:Array Nat} (h:CZ S B σ left cur xs clock seen):CZ aA B' σ' left cur xs clock seen:=by
 obtain⟨⟨cE,I,U,ξ⟩,Κ,aE⟩:=h;refine⟨⟨cE,I,U,λi e y a b=>⟨(ξ i e y a b).1.later υ,(ξ i e y a b).2.later υ⟩⟩,Κ,λe he=>?_⟩;obtain⟨st,y,a,b,c,d⟩:=aE e he;exact⟨st,y,a,b,c.later υ,d.later υ⟩
theorem jP.later (υ:b' S aA B B' σ σ') {r:Row} {bo:Option (Nat×Nat)} (h:jP S B σ H r bo) (μ:∀b N,bo=some (b,N)->kH H H' b)
  (dr:∀m left cur,r=.iter m left cur->σ'[m]?=σ[m]?/\B'[m]?=B[m]?/\∀b N,B[m]?=some (some (b,N))->kH H H' b):jP aA B' σ' H' r bo:=by
 cases r with
 | cells t k l=>
  cases bo with
  | none=>exact h
  | some x=>
   obtain⟨b,N⟩:=x;obtain⟨a1,bk,_⟩:=μ b N rfl;obtain⟨I,U,ξ,w,Κ⟩:=h;refine⟨by rw[bk];exact I,U,λo Α=>by rw[a1];exact ξ o Α,w,λi e hi=>⟨(Κ i e hi).1,λj a δ=>?_⟩⟩;obtain⟨c1,c2,c3⟩:=(Κ i e hi).2 j a δ;exact⟨by rw[a1];exact c1,c2.later υ,c3⟩
 | map es=>
  obtain⟨b,N,xs,clock,rfl,I,U⟩:=h;exact⟨b,N,xs,clock,rfl,by rw[(μ b N rfl).2.2];exact I,U.later υ⟩
 | iter m left cur=>
  obtain⟨b,N,aW,k5,xs,clock,seen,rfl,I,U,ξ,Κ,aE⟩:=h;obtain⟨i1,i2,i3⟩:=dr m left cur rfl;exact⟨b,N,aW,k5,xs,clock,seen,rfl,by rw[i2];exact I,by rw[i1];exact U,by rw[(μ b N rfl).2.2];exact ξ,by rw[(i3 aW k5 I).2.2];exact Κ,aE.later υ⟩
 | dead=>trivial
theorem o3 {id:Nat} {b N:Nat} (h:B[id]?=some (some (b,N))):B.has b:=⟨N,cr h⟩
theorem Holds.n6 (ω:Holds S B σ H) {id b N:Nat} {r:Row} (κ:σ[id]?=some r) (υ:r.live) (hb:B[id]?=some (some (b,N))):¬H.fresh b:=λΧ=>by
 have h:=ω.row id r _ κ hb;cases r with
 | cells t k l=>have:=h.1;rw[Χ.2.1] at this;cases this
 | map es=>
  obtain⟨Ω,e1,xs,clock,e,I,_⟩:=h;cases e;rw[Χ.2.2.1] at I;cases I
 | iter m left cur=>
  obtain⟨Ω,e1,aW,k5,xs,clock,seen,e,_,_,I,_⟩:=h;cases e;rw[Χ.2.2.1] at I;cases I
 | dead=>exact υ
theorem Vj {id:Nat} {r r':Row} {bo bo':Option (Nat×Nat)} (κ:σ[id]?=some r) (hb:B[id]?=some bo) (xF:r.to r' (some bo) (some bo')):b' S S B (B.set id bo') σ (σ.set id r'):=by
 have b0:id<σ.length:=(cf.1 κ).1
 have o4:id<B.length:=(cf.1 hb).1;refine⟨λ_ _ _ h=>h,λj cg δ=>?_⟩;by_cases e:id=j
 ·subst e;rw[κ] at δ;cases δ;refine⟨r',by rw[List.getElem?_set_self b0],?_⟩;rw[hb,List.getElem?_set_self o4];exact xF
 ·exact⟨cg,by rw[List.getElem?_set_ne e];exact δ,by rw[List.getElem?_set_ne e];exact cg.tU _⟩
theorem Holds.xG (ω:Holds S B σ H) {id:Nat} {r r':Row} {bo bo':Option (Nat×Nat)} (κ:σ[id]?=some r) (fr:r.live) (hb:B[id]?=some bo) (xF:r.to r' (some bo) (some bo'))
  (gd:∀b e1,bo'=some (b,e1)->(∃N,bo=some (b,N))\/H.fresh b) (cH:∀b,(∀N,bo≠some (b,N))->(∀N,bo'≠some (b,N))->kH H H' b) (tP:∀b,H'.fresh b->H.fresh b)
  (dr:∀(j:Nat) left cur,σ[j]?≠some (Row.iter id left cur)) (bF:b' S S B (B.set id bo') σ (σ.set id r')->jP S (B.set id bo') (σ.set id r') H' r' bo') :
  Holds S (B.set id bo') (σ.set id r') H'/\Ext S B H S (B.set id bo') H'/\b' S S B (B.set id bo') σ (σ.set id r'):=by
 have υ:=Vj (S:=S) κ hb xF
 have b0:id<σ.length:=(cf.1 κ).1
 have o4:id<B.length:=(cf.1 hb).1
 have other:∀(j:Nat) (cg:Row) (b N:Nat),j≠id->σ[j]?=some cg->cg.live->B[j]?=some (some (b,N))->kH H H' b:=λj cg b N δ zP ek cS=>by
  refine cH b (λe1 e=>?_) (λe1 e=>?_)
  ·exact ω.inj j id cg r b N e1 δ zP κ ek fr cS (by rw[hb,e])
  ·rcases gd b e1 e with⟨p5,U⟩|U
   ·exact ω.inj j id cg r b N p5 δ zP κ ek fr cS (by rw[hb,U])
   ·exact ω.n6 zP ek cS U
 refine⟨⟨λb o v hv=>?_,by simp[ω.len],λj cg tV δ cS=>?_,λi j et cg b gN gO fP hi δ hy ek hz cS=>?_,λj cg b N δ ek cS o=>?_⟩,⟨λ_ _ _ h=>h,λb jN Χ=>?_,λb jN=>?_,λb o v hv=>.inl hv,tP⟩,υ⟩
 ·have ai:=ω.di b o v hv
  have Η:∀N,bo≠some (b,N):=λN e=>by
   have:=ω.sep id r b N κ fr (by rw[hb,e]) o;rw[hv] at this;cases this
  have ri:∀N,bo'≠some (b,N):=λN e=>by
   rcases gd b N e with⟨p5,U⟩|U
   ·exact Η p5 U
   ·obtain⟨p,ψ⟩:=ai;rw[U.1 o] at ψ;cases ψ
  rw[(cH b Η ri).1];exact ai
 ·by_cases e:id=j
  ·subst e;rw[List.getElem?_set_self b0] at δ;rw[List.getElem?_set_self o4] at cS;cases δ;cases cS;exact bF υ
  ·rw[List.getElem?_set_ne e] at δ cS;by_cases ek:cg.live
   ·refine(ω.row j cg tV δ cS).later υ (λb N iJ=>other j cg b N (Ne.symm e) δ ek (by rw[cS,iJ])) λm left cur gg=>?_;subst gg;have hm:id≠m:=λx=>by subst x;exact dr j left cur δ
    refine⟨by rw[List.getElem?_set_ne hm],by rw[List.getElem?_set_ne hm],λb N sE=>?_⟩;obtain⟨_,_,aW,k5,xs,clock,seen,_,I,⟨es,U⟩,_⟩:=ω.row j _ tV δ cS;exact other m _ b N (Ne.symm hm) U trivial sE
   ·cases cg<;>first|exact absurd trivial ek|trivial
 ·have key:∀(i:Nat) (et:Row) (N:Nat),(σ.set id r')[i]?=some et->et.live->(B.set id bo')[i]?=some (some (b,N))->i≠id->(σ[i]?=some et/\B[i]?=some (some (b,N))):=λi et N I _ ξ bA=>by
   rw[List.getElem?_set_ne (Ne.symm bA)] at I ξ;exact⟨I,ξ⟩
  have zQ:∀(i:Nat) (et:Row) (N e1:Nat),i≠id->σ[i]?=some et->et.live->B[i]?=some (some (b,N))->bo'=some (b,e1)->False:=λi et N e1 bA I U ξ Κ=>by
   rcases gd b e1 Κ with⟨p5,aE⟩|aE
   ·exact ω.inj i id et r b N p5 bA I κ U fr ξ (by rw[hb,aE])
   ·exact ω.n6 I U ξ aE
  by_cases xv:i=id
  ·subst xv;rw[List.getElem?_set_self o4] at hz;obtain⟨I,U⟩:=key j cg gO δ ek cS (Ne.symm fP);exact zQ j cg gO gN (Ne.symm fP) I ek U (by simpa using hz)
  ·obtain⟨I,U⟩:=key i et gN hi hy hz xv;by_cases mK:j=id
   ·subst mK;rw[List.getElem?_set_self o4] at cS;exact zQ i et gN gO fP I hy U (by simpa using cS)
   ·obtain⟨ξ,Κ⟩:=key j cg gO δ ek cS mK;exact ω.inj i j et cg b gN gO fP I ξ hy ek U Κ
 ·by_cases e:id=j
  ·subst e;rw[List.getElem?_set_self o4] at cS;have Vk:bo'=some (b,N):=by simpa using cS
   rcases gd b N Vk with⟨p5,U⟩|U
   ·exact ω.sep id r b p5 κ fr (by rw[hb,U]) o
   ·cases hv:S b o with
    | none=>rfl
    | some v=>obtain⟨p,ψ⟩:=ω.di b o v hv;rw[U.1 o] at ψ;cases ψ
  ·rw[List.getElem?_set_ne e] at δ cS;exact ω.sep j cg b N δ ek cS o
 ·refine nu.of (cH b (λN e=>jN (o3 (id:=id) (N:=N) (by rw[hb,e]))) λN e=>?_);rcases gd b N e with⟨p5,U⟩|U
  ·exact jN (o3 (id:=id) (N:=p5) (by rw[hb,U]))
  ·exact Χ U
 ·obtain⟨N,cl⟩:=jN;obtain⟨j,δ⟩:=List.getElem?_of_mem cl;by_cases e:id=j
  ·subst e;rw[List.getElem?_set_self o4] at δ;rcases gd b N (by simpa using δ) with⟨p5,U⟩|U
   ·exact .inl (o3 (id:=id) (N:=p5) (by rw[hb,U]))
   ·exact .inr U
  ·rw[List.getElem?_set_ne e] at δ;exact .inl (o3 δ)
theorem Vl {r:Row} {bo:Option (Nat×Nat)} (hlen:B.length=σ.length):b' S S B (B++[bo]) σ (σ++[r]):=by
 refine⟨λ_ _ _ h=>h,λj cg δ=>?_⟩;have aB:=(cf.1 δ).1;exact⟨cg,by rw[dE aB];exact δ,by rw[dE R];exact cg.tU _⟩
theorem Holds.push (ω:Holds S B σ H) {r:Row} {bo:Option (Nat×Nat)} (gd:∀b N,bo=some (b,N)->H.fresh b) (cH:∀b,(∀N,bo≠some (b,N))->kH H H' b)
  (bF:b' S S B (B++[bo]) σ (σ++[r])->jP S (B++[bo]) (σ++[r]) H' r bo) :
  Holds S (B++[bo]) (σ++[r]) H'/\Ext S B H S (B++[bo]) H'/\b' S S B (B++[bo]) σ (σ++[r]):=by
 have υ:=Vl (S:=S) (r:=r) (bo:=bo) ω.len
 have hlen:=ω.len
 have tP:∀b,H'.fresh b->H.fresh b:=by
  have key:∀b,((∀o,H'.aL b o=none)->∀o,H.aL b o=none)/\(H'.row b=none->H.row b=none)/\(H'.obj b=none->H.obj b=none):=λb=>by
   by_cases e:∀N,bo≠some (b,N)
   ·obtain⟨a1,bk,cz⟩:=cH b e;exact⟨λh o=>by rw[<-a1 o];exact h o,λh=>by rw[<-bk];exact h,λh=>by rw[<-cz];exact h⟩
   ·obtain⟨N,cl⟩:=Classical.not_forall.1 e;have Χ:=gd b N (Classical.not_not.1 cl);exact⟨λ_=>Χ.1,λ_=>Χ.2.1,λ_=>Χ.2.2.1⟩
  exact λb hb=>⟨(key b).1 hb.1,(key b).2.1 hb.2.1,(key b).2.2 hb.2.2.1,λΩ aB=>⟨(key Ω).1 (hb.2.2.2 Ω aB).1,(key Ω).2.1 (hb.2.2.2 Ω aB).2.1,(key Ω).2.2 (hb.2.2.2 Ω aB).2.2⟩⟩
 have other:∀(j:Nat) (cg:Row) (b N:Nat),σ[j]?=some cg->cg.live->B[j]?=some (some (b,N))->kH H H' b:=λj cg b N zP ek cS=>
  cH b λe1 e=>ω.n6 zP ek cS (gd b e1 e)
 have old:∀{α:Type} (l:List α) (x:α) (j:Nat) (y:α),(l++[x])[j]?=some y->(j<l.length/\l[j]?=some y)\/(j=l.length/\x=y):=λl x j y h=>by
  by_cases δ:j<l.length
  ·rw[dE δ] at h;exact .inl ⟨δ,h⟩
  ·rw[gl R] at h;have:j-l.length=0:=by
    have:=(cf.1 h).1;simp at this;omega
   rw[this] at h;simp at h;exact .inr ⟨R,h⟩
 refine⟨⟨λb o v hv=>?_,by simp[hlen],λj cg tV δ cS=>?_,λi j et cg b gN gO fP hi δ hy ek hz cS=>?_,λj cg b N δ ek cS o=>?_⟩,⟨λ_ _ _ h=>h,λb jN Χ=>?_,λb jN=>?_,λb o v hv=>.inl hv,tP⟩,υ⟩
 ·obtain⟨p,ψ⟩:=ω.di b o v hv;rw[(cH b λN e=>by have:=(gd b N e).1 o;rw[ψ] at this;cases this).1];exact⟨p,ψ⟩
 ·rcases old σ r j cg δ with⟨I,U⟩|⟨I,rfl⟩
  ·rw[dE R] at cS;by_cases ek:cg.live
   ·refine(ω.row j cg tV U cS).later υ (λb N iJ=>other j cg b N U ek (by rw[cS,iJ])) λm left cur gg=>?_;subst gg;obtain⟨_,_,aW,k5,xs,clock,seen,_,Δ,⟨es,Γ⟩,_⟩:=ω.row j _ tV U cS;have hm:=(cf.1 Γ).1;exact⟨by rw[dE hm],by rw[dE R],λb N sE=>other m _ b N Γ trivial sE⟩
   ·cases cg<;>first|exact absurd trivial ek|trivial
  ·rw[I,<-hlen] at cS;simp at cS;subst cS;exact bF υ
 ·rcases old σ r i et hi with⟨I,U⟩|⟨I,rfl⟩<;>rcases old σ r j cg δ with⟨ξ,Κ⟩|⟨ξ,rfl⟩
  ·rw[dE R] at hz cS;exact ω.inj i j et cg b gN gO fP U Κ hy ek hz cS
  ·rw[dE R] at hz;rw[ξ,<-hlen] at cS;simp at cS;exact ω.n6 U hy hz (gd b gO cS)
  ·rw[dE R] at cS;rw[I,<-hlen] at hz;simp at hz;exact ω.n6 Κ ek cS (gd b gN hz)
  ·omega
 ·rcases old σ r j cg δ with⟨I,U⟩|⟨I,rfl⟩
  ·rw[dE R] at cS;exact ω.sep j cg b N U ek cS o
  ·rw[I,<-hlen] at cS;simp at cS;cases hv:S b o with
   | none=>rfl
   | some v=>obtain⟨p,ψ⟩:=ω.di b o v hv;rw[(gd b N cS).1 o] at ψ;cases ψ
 ·exact nu.of (cH b λN e=>Χ (gd b N e))
 ·obtain⟨N,cl⟩:=jN;rcases List.mem_append.1 cl with h|h
  ·exact .inl ⟨N,h⟩
  ·simp at h;exact .inr (gd b N h.symm)
def aH.lay (S:aH) (r:Nat) (c:Array Value):aH:=λb o=>if b=r then c[o]? else S b o
theorem Holds.lay (ω:Holds S B σ H) {r:Nat} {c:Array Value} {t:TypeId} (Χ:H.fresh r) :
  Holds (S.lay r c) B σ (H.dA r c t)/\Ext S B H (S.lay r c) B (H.dA r c t)/\b' S (S.lay r c) B B σ σ:=by
 have Η:∀o,S r o=none:=λo=>by
  cases hv:S r o with
  | none=>rfl
  | some v=>obtain⟨p,ψ⟩:=ω.di r o v hv;rw[Χ.1 o] at ψ;cases ψ
 have cH:∀b o v,S b o=some v->S.lay r c b o=some v:=λb o v h=>by
  unfold aH.lay;rw[if_neg (λe=>by subst e;rw[Η] at h;cases h)];exact h
 have υ:b' S (S.lay r c) B B σ σ:=⟨cH,λ_ cg h=>⟨cg,h,cg.tU _⟩⟩
 have aV:∀b,b≠r->kH H (H.dA r c t) b:=λb hb=>⟨λo=>by simp[χ.dA,hb],by simp[χ.dA,hb],rfl⟩;refine⟨⟨λb o v hv=>?_,ω.len,λj cg tV δ cS=>?_,ω.inj,λj cg b N δ ek cS o=>?_⟩,⟨cH,λb _ o5=>nu.of (aV b λe=>o5 (e▸Χ)),λb hb=>.inl hb,λb o v hv=>?_,χ.M1 Χ c t⟩,υ⟩
 ·unfold aH.lay at hv;split at hv
  ·rename_i e;subst e;exact⟨true,by simp[χ.dA,hv]⟩
  ·rename_i e;rw[(aV b e).1];exact ω.di b o v hv
 ·by_cases ek:cg.live
  ·have C2:∀(j:Nat) (cg:Row) (b N:Nat),σ[j]?=some cg->cg.live->B[j]?=some (some (b,N))->b≠r:=λj cg b N I U ξ e=>ω.n6 I U ξ (e▸Χ);refine(ω.row j cg tV δ cS).later υ (λb N iJ=>aV b (C2 j cg b N δ ek (by rw[cS,iJ]))) λm left cur gg=>?_;subst gg;obtain⟨_,_,aW,k5,xs,clock,seen,_,Δ,⟨es,Γ⟩,_⟩:=ω.row j _ tV δ cS;exact⟨rfl,rfl,λb N sE=>aV b (C2 m _ b N Γ trivial sE)⟩
  ·cases cg<;>first|exact absurd trivial ek|trivial
 ·unfold aH.lay;rw[if_neg (λe:b=r=>ω.n6 δ ek cS (e▸Χ))];exact ω.sep j cg b N δ ek cS o
 ·unfold aH.lay at hv;split at hv
  ·rename_i e;subst e;exact .inr (.inr Χ)
  ·exact .inl hv
end
def zR:Value->η
 | .slice none 0 0=>.sl true 0 []
 | v=>.z v
def hA:Value->η
 | .agg vs=>.aV (vs.toList.map zR)
 | v=>zR v
def aT (env:aa):Operand->η
 | .tmp n=>a6 env n
 | .const v=>hA v
 | .global _=>.cp
 | .func f=>.fn (.func f) [] []
theorem Na {S:aH} {B:aU} {σ:List Row} (v:Value):av S B σ (zR v) v:=by
 unfold zR;split
 ·exact .iK none 0 λ_=>rfl
 ·exact .z v
theorem p6 {S:aH} {B:aU} {σ:List Row} (v:Value):av S B σ (hA v) v:=by
 unfold hA;split
 ·rename_i vs;refine .aV vs θ λi a w I U=>?_;rw[List.getElem?_map,Array.getElem?_toList,U] at I;cases I;exact Na w
 ·exact Na _
theorem lV {S:aH} {B:aU} {σ:List Row} {env:aa} {t:Array Value} (h:dj S B σ env t) (o:Operand):av S B σ (aT env o) (br t o):=by
 cases o with
 | tmp n=>exact h n
 | const v=>exact p6 v
 | global g=>exact .cp _
 | func f=>exact .fn #[] #[] rfl rfl (λi a v hi=>by simp at hi) (λi a v hi=>by simp at hi)
inductive da where
 | ok (a:η) (σ:List Row)
 | ca (p:Prop) (r:da)
 | all (n:Nat) (f:Nat->da)
 | bad
def da.holds (K:η->List Row->Prop):da->Prop
 | .ok a σ=>K a σ
 | .ca p r=>p/\r.holds K
 | .all n f=>∀i,i<n->(f i).holds K
 | .bad=>False
def Nb:Next->Option Value
 | .value v=>some v
 | .skip=>some undef
 | _=>none
def jh:TypeDesc->Bool
 | .int _|.string|.bool=>true
 | _=>false
def Ht (P:Program) (t:TypeId):Option (List (TypeDesc×Nat))->Prop
 | none=>True
 | some items=>P.eqGuardType P.depth t=false/\items.map (·.2)=List.range items.length/\
  ((∃dc,P.underlying t=some (.struct dc)/\P.stoodInHeld t=false/\items=dc.toList.map (λf=>((P.underlying f.type).getD .invalid,f.offset))/\∀f∈dc.toList,f.name≠ "_" /\ ∃d,P.underlying f.type=some d/\jh d=true)\/
   ∃n e d f,P.underlying t=some (.array n e)/\P.underlying e=some d/\jh d=true/\P.info? e=some f/\f.size=1/\items=(List.range n).map λi=>(d,i))
structure im where
 size:Nat
 bG:TypeDesc
 zero:Value
 bytes:Nat
 eqs:Option (List (TypeDesc×Nat))
def im.agg (i:im):Bool:=lU i.bG
abbrev bf:=TypeId->Option im
def bV (P:Program) (T:bf):Prop:=∀t i,T t=some i->(P.underlying t=some i.bG/\Ht P t i.eqs)/\∃f,P.info? t=some f/\f.size=i.size/\f.zero=some i.zero/\f.bytes=i.bytes
def iL (S:aH) (B:aU) (H:χ) (σ:List Row) (K:η->List Row->Prop) (v:Value) (H':χ):Prop:=
 ∃aA B' σ' a,K a σ'/\Ext S B H aA B' H'/\Holds aA B' σ' H'/\b' S aA B B' σ σ'/\av aA B' σ' a v
def cM (P:Program) (s:Sem Value) (S:aH) (B:aU) (H:χ) (σ:List Row) (r:da):Prop:=
 ∀K:η->List Row->Prop,r.holds K->π P s H (iL S B H σ K) (λ_ _=>False)
def Does (P:Program) (s:Sem Next) (S:aH) (B:aU) (H:χ) (σ:List Row) (r:da):Prop:=
 ∀K:η->List Row->Prop,r.holds K->π P s H (λgD H'=>∃v,Nb gD=some v/\iL S B H σ K v H') (λ_ _=>False)
section
variable {P:Program} {T:bf} {S:aH} {B:aU} {H:χ} {σ:List Row} {env:aa} {t:Array Value}
theorem cM.next {s:Sem Value} {r:da} (h:cM P s S B H σ r):Does P (do pure (.value (<-s))) S B H σ r:=λK ζ=>
 π.bind' (π.mono (λv G hb=>π.pure' ⟨v,rfl,hb⟩) (λ_ _ h=>h) _ (h K ζ))
theorem iL.same {K:η->List Row->Prop} {a:η} {v:Value} (ω:Holds S B σ H) (ζ:K a σ) (μ:av S B σ a v):iL S B H σ K v H:=⟨S,B,σ,a,ζ,.refl _ _ _,ω,.refl _ _ _,μ⟩
theorem cM.pure {a:η} {v:Value} (ω:Holds S B σ H) (μ:av S B σ a v):cM P (pure v) S B H σ (.ok a σ):=λK ζ=>
 π.pure' (.same ω ζ μ)
theorem cM.bad {s:Sem Value}:cM P s S B H σ .bad:=λK ζ=>ζ.elim
theorem cM.ca {s:Sem Value} {p:Prop} {r:da} (h:p->cM P s S B H σ r):cM P s S B H σ (.ca p r):=λK ζ=>h ζ.1 K ζ.2
theorem Does.val {a:η} {v:Value} (ω:Holds S B σ H) (μ:av S B σ a v):Does P (pure (.value v)) S B H σ (.ok a σ):=λK ζ=>
 π.pure' ⟨v,rfl,.same ω ζ μ⟩
theorem Does.bad {s:Sem Next}:Does P s S B H σ .bad:=λK ζ=>ζ.elim
theorem bV.size (Ι:bV P T) {ty:TypeId} {i:im} (h:T ty=some i) {G:χ} {K:Nat->χ->Prop} {E:Value->χ->Prop} (ς:K i.size G):π P (sizeOf ty) G K E:=by
 obtain⟨_,f,I,U,_⟩:=Ι ty i h;exact π.sizeOf I (by rw[U];exact ς)
theorem bV.bG (Ι:bV P T) {ty:TypeId} {i:im} (h:T ty=some i) {G:χ} {K:TypeDesc->χ->Prop} {E:Value->χ->Prop} (ς:K i.bG G):π P (underlying ty) G K E:=
 π.underlying (Ι ty i h).1.1 ς
theorem bV.agg (Ι:bV P T) {ty:TypeId} {i:im} (h:T ty=some i) {G:χ} {K:Bool->χ->Prop} {E:Value->χ->Prop} (ς:K i.agg G):π P (isAgg ty) G K E:=
 π.isAgg (Ι ty i h).1.1 ς
theorem bV.zero (Ι:bV P T) {ty:TypeId} {i:im} (h:T ty=some i) {G:χ} {K:Value->χ->Prop} {E:Value->χ->Prop} (ς:K i.zero G):π P (zeroValue ty) G K E:=by
 obtain⟨_,f,I,_,ξ,_⟩:=Ι ty i h;exact π.zeroValue I ξ ς
theorem bV.info (Ι:bV P T) {ty:TypeId} {i:im} (h:T ty=some i) {G:χ} {K:TypeInfo->χ->Prop} {E:Value->χ->Prop} (ς:∀f:TypeInfo,f.bytes=i.bytes->K f G):π P (typeInfo ty) G K E:=by
 obtain⟨_,f,I,_,_,Κ⟩:=Ι ty i h;exact π.typeInfo I (ς f Κ)
end
inductive cF where
 | ok (a:η)
 | ca (p:Prop) (r:cF)
 | bad
def cF.dv (σ:List Row):cF->da
 | .ok a=>.ok a σ
 | .ca p r=>.ca p (r.dv σ)
 | .bad=>.bad
section
variable {P:Program} {T:bf} {S:aH} {B:aU} {H:χ} {σ:List Row} {env:aa} {t:Array Value}
def e4 (k:IntKind) (a b:Int):Int:=k.wrap (BitVec.ofInt k.bits a&&&BitVec.ofInt k.bits b).toNat
def rj (k:IntKind) (a b:Int):Int:=k.wrap (BitVec.ofInt k.bits a|||BitVec.ofInt k.bits b).toNat
def zS (k:IntKind) (a b:Int):Int:=k.wrap (BitVec.ofInt k.bits a^^^BitVec.ofInt k.bits b).toNat
def k7 (k:IntKind) (a b:Int):Int:=k.wrap (BitVec.ofInt k.bits a&&&~~~BitVec.ofInt k.bits b).toNat
def C3 (a b:ByteArray):Bool:=Op.bytesLess a.toList b.toList
def sF (a b:ByteArray):Bool:=Op.bytesLess a.toList b.toList||a.toList==b.toList
def sG (op:BinOp) (x y:Value):cF:=
 match op,x,y with
 | .shl,.int k a,.int _ b=>.ca (0<=b) (.ok (.z (.int k (k.wrap (a*2 ^ (min b.toNat k.bits))))))
 | .shr,.int k a,.int _ b=>.ca (0<=b) (.ok (.z (.int k (a.fdiv (2 ^ (min b.toNat k.bits))))))
 | .add,.int k a,.int ae b=>if k=ae then .ok (.z (.int k (k.wrap (a+b)))) else .bad
 | .sub,.int k a,.int ae b=>if k=ae then .ok (.z (.int k (k.wrap (a-b)))) else .bad
 | .mul,.int k a,.int ae b=>if k=ae then .ok (.z (.int k (k.wrap (a*b)))) else .bad
 | .quo,.int k a,.int ae b=>if k=ae then .ca (b≠0) (.ok (.z (.int k (k.wrap (a.tdiv b))))) else .bad
 | .rem,.int k a,.int ae b=>if k=ae then .ca (b≠0) (.ok (.z (.int k (a.tmod b)))) else .bad
 | .and,.int k a,.int ae b=>if k=ae then .ok (.z (.int k (e4 k a b))) else .bad
 | .or,.int k a,.int ae b=>if k=ae then .ok (.z (.int k (rj k a b))) else .bad
 | .xor,.int k a,.int ae b=>if k=ae then .ok (.z (.int k (zS k a b))) else .bad
 | .andNot,.int k a,.int ae b=>if k=ae then .ok (.z (.int k (k7 k a b))) else .bad
 | .eql,.int k a,.int ae b=>if k=ae then .ok (.z (.bool (a==b))) else .bad
 | .neq,.int k a,.int ae b=>if k=ae then .ok (.z (.bool (a != b))) else .bad
 | .lss,.int k a,.int ae b=>if k=ae then .ok (.z (.bool (decide (a<b)))) else .bad
 | .leq,.int k a,.int ae b=>if k=ae then .ok (.z (.bool (decide (a<=b)))) else .bad
 | .gtr,.int k a,.int ae b=>if k=ae then .ok (.z (.bool (decide (a > b)))) else .bad
 | .geq,.int k a,.int ae b=>if k=ae then .ok (.z (.bool (decide (a>=b)))) else .bad
 | .add,.string a,.string b=>.ca (((a.size+b.size:Nat):Int)<=IntKind.i64.max) (.ok (.z (.string (a++b))))
 | .eql,.string a,.string b=>.ok (.z (.bool (a.toList==b.toList)))
 | .neq,.string a,.string b=>.ok (.z (.bool !(a.toList==b.toList)))
 | .lss,.string a,.string b=>.ok (.z (.bool (C3 a b)))
 | .leq,.string a,.string b=>.ok (.z (.bool (sF a b)))
 | .gtr,.string a,.string b=>.ok (.z (.bool (!(sF a b))))
 | .geq,.string a,.string b=>.ok (.z (.bool (!(C3 a b))))
 | _,_,_=>.bad
theorem Vm (ω:Holds S B σ H) (op:BinOp) (ty:TypeId) (p q:Operand) (x y:Value):cM P (do eqGuard op ty p q x y;binOp op ty x y) S B H σ ((sG op x y).dv σ):=by
 unfold sG;split
 case h_25=>exact .bad
 case h_1=>
  refine .ca λh=>?_;have cU:¬(_:Int)<0:=Int.not_lt.2 h;simp only[eqGuard,binOp,Op.shift,cU,if_false];exact .pure ω (.z _)
 case h_2=>
  refine .ca λh=>?_;have cU:¬(_:Int)<0:=Int.not_lt.2 h;simp only[eqGuard,binOp,Op.shift,cU,if_false];exact .pure ω (.z _)
 case h_6=>
  split
  ·rename_i e;subst e;exact .ca λh=>by simp only[eqGuard,binOp,Op.intDiv,h,if_false,ne_eq,not_true_eq_false];exact .pure ω (.z _)
  ·exact .bad
 case h_7=>
  split
  ·rename_i e;subst e;exact .ca λh=>by simp only[eqGuard,binOp,Op.intDiv,h,if_false,ne_eq,not_true_eq_false];exact .pure ω (.z _)
  ·exact .bad
 case h_18=>
  refine .ca λh=>?_;have cU:¬((_:Int) > IntKind.i64.max):=Int.not_lt.2 h;simp only[eqGuard,binOp,Op.stringOp,cU,if_false];exact .pure ω (.z _)
 all_goals first
  | exact .pure ω (.z _)
  |(split
    ·rename_i e;subst e;simp only[eqGuard,binOp,Op.intArith,Op.intBits,Op.intCmp,ne_eq,not_true_eq_false,if_false];exact .pure ω (.z _)
    ·exact .bad)
def xH (op:UnOp):η->cF
 | .z (.bool b)=>match op with|.not=>.ok (.z (.bool !b))|_=>.bad
 | .z (.int k n)=>match op with|.neg=>.ok (.z (.int k (k.wrap (0-n))))|_=>.bad
 | _=>.bad
theorem Vn (ω:Holds S B σ H) (op:UnOp) {a:η} {v:Value} (μ:av S B σ a v):cM P (Op.unary op v) S B H σ ((xH op a).dv σ):=by
 unfold xH;split
 ·cases μ;split
  ·exact .pure ω (.z _)
  ·exact .bad
 ·cases μ;split
  ·exact .pure ω (.z _)
  ·exact .bad
 ·exact .bad
def C4 (i:Nat):η->cF
 | .bw l=>match l[i]? with|some a=>.ok a|none=>.bad
 | .z (.tuple vs)=>match vs[i]? with|some v=>.ok (hA v)|none=>.bad
 | _=>.bad
theorem Vo (ω:Holds S B σ H) (i:Nat) {a:η} {v:Value} (μ:av S B σ a v):cM P (Instr.extract v i) S B H σ ((C4 i a).dv σ):=by
 unfold C4;split
 ·rename_i l;cases μ with
  | bw vs I U=>
   cases υ:l[i]? with
   | none=>exact .bad
   | some a=>
    have aB:i<vs.size:=by rw[<-I];exact(cf.1 υ).1
    have hv:vs[i]?=some vs[i]:=fh aB;simp only[Instr.extract,hv];exact .pure ω (U i a _ υ hv)
 ·rename_i vs;cases μ;cases hv:vs[i]? with
  | none=>exact .bad
  | some v=>simp only[Instr.extract,hv];exact .pure ω (p6 v)
 ·exact .bad
def C5 (T:bf) (ty:TypeId) (a:η):cF:=match T ty with
 | some i=>match i.bG with|.interface _=>.bad|_=>.ok (.fS ty a)
 | none=>.bad
theorem Vp (Ι:bV P T) (ω:Holds S B σ H) (ty:TypeId) {a:η} {v:Value} (μ:av S B σ a v):cM P (Instr.makeInterface ty v) S B H σ ((C5 T ty a).dv σ):=by
 unfold C5;cases hi:T ty with
 | none=>exact .bad
 | some i=>
  intro K ζ;unfold Instr.makeInterface;refine π.bind' (Ι.bG hi ?_);cases hu:i.bG<;>simp only[hu,cF.dv,da.holds] at ζ<;>first|exact ζ.elim|exact π.pure' (.same ω ζ (.fS v μ))
def vK (T:bf) (ty:TypeId) (ok:Bool) (a:η):cF:=match T ty with
 | some i=>match i.bG with
  | .interface _=>.bad
  | _=>match a with
   | .fS t x=>if t=ty then .ok (if ok then .bw [x,.z (.bool true)] else x) else if ok then .ok (.bw [hA i.zero,.z (.bool false)]) else .bad
   | .z .nilIface=>if ok then .ok (.bw [hA i.zero,.z (.bool false)]) else .bad
   | _=>.bad
 | none=>.bad
theorem xI {a b:η} {v w:Value} (h:av S B σ a v) (k:av S B σ b w):av S B σ (.bw [a,b]) (.tuple #[v,w]):=by
 refine .bw _ rfl λi cn fi I U=>?_
 match i with
 | 0=>simp at I U;subst I;subst U;exact h
 | 1=>simp at I U;subst I;subst U;exact k
 | i+2=>simp at I
theorem Vq (Ι:bV P T) (ω:Holds S B σ H) (Vr ty:TypeId) (ok:Bool) {a:η} {v:Value} (μ:av S B σ a v):cM P (Instr.typeAssert v Vr ty ok) S B H σ ((vK T ty ok a).dv σ):=by
 unfold vK;cases hi:T ty with
 | none=>exact .bad
 | some i=>
  simp only;by_cases bq:∃w,i.bG=.interface w
  ·obtain⟨w,hw⟩:=bq;rw[hw];exact .bad
  have e:∀r:cF,(match i.bG with|.interface _=>cF.bad|_=>r)=r:=λr=>by
   cases hu:i.bG<;>first|rfl|exact absurd ⟨_,hu⟩ bq
  rw[e];clear e;split
  ·rename_i t x;cases μ with
   | fS w γ=>
    split
    ·rename_i e;subst e;intro K ζ;unfold Instr.typeAssert;refine π.bind' (Ι.bG hi ?_);generalize i.bG=d at bq ⊢;cases d<;>first
      | exact absurd ⟨_,rfl⟩ bq
      |(simp only[if_true]
        cases ok
        ·exact π.pure' (.same ω ζ γ)
        ·exact π.pure' (.same ω ζ (xI γ (.z _))))
    ·rename_i bA;split
     ·rename_i dK;subst dK;intro K ζ;unfold Instr.typeAssert;refine π.bind' (Ι.bG hi ?_);generalize i.bG=d at bq ⊢;cases d<;>first
       | exact absurd ⟨_,rfl⟩ bq
       |(simp only[bA,if_false,if_true]
         exact π.bind' (Ι.zero hi (π.pure' (.same ω ζ (xI (p6 _) (.z _))))))
     ·exact .bad
  ·cases μ;split
   ·rename_i dK;subst dK;intro K ζ;unfold Instr.typeAssert;refine π.bind' (Ι.bG hi ?_);generalize i.bG=d at bq ⊢;cases d<;>first
     | exact absurd ⟨_,rfl⟩ bq
     |(simp only[if_true]
       exact π.bind' (Ι.zero hi (π.pure' (.same ω ζ (xI (p6 _) (.z _))))))
   ·exact .bad
  ·exact .bad
end
section
variable {P:Program} {T:bf} {S:aH} {B:aU} {H:χ} {σ:List Row}
def tW (i:im) (l:List η):cF:=
 if i.agg then(if i.size<=l.length then .ok (.aV (l.take i.size)) else .bad)
 else match l with
  | a::_=>.ok a
  | []=>.bad
def C6 (T:bf) (ty:TypeId):η->cF
 | .ab cells=>match T ty with|some i=>tW i cells|none=>.bad
 | _=>.bad
def vL (T:bf) (ty:TypeId) (σ:List Row):η->da
 | .an id n i j=>match T ty,σ[id]? with
  | some k0,some (.cells _ _ l)=>if l.length=n then match l[i]? with
   | some e=>(tW k0 (e.cells.drop j)).dv σ
   | none=>.bad else .bad
  | _,_=>.bad
 | _=>.bad
theorem C7 (Ι:bV P T) (ω:Holds S B σ H) {ty:TypeId} {i:im} (hi:T ty=some i) {b o:Nat} {l:List η} (w:Nat->Value) (ε:∀(j:Nat) (a:η),l[j]?=some a->∃p,H.aL b (o+j)=some (w j,p)) (κ:∀(j:Nat) (a:η),l[j]?=some a->av S B σ a (w j)) :
  cM P (loadVar ty ⟨b,o,none⟩) S B H σ ((tW i l).dv σ):=by
 intro K ζ;unfold tW at ζ;unfold loadVar;refine π.bind' (Ι.agg hi ?_);cases tX:i.agg with
 | true=>
  rw[tX] at ζ;simp only[if_true] at ζ ⊢;split at ζ
  ·rename_i hle;refine π.bind' (Ι.size hi (π.bind' (π.loadCells w rfl (λj δ=>?_) ?_)))
   ·have:l[j]?=some l[j]:=a5 R;exact ε j _ this
   ·refine π.pure' (.same ω ζ (.aV _ (by simp;omega) λj a v I U=>?_));have δ:j<i.size:=by have:=(cf.1 I).1;simp at this;omega
    rw[List.getElem?_take_of_lt δ] at I;simp[δ] at U;subst U;exact κ j a I
  ·exact ζ.elim
 | false=>
  rw[tX] at ζ;simp only[Bool.false_eq_true,if_false] at ζ ⊢;cases l with
  | nil=>exact ζ.elim
  | cons a l=>
   obtain⟨p,ψ⟩:=ε 0 a rfl;exact⟨rfl,rfl,w 0,p,ψ,iL.same ω ζ (κ 0 a rfl)⟩
theorem Vs (Ι:bV P T) (ω:Holds S B σ H) {ty:TypeId} {a:η} {v:Value} (μ:av S B σ a v):cM P (Instr.loadAt ty v) S B H σ ((C6 T ty a).dv σ):=by
 unfold C6;split
 ·rename_i cells;cases hi:T ty with
  | none=>exact .bad
  | some i=>
   cases μ with
   | ab b o w I U=>exact C7 Ι ω hi w (λj a δ=>ω.di _ _ _ (I j a δ)) U
 ·exact .bad
theorem Nc (ω:Holds S B σ H) {id k i b N:Nat} {t:TypeId} {l:List η} {e:η} (υ:σ[id]?=some (.cells t k l)) (hb:B[id]?=some (some (b,N))) (he:l[i]?=some e) :
  e.cells.length=k/\∃w:Nat->Value,∀(j:Nat) (a:η),e.cells[j]?=some a->H.aL b (i*k+j)=some (w j,true)/\av S B σ a (w j)/\One (w j):=by
 obtain⟨_,_,_,w,hw⟩:=ω.row id _ _ υ hb;exact⟨(hw i e he).1,w i,(hw i e he).2⟩
theorem Vt (Ι:bV P T) (ω:Holds S B σ H) {ty:TypeId} {a:η} {v:Value} (μ:av S B σ a v):cM P (Instr.loadAt ty v) S B H σ (vL T ty σ a):=by
 unfold vL;split
 ·rename_i id n i j;split
  ·rename_i k0 t k l hi υ;split
   ·rename_i Η;cases he:l[i]? with
    | none=>exact .bad
    | some e=>
     cases μ with
     | an I U ξ=>
      rw[υ] at I;cases I;obtain⟨ς,w,hw⟩:=Nc ω υ ξ he;refine C7 Ι ω hi (λx=>w (j+x)) (λx a γ=>⟨true,?_⟩) (λx a γ=>?_)
      ·rw[List.getElem?_drop] at γ;rw[Nat.add_assoc];exact(hw _ a γ).1
      ·rw[List.getElem?_drop] at γ;exact(hw _ a γ).2.1
     | jO v I U=>rw[υ] at I;cases I;simp only[Row.hf] at U;omega
   ·exact .bad
  ·exact .bad
 ·exact .bad
def fT (T:bf) (ty:TypeId) (f:Nat):Option (Nat×TypeId):=match T ty with
 | some i=>match i.bG with
  | .struct dc=>match dc[f]? with
   | some x=>match T x.type with
    | some b6=>if b6.size=0 then none else some (x.offset,x.type)
    | none=>none
   | none=>none
  | _=>none
 | none=>none
def C8 (T:bf) (ty:TypeId) (f:Nat):η->cF
 | .ab cells=>match fT T ty f with|some (o,_)=>.ok (.ab (cells.drop o))|none=>.bad
 | .z (.pointer (some ⟨b,o',none⟩))=>match fT T ty f with|some (o,_)=>.ok (.z (.pointer (some ⟨b,o'+o,none⟩)))|none=>.bad
 | _=>.bad
def vM (T:bf) (ty:TypeId) (f:Nat) (σ:List Row):η->da
 | .an id n i j=>match fT T ty f,σ[id]? with
  | some (o,_),some (.cells _ _ l)=>if l.length=n then .ok (.an id n i (j+o)) σ else .bad
  | _,_=>.bad
 | _=>.bad
theorem tY (b o n:Nat):(⟨b,o,none⟩:Addr).add n=⟨b,o+n,none⟩:=by
 unfold Addr.add;split
 ·simp_all
 ·rfl
theorem Nd {cells:List η} {b o:Nat} (h:av S B σ (.ab cells) (.pointer (some ⟨b,o,none⟩))) (n:Nat):av S B σ (.ab (cells.drop n)) (.pointer (some ⟨b,o+n,none⟩)):=by
 cases h with
 | ab b o w I U=>
  refine .ab b (o+n) (λj=>w (n+j)) (λj a δ=>?_) (λj a δ=>?_)
  ·rw[List.getElem?_drop] at δ;rw[Nat.add_assoc];exact I _ a δ
  ·rw[List.getElem?_drop] at δ;exact U _ a δ
theorem Hu (Ι:bV P T) {ty:TypeId} {f o:Nat} {zT:TypeId} (Χ:fT T ty f=some (o,zT)) {b o':Nat} {K:Value->χ->Prop} {E:Value->χ->Prop} (h:K (.pointer (some ⟨b,o'+o,none⟩)) H) :
  π P (Instr.fieldAt ty (.pointer (some ⟨b,o',none⟩)) f) H K E:=by
 unfold fT at Χ;split at Χ<;>try cases Χ
 rename_i i hi;split at Χ<;>try cases Χ
 rename_i dc hu;split at Χ<;>try cases Χ
 rename_i x γ;split at Χ<;>try cases Χ
 rename_i b6 o6;split at Χ<;>try cases Χ
 rename_i ht;unfold Instr.fieldAt;refine π.bind' (Ι.bG hi ?_);rw[hu];simp only[γ];refine π.bind' ?_;unfold fieldPlace;refine π.bind' (π.bind' (Ι.size o6 ?_));rw[if_neg ht,tY];exact π.pure' (π.pure' h)
theorem Vu (Ι:bV P T) (ω:Holds S B σ H) {ty:TypeId} {f:Nat} {a:η} {v:Value} (μ:av S B σ a v):cM P (Instr.fieldAt ty v f) S B H σ ((C8 T ty f a).dv σ):=by
 unfold C8;split
 ·rename_i cells;cases Χ:fT T ty f with
  | none=>exact .bad
  | some x=>
   obtain⟨o,zT⟩:=x;cases μ with
   | ab b o' w I U=>exact λK ζ=>Hu Ι Χ (iL.same ω ζ (Nd (.ab b o' w I U) o))
 ·rename_i b o';cases Χ:fT T ty f with
  | none=>exact .bad
  | some x=>
   obtain⟨o,zT⟩:=x;cases μ;exact λK ζ=>Hu Ι Χ (iL.same ω ζ (.z _))
 ·exact .bad
theorem Vv (Ι:bV P T) (ω:Holds S B σ H) {ty:TypeId} {f:Nat} {a:η} {v:Value} (μ:av S B σ a v):cM P (Instr.fieldAt ty v f) S B H σ (vM T ty f σ a):=by
 unfold vM;split
 ·rename_i id n i j;split
  ·rename_i o zT t k l Χ υ;split
   ·rename_i Η;cases μ with
    | an I U ξ=>
     rw[υ] at I;cases I;refine λK ζ=>Hu Ι Χ (iL.same ω ζ ?_);rw[Nat.add_assoc];exact .an υ Η ξ
    | jO v I U=>rw[υ] at I;cases I;simp only[Row.hf] at U;omega
   ·exact .bad
  ·exact .bad
 ·exact .bad
theorem rk {ex:Bool} {k:Nat} {l:List η} {v:Value} (h:av S B σ (.sl ex k l) v):∃base cap,v=.slice base l.length cap/\l.length<=cap/\(ex=true->cap=l.length)/\(l≠[]->∃(b o:Nat) (w:Nat->Nat->Value),base=some ⟨b,o,none⟩/\(∀(i:Nat) (e:η),l[i]?=some e->e.cells.length=k)/\
  (∀(i:Nat) (e:η),l[i]?=some e->∀(j:Nat) (c:η),e.cells[j]?=some c->S b (o+i*k+j)=some (w i j))/\(∀(i:Nat) (e:η),l[i]?=some e->∀(j:Nat) (c:η),e.cells[j]?=some c->av S B σ c (w i j))):=by
 cases h with
 | iK base cap h=>exact⟨base,cap,rfl,Nat.zero_le _,h,λx=>absurd rfl x⟩
 | sl b o cap w I U ξ Κ aE=>exact⟨_,cap,rfl,U,I,λ_=>⟨b,o,w,rfl,ξ,Κ,aE⟩⟩
theorem Vw {ex:Bool} {k:Nat} {l:List η} {base:Option Addr} {len cap i:Nat} {e:η} (h:av S B σ (.sl ex k l) (.slice base len cap)) (he:l[i]?=some e):∃b o,base=some ⟨b,o,none⟩/\av S B σ (.ab e.cells) (.pointer (some ⟨b,o+i*k,none⟩)):=by
 obtain⟨Vx,Hv,hv,_,_,I⟩:=rk h;cases hv;obtain⟨b,o,w,rfl,U,ξ,Κ⟩:=I (by rintro rfl;simp at he);exact⟨b,o,rfl,.ab b (o+i*k) (w i) (ξ i e he) (Κ i e he)⟩
def hB (T:bf) (ty:TypeId):Option (TypeId×Nat×Option Nat):=match T ty with
 | some i=>match i.bG with
  | .slice e=>match T e with|some b4=>some (e,b4.size,none)|none=>none
  | .array n e=>match T e with|some b4=>some (e,b4.size,some n)|none=>none
  | _=>none
 | none=>none
theorem C9 {ty e:TypeId} {k:Nat} (h:hB T ty=some (e,k,none)):∃i b4,T ty=some i/\i.bG=.slice e/\T e=some b4/\b4.size=k:=by
 unfold hB at h;split at h
 ·rename_i i hi;split at h
  ·rename_i aM hu;split at h
   ·rename_i b4 he;cases h;exact⟨i,b4,hi,hu,he,rfl⟩
   ·cases h
  ·split at h<;>cases h
  ·cases h
 ·cases h
theorem Vy {ty e:TypeId} {k n:Nat} (h:hB T ty=some (e,k,some n)):∃i b4,T ty=some i/\i.bG=.array n e/\T e=some b4/\b4.size=k:=by
 unfold hB at h;split at h
 ·rename_i i hi;split at h
  ·split at h<;>cases h
  ·rename_i aM iZ hu;split at h
   ·rename_i b4 he;cases h;exact⟨i,b4,hi,hu,he,rfl⟩
   ·cases h
  ·cases h
 ·cases h
def C' (T:bf) (ty:TypeId) (a b6:η):cF:=
 match hB T ty,b6 with
 | some (_,p7,none),.z (.int _ n)=>match a with
  | .sl _ k l=>if k=p7 then .ca (0<=n/\n<l.length) (.ok (.ab (l.getD n.toNat .cp).cells)) else .bad
  | _=>.bad
 | some (_,p7,some m),.z (.int _ n)=>match a with
  | .ab cells=>.ca (0<=n/\n<m) (.ok (.ab (cells.drop (n.toNat*p7))))
  | _=>.bad
 | _,_=>.bad
def vN (T:bf) (ty:TypeId) (σ:List Row) (a b6:η):da:=
 match hB T ty,b6 with
 | some (_,p7,none),.z (.int _ n)=>match a with
  | .ms id m i len=>match σ[id]? with
   | some (.cells _ k l)=>if k=p7/\l.length=m then .ca (0<=n/\n<len) (.ok (.an id m (i+n.toNat) 0) σ) else .bad
   | _=>.bad
  | _=>.bad
 | some (_,p7,some len),.z (.int _ n)=>match a with
  | .an id m i j=>match σ[id]? with
   | some (.cells _ _ l)=>if l.length=m then .ca (0<=n/\n<len) (.ok (.an id m i (j+n.toNat*p7)) σ) else .bad
   | _=>.bad
  | _=>.bad
 | _,_=>.bad
theorem Nf (Ι:bV P T) {ty e:TypeId} {k:Nat} (he:hB T ty=some (e,k,none)) {b o len cap:Nat} {kk:IntKind} {n:Int} (Η:0<=n/\n<len) {K:Value->χ->Prop} {E:Value->χ->Prop}
  (h:K (.pointer (some ⟨b,o+n.toNat*k,none⟩)) H):π P (Instr.indexAt ty (.slice (some ⟨b,o,none⟩) len cap) (.int kk n)) H K E:=by
 obtain⟨i,b4,hi,hu,Hw,rfl⟩:=C9 he;unfold Instr.indexAt;refine π.bind' ?_;refine π.bind' (Ι.bG hi ?_);rw[hu];refine π.bind' (π.pure' ?_);refine π.bind' (Ι.bG hi ?_);rw[hu];simp only[Η,and_self,if_true];refine π.bind' (Ι.size Hw ?_);rw[tY];exact h
theorem Ng (Ι:bV P T) {ty e:TypeId} {k m:Nat} (he:hB T ty=some (e,k,some m)) {b o:Nat} {kk:IntKind} {n:Int} (Η:0<=n/\n<m) {K:Value->χ->Prop} {E:Value->χ->Prop}
  (h:K (.pointer (some ⟨b,o+n.toNat*k,none⟩)) H):π P (Instr.indexAt ty (.pointer (some ⟨b,o,none⟩)) (.int kk n)) H K E:=by
 obtain⟨i,b4,hi,hu,Hw,rfl⟩:=Vy he;unfold Instr.indexAt;refine π.bind' ?_;refine π.bind' (Ι.bG hi ?_);rw[hu];refine π.bind' (π.bind' (π.pure' ?_));refine π.bind' (Ι.bG hi ?_);rw[hu];simp only[Η,and_self,if_true];refine π.bind' (Ι.size Hw ?_);rw[tY];exact h
theorem Vz (Ι:bV P T) (ω:Holds S B σ H) {ty:TypeId} {a b6:η} {v w:Value} (μ:av S B σ a v) (γ:av S B σ b6 w):cM P (Instr.indexAt ty v w) S B H σ ((C' T ty a b6).dv σ):=by
 unfold C';split
 ·rename_i e p7 kk n he;cases γ;split
  ·rename_i ex k l;split
   ·rename_i ς;subst ς;refine .ca λΗ=>?_;obtain⟨base,cap,rfl,_⟩:=rk μ;have aB:n.toNat<l.length:=R;have nv:l[n.toNat]?=some l[n.toNat]:=a5 aB;obtain⟨b,o,rfl,κ⟩:=Vw μ nv;refine λK ζ=>Nf Ι he Η (iL.same ω ζ ?_);rw[List.getD_eq_getElem?_getD,nv];exact κ
   ·exact .bad
  ·exact .bad
 ·rename_i e p7 m kk n he;cases γ;split
  ·rename_i cells;refine .ca λΗ=>?_;cases μ with
   | ab b o w I U=>exact λK ζ=>Ng Ι he Η (iL.same ω ζ (Nd (.ab b o w I U) _))
  ·exact .bad
 ·exact .bad
theorem VA (Ι:bV P T) (ω:Holds S B σ H) {ty:TypeId} {a b6:η} {v w:Value} (μ:av S B σ a v) (γ:av S B σ b6 w):cM P (Instr.indexAt ty v w) S B H σ (vN T ty σ a b6):=by
 unfold vN;split
 ·rename_i e p7 kk n he;cases γ;split
  ·rename_i id m i len;split
   ·rename_i t k l υ;split
    ·rename_i ς;obtain⟨rfl,hm⟩:=ς;refine .ca λΗ=>?_;cases μ with
     | ms cap I U ξ Κ aE bd=>
      rw[υ] at I;cases I;rcases bd with bd|⟨b,N,rfl,rfl,bd⟩
      ·omega
      ·refine λK ζ=>Nf Ι he Η (iL.same ω ζ ?_);have:i*k+n.toNat*k=(i+n.toNat)*k+0:=by rw[Nat.add_mul];rfl
       rw[this];exact .an υ hm ξ
     | jg v I U=>rw[υ] at I;cases I;simp only[Row.hf] at U;omega
    ·exact .bad
   ·exact .bad
  ·exact .bad
 ·rename_i e p7 len kk n he;cases γ;split
  ·rename_i id m i j;split
   ·rename_i t k l υ;split
    ·rename_i hm;refine .ca λΗ=>?_;cases μ with
     | an I U ξ=>
      rw[υ] at I;cases I;refine λK ζ=>Ng Ι he Η (iL.same ω ζ ?_);rw[Nat.add_assoc];exact .an υ hm ξ
     | jO v I U=>rw[υ] at I;cases I;simp only[Row.hf] at U;omega
    ·exact .bad
   ·exact .bad
  ·exact .bad
 ·exact .bad
end
def η.a9 (σ:List Row):η->Bool
 | .z v=>match v with|.agg _|.tuple _=>false|_=>true
 | .aV _|.bw _|.cp=>false
 | .an id n _ _|.ms id n _ _=>match σ[id]? with|some (.cells _ _ l)=>decide (l.length<=n)|_=>false
 | .mp id=>match σ[id]? with|some (.map _)=>true|_=>false
 | .it id=>match σ[id]? with|some (.iter ..)=>true|_=>false
 | _=>true
def η.sH:η->Nat->List η->η
 | .aV l,j,cs=>.aV (l.take j++cs++l.drop (j+cs.length))
 | _,0,[c]=>c
 | e,_,_=>e
theorem η.Hx {σ:List Row} {a:η} (h:a.a9 σ=true):a.cells=[a]:=by
 cases a<;>first|rfl|cases h
theorem η.Nh {σ:List Row} {e:η} {j:Nat} {cs:List η} (hle:j+cs.length<=e.cells.length) (dK:∀c∈cs,η.a9 σ c=true):(e.sH j cs).cells=e.cells.take j++cs++e.cells.drop (j+cs.length):=by
 by_cases he:∃l,e=.aV l
 ·obtain⟨l,rfl⟩:=he;rfl
 ·have I:e.cells=[e]:=by cases e<;>first|rfl|exact absurd ⟨_,rfl⟩ he
  rw[I] at hle ⊢;cases cs with
  | nil=>
   have:e.sH j []=e:=by cases e<;>cases j<;>first|rfl|exact absurd ⟨_,rfl⟩ he
   rw[this,I]
   match j with
   | 0=>rfl
   | j+1=>simp
  | cons c cs=>
   simp at hle;have δ:j=0:=R;have gW:cs=[]:=by cases cs<;>simp at hle ⊢;omega
   subst δ;subst gW;have:e.sH 0 [c]=c:=by cases e<;>first|rfl|exact absurd ⟨_,rfl⟩ he
   rw[this,η.Hx (dK c θ)];simp
section
variable {P:Program} {T:bf} {S:aH} {B:aU} {H:χ} {σ:List Row}
theorem av.zU {a:η} {v:Value} (h:av S B σ a v) (Α:a.a9 σ=true):One v:=by
 cases h with
 | z v=>cases v<;>first|trivial|cases Α
 | jO v I U=>
  simp only[η.a9,I] at Α;split at Α
  ·rename_i e;cases e;simp only[Row.hf] at U;simp at Α;omega
  ·cases Α
 | jg v I U=>
  simp only[η.a9,I] at Α;split at Α
  ·rename_i e;cases e;simp only[Row.hf] at U;simp at Α;omega
  ·cases Α
 | lT v I=>simp[η.a9,I] at Α
 | ns v I=>simp[η.a9,I] at Α
 | aV|bw|cp=>cases Α
 | _=>trivial
theorem One.cells {v:Value} (h:One v):v.cells=#[v]:=by cases v<;>first|rfl|exact h.elim
theorem av.cells {a:η} {v:Value} (h:av S B σ a v) (μ:a.cells.all (η.a9 σ)=true):v.cells.size=a.cells.length/\∀(j:Nat) (c:η),a.cells[j]?=some c->∃x,v.cells[j]?=some x/\av S B σ c x/\One x:=by
 have single:a.cells=[a]->v.cells.size=a.cells.length/\∀(j:Nat) (c:η),a.cells[j]?=some c->∃x,v.cells[j]?=some x/\av S B σ c x/\One x:=λe=>by
  rw[e] at μ ⊢;simp at μ;have Α:=h.zU μ;rw[Α.cells];refine⟨rfl,λj c δ=>?_⟩
  match j with
  | 0=>simp at δ;subst δ;exact⟨v,rfl,h,Α⟩
  | j+1=>simp at δ
 cases h with
 | aV vs I U=>
  refine⟨I.symm,λj c δ=>?_⟩;have aB:j<vs.size:=by rw[<-I];exact(cf.1 δ).1
  have hv:vs[j]?=some vs[j]:=fh aB
  have κ:=U j c _ δ hv;exact⟨_,hv,κ,κ.zU (List.all_eq_true.1 μ c (cr δ))⟩
 | _=>exact single rfl
theorem Da (ω:Holds S B σ H) {id k:Nat} {t:TypeId} {l:List η} (h:σ[id]?=some (.cells t k l)):∀(j:Nat) left cur,σ[j]?≠some (Row.iter id left cur):=λj left cur δ=>by
 obtain⟨bo,hb⟩:=M' ω δ;obtain⟨_,_,_,_,_,_,_,_,_,⟨es,U⟩,_⟩:=ω.row j _ bo δ hb;rw[h] at U;cases U
theorem Ni {i eL k bK lo hi:Nat} (δ:bK<k) (o7:hi<=k) (h:eL≠i):¬(i*k+lo<=eL*k+bK/\eL*k+bK<i*k+hi):=by
 rintro⟨I,U⟩;rcases Nat.lt_or_gt_of_ne h with h|h
 ·have:(eL+1)*k<=i*k:=Nat.mul_le_mul_right k h;rw[Nat.add_mul] at this;omega
 ·have:(i+1)*k<=eL*k:=Nat.mul_le_mul_right k h;rw[Nat.add_mul] at this;omega
def xJ (P:Program) (s:Sem Unit) (S:aH) (B:aU) (H:χ) (σ:List Row) (r:da):Prop:=
 ∀K:η->List Row->Prop,r.holds K->π P s H (λ_ H'=>iL S B H σ K undef H') (λ_ _=>False)
theorem xJ.next {s:Sem Unit} {r:da} (h:xJ P s S B H σ r):Does P (do s;pure .skip) S B H σ r:=λK ζ=>
 π.bind' (π.mono (λ_ G hb=>π.pure' ⟨undef,rfl,hb⟩) (λ_ _ h=>h) _ (h K ζ))
theorem xJ.bad {s:Sem Unit}:xJ P s S B H σ .bad:=λK ζ=>ζ.elim
theorem VB (ω:Holds S B σ H) {id k i j b N:Nat} {t:TypeId} {l:List η} {e a:η} {v:Value} (υ:σ[id]?=some (.cells t k l)) (hb:B[id]?=some (some (b,N))) (he:l[i]?=some e) (μ:av S B σ a v) (dK:a.cells.all (η.a9 σ)=true)
  (δ:j+a.cells.length<=k) :
  (∀x∈v.cells.toList,One x)/\(∀x,x<a.cells.length->H.owns b (i*k+j+x))/\H.row b=some (t,N)/\
  (let σ':=σ.set id (.cells t k (l.set i (e.sH j a.cells)));Holds S (B.set id (some (b,N))) σ' (H.hx b (i*k+j) v.cells.toList)/\Ext S B H S (B.set id (some (b,N))) (H.hx b (i*k+j) v.cells.toList)/\b' S S B (B.set id (some (b,N))) σ σ'):=by
 obtain⟨cv,gW⟩:=μ.cells dK;have hlen:v.cells.toList.length=a.cells.length:=by simpa using cv
 obtain⟨bF,cl,gd,w,hw⟩:=ω.row id _ _ υ hb;have iM:i<l.length:=(cf.1 he).1;have Nj:(i+1)*k<=N:=Nat.le_trans (Nat.mul_le_mul_right k iM) cl;have jς:i*k+k<=N:=by rw[Nat.add_mul] at Nj;omega
 have Hy:=(hw i e he).1
 have Hz:∀c∈a.cells,η.a9 σ c=true:=List.all_eq_true.1 dK
 have b2:=η.Nh (σ:=σ) (e:=e) (j:=j) (cs:=a.cells) (by rw[Hy];exact δ) Hz;refine⟨λx γ=>?_,λx γ=>?_,bF,?_⟩
 ·obtain⟨y,Ο⟩:=List.getElem?_of_mem γ;have aB:y<a.cells.length:=by rw[<-hlen];exact(cf.1 Ο).1
  obtain⟨df,I,_,U⟩:=gW y _ (a5 aB);rw[Array.getElem?_toList] at Ο;rw[Ο] at I;cases I;exact U
 ·obtain⟨u,hu⟩:=gd (i*k+j+x) R;exact⟨u,hu⟩
 ·refine ω.xG (r':=.cells t k (l.set i (e.sH j a.cells))) (bo':=some (b,N)) υ trivial hb (.inl ⟨_,rfl,θ,rfl⟩) (λΩ e1 aM=>.inl ⟨e1,aM⟩) (λΩ I _=>?_) χ.Hs (Da ω υ) (λkV=>?_)
  ·have bA:Ω≠b:=λaM=>by subst aM;exact I N rfl
   exact⟨λo=>by simp[χ.hx,bA],rfl,rfl⟩
  ·refine⟨bF,by simpa using cl,λo Α=>?_,λeL bK=>if eL=i/\j<=bK/\bK<j+a.cells.length then(v.cells[bK-j]?).getD undef else w eL bK,λeL aM ba=>?_⟩
   ·simp only[χ.hx];split
    ·exact⟨_,rfl⟩
    ·exact gd o Α
   ·by_cases tZ:eL=i
    ·subst tZ;rw[List.getElem?_set_self iM] at ba;cases ba;rw[b2];refine⟨by simp;omega,λbK c ε=>?_⟩;by_cases bq:j<=bK/\bK<j+a.cells.length
     ·have a8:a.cells[bK-j]?=some c:=by
       rw[List.append_assoc,gl (by simp;omega)] at ε;simp only[List.length_take] at ε;rw[dE R] at ε;have:bK-min j e.cells.length=bK-j:=R;rw[this] at ε;exact ε
      obtain⟨x,I,U,ξ⟩:=gW _ _ a8;simp only[bq,and_self,if_true,I,Option.getD_some];refine⟨?_,U.later kV,ξ⟩;simp only[χ.hx,hlen];rw[if_pos ⟨trivial,R,R⟩];have:eL*k+bK-(eL*k+j)=bK-j:=R;rw[this,Array.getElem?_toList,I];rfl
     ·have a8:e.cells[bK]?=some c:=by
       by_cases k8:bK<j
       ·rw[List.append_assoc,dE (by simp;omega),List.getElem?_take_of_lt k8] at ε;exact ε
       ·rw[gl (by simp;omega)] at ε;rw[List.getElem?_drop] at ε;have:j+a.cells.length+(bK-(e.cells.take j++a.cells).length)=bK:=by simp;omega
        rw[this] at ε;exact ε
      simp only[bq,and_false,if_false];obtain⟨I,U,ξ⟩:=(hw eL e he).2 bK c a8;refine⟨?_,U.later kV,ξ⟩;simp only[χ.hx,hlen];rw[if_neg (λx=>bq ⟨R,R⟩)];exact I
    ·rw[List.getElem?_set_ne (Ne.symm tZ)] at ba;obtain⟨I,U⟩:=hw eL aM ba;refine⟨I,λbK c ε=>?_⟩;obtain⟨ξ,Κ,aE⟩:=U bK c ε;have o8:bK<k:=by rw[<-I];exact(cf.1 ε).1
     simp only[tZ,false_and,if_false];refine⟨?_,Κ.later kV,aE⟩;simp only[χ.hx,hlen];rw[if_neg (λx=>Ni (lo:=j) (hi:=j+a.cells.length) o8 δ tZ ⟨x.2.1,R⟩)];exact ξ
def Db (T:bf) (ty:TypeId) (σ:List Row) (p a:η):da:=match p with
 | .an id n i j=>match T ty,σ[id]? with
  | some k0,some (.cells t k l)=>match l[i]? with
   | some e=>if l.length=n/\a.cells.length=k0.size/\j+k0.size<=k/\a.cells.all (η.a9 σ)=true then .ok .cp (σ.set id (.cells t k (l.set i (e.sH j a.cells)))) else .bad
   | none=>.bad
  | _,_=>.bad
 | _=>.bad
theorem VC (Ι:bV P T) (ω:Holds S B σ H) {ty:TypeId} {p a:η} {u v:Value} (ψ:av S B σ p u) (μ:av S B σ a v):xJ P (Instr.storeAt ty u v) S B H σ (Db T ty σ p a):=by
 unfold Db;split
 ·rename_i id n i j;split
  ·rename_i k0 t k l hi υ;split
   ·rename_i e he;split
    ·rename_i ε;obtain⟨Η,cv,o8,dK⟩:=ε;cases ψ with
     | an I U ξ=>
      rename_i b N;rw[υ] at I;cases I;intro K ζ;obtain⟨c1,c2,c3,c4⟩:=VB ω υ ξ he μ dK (by omega:j+a.cells.length<=k);obtain⟨HA,_⟩:=μ.cells dK;refine π.bind' (π.pure' ?_);unfold storeVar;refine π.bind' (Ι.size hi ?_);rw[if_neg R];refine π.storeCells (G:=H) rfl ⟨t,N,c3⟩ v.cells.toList 0 H c1 (λx _ γ=>c2 x (by simp at γ;omega)) rfl ?_;exact⟨S,_,_,.cp,ζ,c4.2.1,c4.1,c4.2.2,.cp _⟩
     | jO v I U=>rw[υ] at I;cases I;simp only[Row.hf] at U;omega
    ·exact .bad
   ·exact .bad
  ·exact .bad
 ·exact .bad
end
section
variable {P:Program} {T:bf} {S:aH} {B:aU} {H:χ} {σ:List Row}
def fU (S:aH) (B:aU) (σ:List Row) (c:Array Value) (k:Nat) (l:List η):Prop:=
 l.length*k<=c.size/\∀(i:Nat) (e:η),l[i]?=some e->e.cells.length=k/\∀(j:Nat) (a:η),e.cells[j]?=some a->∃x,c[i*k+j]?=some x/\av S B σ a x/\One x
theorem Dc {a:η} (h:a.a9 []=true):a.a9 σ=true:=by
 cases a<;>first|exact h|(simp[η.a9] at h)
theorem xK {l:List η} (h:l.all (η.a9 [])=true):l.all (η.a9 σ)=true:=by
 rw[List.all_eq_true] at *;exact λa μ=>Dc (h a μ)
theorem fU.put {c:Array Value} {k:Nat} {l:List η} (h:fU S B σ c k l) {i j:Nat} {e a:η} {v:Value} (he:l[i]?=some e) (μ:av S B σ a v) (dK:a.cells.all (η.a9 σ)=true) (δ:j+a.cells.length<=k) :
  let c':=v.cells.zipIdx.foldl (λcs (x:Value×Nat)=>cs.setIfInBounds (i*k+j+x.2) x.1) c
  c'.size=c.size/\fU S B σ c' k (l.set i (e.sH j a.cells)):=by
 obtain⟨cv,gW⟩:=μ.cells dK;have iM:i<l.length:=(cf.1 he).1;have Hy:=(h.2 i e he).1;have Hz:∀c∈a.cells,η.a9 σ c=true:=List.all_eq_true.1 dK;have b2:=η.Nh (σ:=σ) (e:=e) (j:=j) (cs:=a.cells) (by rw[Hy];exact δ) Hz;have key:∀(vs:List Value) (n:Nat) (c:Array Value),((vs.zipIdx n).foldl (λcs (x:Value×Nat)=>cs.setIfInBounds (i*k+j+x.2) x.1) c).size=c.size/\
   ∀p,((vs.zipIdx n).foldl (λcs (x:Value×Nat)=>cs.setIfInBounds (i*k+j+x.2) x.1) c)[p]?=if i*k+j+n<=p/\p<i*k+j+n+vs.length/\p<c.size then vs[p-(i*k+j+n)]? else c[p]?:=by
  intro vs
  induction vs with
  | nil=>intro n c;refine⟨rfl,λp=>?_⟩;rw[if_neg (by simp;omega)];rfl
  | cons v vs Β=>
   intro n c;obtain⟨I,U⟩:=Β (n+1) (c.setIfInBounds (i*k+j+n) v);simp only[List.zipIdx_cons,List.foldl_cons];refine⟨by rw[I];simp,λp=>?_⟩;rw[U p];simp only[Array.size_setIfInBounds,List.length_cons];by_cases ψ:p=i*k+j+n
   ·subst ψ;rw[if_neg R];by_cases aB:i*k+j+n<c.size
    ·rw[if_pos ⟨R,R,aB⟩,Array.getElem?_setIfInBounds_self_of_lt aB];simp
    ·rw[if_neg R,Array.getElem?_eq_none (by simp;omega),Array.getElem?_eq_none R]
   ·by_cases bq:i*k+j+(n+1)<=p/\p<i*k+j+(n+1)+vs.length/\p<c.size
    ·rw[if_pos bq,if_pos ⟨R,R,bq.2.2⟩];have:p-(i*k+j+n)=(p-(i*k+j+(n+1)))+1:=R;rw[this,List.getElem?_cons_succ]
    ·rw[if_neg bq,if_neg R,Array.getElem?_setIfInBounds_ne (Ne.symm ψ)]
 obtain⟨k1,cJ⟩:=key v.cells.toList 0 c;have cD:v.cells.zipIdx.foldl (λcs (x:Value×Nat)=>cs.setIfInBounds (i*k+j+x.2) x.1) c=(v.cells.toList.zipIdx 0).foldl (λcs (x:Value×Nat)=>cs.setIfInBounds (i*k+j+x.2) x.1) c:=by
  rw[<-Array.foldl_toList];simp
 intro c';have a8:c'=(v.cells.toList.zipIdx 0).foldl (λcs (x:Value×Nat)=>cs.setIfInBounds (i*k+j+x.2) x.1) c:=cD;rw[a8];have hlen:v.cells.toList.length=a.cells.length:=by simpa using cv
 have Nj:i*k+k<=c.size:=by
  have I:(i+1)*k<=l.length*k:=Nat.mul_le_mul_right k iM
  have U:=h.1;rw[Nat.add_mul] at I;omega
 refine⟨k1,by rw[k1];simpa using h.1,λeL aM ba=>?_⟩;by_cases tZ:eL=i
 ·subst tZ;rw[List.getElem?_set_self iM] at ba;cases ba;rw[b2];refine⟨by simp;omega,λbK c2 ε=>?_⟩;rw[cJ,hlen];by_cases bq:j<=bK/\bK<j+a.cells.length
  ·have HB:a.cells[bK-j]?=some c2:=by
    rw[List.append_assoc,gl (by simp;omega)] at ε;simp only[List.length_take] at ε;rw[dE R] at ε;have:bK-min j e.cells.length=bK-j:=R;rw[this] at ε;exact ε
   obtain⟨x,I,U,ξ⟩:=gW _ _ HB;rw[if_pos ⟨R,R,R⟩];have:eL*k+bK-(eL*k+j+0)=bK-j:=R;rw[this,Array.getElem?_toList];exact⟨x,I,U,ξ⟩
  ·have HB:e.cells[bK]?=some c2:=by
    by_cases k8:bK<j
    ·rw[List.append_assoc,dE (by simp;omega),List.getElem?_take_of_lt k8] at ε;exact ε
    ·rw[gl (by simp;omega)] at ε;rw[List.getElem?_drop] at ε;have:j+a.cells.length+(bK-(e.cells.take j++a.cells).length)=bK:=by simp;omega
     rw[this] at ε;exact ε
   rw[if_neg (λx=>bq ⟨R,R⟩)];exact(h.2 eL e he).2 bK c2 HB
 ·rw[List.getElem?_set_ne (Ne.symm tZ)] at ba;obtain⟨I,U⟩:=h.2 eL aM ba;refine⟨I,λbK c2 ε=>?_⟩;have o8:bK<k:=by rw[<-I];exact(cf.1 ε).1
  rw[cJ,hlen,if_neg (λx=>Ni (lo:=j) (hi:=j+a.cells.length) o8 δ tZ ⟨R,R⟩)];exact U bK c2 ε
theorem fU.Nk {z:Value} {a:η} (μ:av S B σ a z) (dK:a.cells.all (η.a9 σ)=true) {k n m:Nat} (ς:a.cells.length=k) (hm:n*k<=m) (gh:Array Value) (Θ:gh=z.cells) :
  fU S B σ ((Array.range m).map (gh[· % gh.size]!)) k (List.replicate n a):=by
 obtain⟨cv,gW⟩:=μ.cells dK;subst Θ;refine⟨by simpa using hm,λi e hi=>?_⟩;obtain⟨I,U⟩:=cf.1 hi;simp at I U;subst U;refine⟨ς,λj c ε=>?_⟩;obtain⟨x,Δ,Γ,a0⟩:=gW j c ε;have δ:j<k:=by rw[<-ς];exact(cf.1 ε).1
 have aB:i*k+j<m:=by
  have:(i+1)*k<=n*k:=Nat.mul_le_mul_right k I;rw[Nat.add_mul] at this;omega
 refine⟨x,?_,Γ,a0⟩;rw[Array.getElem?_map,Array.getElem?_range,if_pos aB];simp only[Option.map_some];have:(i*k+j) % z.cells.size=j:=by
  rw[cv,ς,Nat.mul_comm,Nat.mul_add_mod];exact Nat.mod_eq_of_lt δ
 rw[this];have bn:j<z.cells.size:=R;rw[fh bn] at Δ;cases Δ;rw[getElem!_pos z.cells j bn]
theorem fU.later {aA:aH} {B':aU} {σ':List Row} (υ:b' S aA B B' σ σ') {c:Array Value} {k:Nat} {l:List η} (h:fU S B σ c k l):fU aA B' σ' c k l:=
 ⟨h.1,λi e hi=>⟨(h.2 i e hi).1,λj a δ=>by obtain⟨x,I,U,ξ⟩:=(h.2 i e hi).2 j a δ;exact⟨x,I,U.later υ,ξ⟩⟩⟩
theorem fU.one {a:η} {v:Value} (μ:av S B σ a v) (dK:a.cells.all (η.a9 σ)=true):fU S B σ v.cells a.cells.length [a]:=by
 obtain⟨cv,gW⟩:=μ.cells dK;refine⟨by simp[cv],λi e hi=>?_⟩
 match i with
 | 0=>
  simp at hi;subst hi;refine⟨rfl,λj c ε=>?_⟩;rw[Nat.zero_mul,Nat.zero_add];exact gW j c ε
 | i+1=>simp at hi
theorem zV (ω:Holds S B σ H) {c:Array Value} {k:Nat} {l:List η} (ε:fU S B σ c k l) (t:TypeId) {K:Nat->χ->Prop} {E:Value->χ->Prop}
  (h:∀r,H.fresh r->Holds S (B++[some (r,c.size)]) (σ++[.cells t k l]) (H.dA r c t)->Ext S B H S (B++[some (r,c.size)]) (H.dA r c t)->b' S S B (B++[some (r,c.size)]) σ (σ++[.cells t k l])->K r (H.dA r c t)) :
  π P (newObj (.cells c t)) H K E:=by
 refine⟨rfl,λr κ=>?_⟩;have cH:∀b,(∀N,some (r,c.size)≠some (b,N))->kH H (H.dA r c t) b:=λb hb=>by
  have bA:b≠r:=λe=>by subst e;exact hb _ rfl
  exact⟨λo=>by simp[χ.dA,bA],by simp[χ.dA,bA],rfl⟩
 have bF:b' S S B (B++[some (r,c.size)]) σ (σ++[.cells t k l])->jP S (B++[some (r,c.size)]) (σ++[.cells t k l]) (H.dA r c t) (.cells t k l) (some (r,c.size)):=λυ=>by
  have a8:=ε.later υ;refine⟨by simp[χ.dA],ε.1,λo Α=>⟨c[o],by simp[χ.dA,Α]⟩,λi j=>(c[i*k+j]?).getD undef,λi e hi=>⟨(a8.2 i e hi).1,λj a δ=>?_⟩⟩;obtain⟨x,Δ,Γ,a0⟩:=(a8.2 i e hi).2 j a δ;simp only[Δ,Option.getD_some];exact⟨by simp[χ.dA,Δ],Γ,a0⟩
 obtain⟨I,U,ξ⟩:=ω.push (λb N e=>by cases e;exact κ) cH bF;exact h r κ I U ξ
theorem zW (ω:Holds S B σ H) (c:Array Value) (t:TypeId) {K:Nat->χ->Prop} {E:Value->χ->Prop}
  (h:∀r,Holds (S.lay r c) B σ (H.dA r c t)->Ext S B H (S.lay r c) B (H.dA r c t)->b' S (S.lay r c) B B σ σ->K r (H.dA r c t)) :
  π P (newObj (.cells c t)) H K E:=by
 refine⟨rfl,λr κ=>?_⟩;obtain⟨I,U,ξ⟩:=ω.lay (c:=c) (t:=t) κ;exact h r I U ξ
theorem Nl {r:Nat} {c:Array Value} {a:η} {k:Nat} (υ:b' S (S.lay r c) B B σ σ) (ε:fU S B σ c k [a]):av (S.lay r c) B σ (.ab a.cells) (.pointer (some ⟨r,0,none⟩)):=by
 have a8:=ε.later υ;refine .ab r 0 (λj=>(c[j]?).getD undef) (λj x δ=>?_) (λj x δ=>?_)
 ·obtain⟨y,Δ,_⟩:=(a8.2 0 a rfl).2 j x δ;rw[Nat.zero_mul,Nat.zero_add] at Δ;simp[aH.lay,Δ]
 ·obtain⟨y,Δ,Γ,_⟩:=(a8.2 0 a rfl).2 j x δ;rw[Nat.zero_mul,Nat.zero_add] at Δ;simp only[Δ,Option.getD_some];exact Γ
theorem Dd {r:Nat} {c:Array Value} {k cap:Nat} {l:List η} (ex:Bool) (υ:b' S (S.lay r c) B B σ σ) (ε:fU S B σ c k l) (xL:l.length<=cap) (hex:ex=true->cap=l.length):av (S.lay r c) B σ (.sl ex k l) (.slice (some ⟨r,0,none⟩) l.length cap):=by
 have a8:=ε.later υ;refine .sl r 0 cap (λi j=>(c[i*k+j]?).getD undef) hex xL (λi e hi=>(a8.2 i e hi).1) (λi e hi j x δ=>?_) (λi e hi j x δ=>?_)
 ·obtain⟨y,Δ,_⟩:=(a8.2 i e hi).2 j x δ;simp[aH.lay,Δ]
 ·obtain⟨y,Δ,Γ,_⟩:=(a8.2 i e hi).2 j x δ;simp only[Δ,Option.getD_some];exact Γ
end
end Go.TL
