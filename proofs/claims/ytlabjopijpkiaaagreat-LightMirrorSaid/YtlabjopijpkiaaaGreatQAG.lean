import Derived.Test.YtlabjopijpkiaaaGreatQAF
set_option maxHeartbeats 16000000
set_option maxRecDepth 20000
set_option linter.unusedSectionVars false
set_option linter.unusedSimpArgs false
set_option linter.unusedVariables false
namespace Go.TL
open Go.Conc
def qB (S:al) (B:aH) (σ:List Row) (es:List (ζ×ζ)) (xs:Array MapEntry) (clock:Nat):Prop:=
 es.length=xs.size/\(∀(i:Nat) (e:ζ×ζ) (y:MapEntry),es[i]?=some e->xs[i]?=some y->ah S B σ e.1 y.key/\ah S B σ e.2 y.val/\y.born<clock)/\
 ∀(i j:Nat) (y z:MapEntry),xs[i]?=some y->xs[j]?=some z->i<j->y.born<z.born
def An (S:al) (B:aH) (σ:List Row) (left:List (ζ×ζ)) (cur:Option (ζ×ζ)) (xs:Array MapEntry) (clock:Nat) (seen:Array Nat):Prop:=
 (∃cb:List MapEntry,cb=xs.toList.filter (λe=>!seen.contains e.born)/\left.length=cb.length/\∀(i:Nat) (e:ζ×ζ) (y:MapEntry),left[i]?=some e->cb[i]?=some y->ah S B σ e.1 y.key/\ah S B σ e.2 y.val)/\
 (∀y∈xs,y.born<clock)/\
 ∀e,cur=some e->∃Em y,seen.back?=some Em/\xs.find? (·.born==Em)=some y/\ah S B σ e.1 y.key/\ah S B σ e.2 y.val
def iE (S:al) (B:aH) (σ:List Row) (H:υ) (r:Row) (bo:Option (Nat×Nat)):Prop:=
 match r with
 | .cells t k l=>match bo with
  | none=>l=[]
  | some (b,N)=>H.row b=some (t,N)/\l.length*k<=N/\(∀o,o<N->∃w,H.av b o=some (w,true))/\
   ∃w:Nat->Nat->Value,∀(i:Nat) (e:ζ),l[i]?=some e->e.cells.length=k/\∀(j:Nat) (a:ζ),e.cells[j]?=some a->H.av b (i*k+j)=some (w i j,true)/\ah S B σ a (w i j)/\One (w i j)
 | .map es=>∃b N xs clock,bo=some (b,N)/\H.obj b=some (.map xs clock)/\qB S B σ es xs clock
 | .iter m left cur=>∃b N aI jN xs clock seen,bo=some (b,N)/\B[m]?=some (some (aI,jN))/\(∃es,σ[m]?=some (.map es))/\H.obj b=some (.mapIter (some aI) clock seen clock)/\H.obj aI=some (.map xs clock)/\An S B σ left cur xs clock seen
 | .dead=>True
def Row.live (r:Row):Prop:=match r with|.dead=>False|_=>True
structure Holds (S:al) (B:aH) (σ:List Row) (H:υ):Prop where
 cX:∀b o v,S b o=some v->∃p,H.av b o=some (v,p)
 len:B.length=σ.length
 row:∀(id:Nat) (r:Row) (bo:Option (Nat×Nat)),σ[id]?=some r->B[id]?=some bo->iE S B σ H r bo
 inj:∀(i j:Nat) (dT bW:Row) (b fT fU:Nat),i≠j->σ[i]?=some dT->σ[j]?=some bW->dT.live->bW.live->B[i]?=some (some (b,fT))->B[j]?=some (some (b,fU))->False
 sep:∀(id:Nat) (r:Row) (b N:Nat),σ[id]?=some r->r.live->B[id]?=some (some (b,N))->∀o,S b o=none
def aH.has (B:aH) (b:Nat):Prop:=∃N,some (b,N)∈B
def lZ (eQ:al) (dC H:υ) (b:Nat):Prop:=
 (∀o,H.av b o=dC.av b o\/∃v p,eQ b o=some v/\dC.av b o=some (v,p)/\H.av b o=some (v,false))/\H.row b=dC.row b/\H.obj b=dC.obj b
theorem lZ.of {eQ:al} {dC H:υ} {b:Nat} (h:(∀o,H.av b o=dC.av b o)/\H.row b=dC.row b/\H.obj b=dC.obj b):lZ eQ dC H b:=⟨λo=>.inl (h.1 o),h.2⟩
structure Ext (eQ:al) (d':aH) (dC:υ) (S:al) (B:aH) (H:υ):Prop where
 cX:∀b o v,eQ b o=some v->S b o=some v
 e':∀b,¬d'.has b->¬dC.fresh b->lZ eQ dC H b
 blocks:∀b,B.has b->d'.has b\/dC.fresh b
 pj:∀b o v,S b o=some v->eQ b o=some v\/d'.has b\/dC.fresh b
 grow:∀b,H.fresh b->dC.fresh b
theorem Ext.refl (S:al) (B:aH) (H:υ):Ext S B H S B H:=⟨λ_ _ _ h=>h,λ_ _ _=>lZ.of ⟨λ_=>rfl,rfl,rfl⟩,λ_ h=>.inl h,λ_ _ _ h=>.inl h,λ_ h=>h⟩
theorem Ext.trans {eQ br cV:al} {d' bB fe:aH} {dC H1 bH:υ} (h:Ext eQ d' dC br bB H1) (k:Ext br bB H1 cV fe bH):Ext eQ d' dC cV fe bH:=by
 refine⟨λb o v x=>k.cX b o v (h.cX b o v x),λb hb ab=>?_,λb hb=>?_,λb o v hv=>?_,λb x=>h.grow b (k.grow b x)⟩
 ·have Δ:=h.e' b hb ab
  have Qk:¬H1.fresh b:=λx=>ab (h.grow b x)
  have jM:¬bB.has b:=λx=>(h.blocks b x).elim hb ab
  have Ε:=k.e' b jM Qk;refine⟨λo=>?_,Ε.2.1.trans Δ.2.1,Ε.2.2.trans Δ.2.2⟩;rcases Ε.1 o with x|⟨v,p,n9,u5,pk⟩<;>rcases Δ.1 o with y|⟨u,q,n',Ao,En⟩
  ·exact .inl (x.trans y)
  ·exact .inr ⟨u,q,n',Ao,x.trans En⟩
  ·rcases h.pj b o v n9 with z|z|z
   ·exact .inr ⟨v,p,z,by rw[<-y];exact u5,pk⟩
   ·exact absurd z hb
   ·exact absurd z ab
  ·have e:=h.cX b o u n'
   have:v=u:=by rw[n9] at e;exact Option.some.inj e
   subst this;exact .inr ⟨v,q,n',Ao,pk⟩
 ·rcases k.blocks b hb with x|x
  ·exact h.blocks b x
  ·exact .inr (h.grow b x)
 ·rcases k.pj b o v hv with x|x|x
  ·exact h.pj b o v x
  ·exact .inr (h.blocks b x)
  ·exact .inr (.inr (h.grow b x))
abbrev Φ:=List (Nat×ζ)
def aW:Φ->Nat->ζ
 | [],_=>.ca
 |(j,a)::r,i=>if j=i then a else aW r i
def cY (S:al) (B:aH) (σ:List Row) (env:Φ) (t:Array Value):Prop:=∀i,ah S B σ (aW env i) (t.getD i undef)
theorem cY.later {S aj:al} {B B':aH} {σ σ':List Row} {env:Φ} {t:Array Value} (h:cY S B σ env t) (Β:bQ S aj B B' σ σ'):cY aj B' σ' env t:=λi=>(h i).later Β
theorem cY.put {S:al} {B:aH} {σ:List Row} {env:Φ} {t:Array Value} (h:cY S B σ env t) {d:Nat} (hd:d<t.size) {a:ζ} {v:Value} (κ:ah S B σ a v):cY S B σ ((d,a)::env) (t.setIfInBounds d v):=by
 intro i;simp only[aW];split
 ·rename_i e;subst e;simpa[Array.getD_eq_getD_getElem?,hd] using κ
 ·rename_i e;have:=h i;rw[Array.getD_eq_getD_getElem?] at this ⊢
  rwa [Array.getElem?_setIfInBounds_ne e]
theorem I9 {S:al} {B:aH} {σ:List Row} {H:υ} (ψ:Holds S B σ H) {id:Nat} {r:Row} (h:σ[id]?=some r):∃bo,B[id]?=some bo:=by
 have:id<B.length:=by rw[ψ.len];exact(bU.1 h).1
 exact⟨_,aX this⟩
def jO:TypeDesc->Bool
 | .struct _|.array _ _=>true
 | _=>false
section
variable {P:Program} {α β:Type} {G:υ} {E:Value->υ->Prop}
theorem π.mono {K K':α->υ->Prop} {E':Value->υ->Prop} (I:∀a G,K a G->K' a G) (c7:∀v G,E v G->E' v G) (s:Sem α):∀{G:υ},π P s G K E->π P s G K' E':=by
 induction s with
 | pure a=>intro G h;exact I _ _ h
 | load m a k Γ=>intro G ⟨J,R,v,p,ς,Κ⟩;exact⟨J,R,v,p,ς,Γ v Κ⟩
 | store m a v k Γ=>intro G ⟨J,R,ς,Κ,aF,aV⟩;exact⟨J,R,ς,Κ,aF,Γ aV⟩
 | new o k Γ=>
  intro G h;cases o with
  | cells c t dz=>exact⟨h.1,λr ι=>Γ r (h.2 r ι)⟩
  | _=>exact λr ι=>Γ r (h r ι)
 | shape r k Γ=>intro G ⟨t,n,J,R⟩;exact⟨t,n,J,Γ _ R⟩
 | freeze a n k Γ=>intro G h;exact h.elim
 | frozen a k Γ=>intro G ⟨J,R⟩;exact⟨J,Γ _ R⟩
 | getObj r k Γ=>intro G ⟨o,J,R,ς⟩;exact⟨o,J,R,Γ _ ς⟩
 | setObj r o k Γ=>intro G ⟨J,R,ς,Κ⟩;exact⟨J,R,ς,Γ Κ⟩
 | choose q k Γ=>
  intro G h;simp only[π] at h ⊢;split
  ·rw[if_pos ‹_›] at h;exact Γ _ h
  ·rw[if_neg ‹_›] at h;exact λn=>Γ _ (h n)
 | sys c k Γ=>intro G h;exact h.elim
 | program k Γ=>intro G h;exact Γ P h
 | mark m k Γ=>intro G ⟨J,R⟩;exact⟨J,Γ R⟩
 | halt x=>
  intro G h;cases x<;>first|exact h.elim|exact c7 _ _ h
theorem π.bind {f:α->Sem β} {K:β->υ->Prop} (s:Sem α):∀{G:υ},π P s G (λa G'=>π P (f a) G' K E) E->π P (s.bind f) G K E:=by
 induction s with
 | pure a=>intro G h;exact h
 | load m a k Γ=>intro G ⟨J,R,v,p,ς,Κ⟩;exact⟨J,R,v,p,ς,Γ v Κ⟩
 | store m a v k Γ=>intro G ⟨J,R,ς,Κ,aF,aV⟩;exact⟨J,R,ς,Κ,aF,Γ aV⟩
 | new o k Γ=>
  intro G h;cases o with
  | cells c t dz=>exact⟨h.1,λr ι=>Γ r (h.2 r ι)⟩
  | _=>exact λr ι=>Γ r (h r ι)
 | shape r k Γ=>intro G ⟨t,n,J,R⟩;exact⟨t,n,J,Γ _ R⟩
 | freeze a n k Γ=>intro G h;exact h.elim
 | frozen a k Γ=>intro G ⟨J,R⟩;exact⟨J,Γ _ R⟩
 | getObj r k Γ=>intro G ⟨o,J,R,ς⟩;exact⟨o,J,R,Γ _ ς⟩
 | setObj r o k Γ=>intro G ⟨J,R,ς,Κ⟩;exact⟨J,R,ς,Γ Κ⟩
 | choose q k Γ=>
  intro G h;simp only[π] at h;simp only[Sem.bind,π];split
  ·rw[if_pos ‹_›] at h;exact Γ _ h
  ·rw[if_neg ‹_›] at h;exact λn=>Γ _ (h n)
 | sys c k Γ=>intro G h;exact h.elim
 | program k Γ=>intro G h;exact Γ P h
 | mark m k Γ=>intro G ⟨J,R⟩;exact⟨J,Γ R⟩
 | halt x=>
  intro G h;cases x<;>first|exact h.elim|exact h
theorem π.bind' {f:α->Sem β} {K:β->υ->Prop} {s:Sem α} (h:π P s G (λa G'=>π P (f a) G' K E) E):π P (s >>= f) G K E:=π.bind s h
theorem π.pure' {a:α} {K:α->υ->Prop} (h:K a G):π P (pure a) G K E:=h
theorem π.underlying {t:TypeId} {d:TypeDesc} {K:TypeDesc->υ->Prop} (hd:P.underlying t=some d) (h:K d G):π P (Go.underlying t) G K E:=by
 unfold Go.underlying;refine π.bind' ?_;show π P (match P.underlying t with|some d=>pure d|none=>_) G K E;rw[hd];exact h
theorem π.typeInfo {t:TypeId} {i:TypeInfo} {K:TypeInfo->υ->Prop} (hi:P.info? t=some i) (h:K i G):π P (Go.typeInfo t) G K E:=by
 unfold Go.typeInfo;refine π.bind' ?_;show π P (match P.info? t with|some i=>pure i|none=>_) G K E;have:P.info? t=some i:=hi;rw[this];exact h
theorem π.sizeOf {t:TypeId} {i:TypeInfo} {K:Nat->υ->Prop} (hi:P.info? t=some i) (h:K i.size G):π P (Go.sizeOf t) G K E:=by
 unfold Go.sizeOf;exact π.bind' (π.typeInfo hi (π.pure' h))
theorem π.isAgg {t:TypeId} {d:TypeDesc} {K:Bool->υ->Prop} (hd:P.underlying t=some d) (h:K (jO d) G):π P (Go.isAgg t) G K E:=by
 unfold Go.isAgg;refine π.bind' (π.underlying hd ?_);cases d<;>exact h
theorem π.zeroValue {t:TypeId} {i:TypeInfo} {v:Value} {K:Value->υ->Prop} (hi:P.info? t=some i) (Ν:i.zero=some v) (h:K v G):π P (Go.zeroValue t) G K E:=by
 unfold Go.zeroValue;refine π.bind' (π.typeInfo hi ?_);rw[Ν];exact h
theorem π.Ql {a:Addr} (w:Nat->Value) {K:Array Value->υ->Prop}:∀(n i:Nat) (acc:Array Value),a.spot=none->(∀j,i<=j->j<i+n->∃p,G.av a.block (a.off+j)=some (w j,p))->K (acc++((List.range n).map λj=>w (i+j)).toArray) G->π P (loadCellsFrom a i n acc) G K E:=by
 intro n
 induction n with
 | zero=>intro i acc _ _ h;simp at h;exact h
 | succ n Γ=>
  intro i acc κ η h;unfold loadCellsFrom;refine π.bind' ?_;obtain⟨p,χ⟩:=η i (Nat.le_refl _) (by omega);have Δ:(a.add i).spot=none:=by unfold Addr.add;split<;>simp[κ]
  have Ε:(a.add i).block=a.block:=by unfold Addr.add;split<;>rfl
  have a3:(a.add i).off=a.off+i:=by unfold Addr.add;split<;>simp_all
  refine⟨rfl,Δ,w i,p,by rw[Ε,a3];exact χ,?_⟩;refine Γ (i+1) (acc.push (w i)) κ (λj J R=>η j (by omega) (by omega)) ?_;have:acc.push (w i)++((List.range n).map λj=>w (i+1+j)).toArray=acc++((List.range (n+1)).map λj=>w (i+j)).toArray:=by
   rw[List.range_succ_eq_map];apply Array.ext';simp[Function.comp_def,Nat.add_assoc,Nat.add_comm 1]
  rw[this];exact h
theorem π.loadCells {a:Addr} (w:Nat->Value) {n:Nat} {K:Array Value->υ->Prop} (κ:a.spot=none) (η:∀j,j<n->∃p,G.av a.block (a.off+j)=some (w j,p)) (h:K ((List.range n).map w).toArray G):π P (Go.loadCells a n) G K E:=by
 unfold Go.loadCells;exact π.Ql w n 0 #[] κ (λj _ γ=>η j (by omega)) (by simpa using h)
def υ.gD (G:υ) (b o:Nat) (vs:List Value):υ:={G with av:=λΡ o'=>if Ρ=b/\o<=o'/\o'<o+vs.length then some ((vs[o'-o]?).getD undef,true) else G.av Ρ o'}
theorem υ.Eo {H:υ} {b o:Nat} {vs:List Value}:∀r,(H.gD b o vs).fresh r->H.fresh r:=
 υ.Ef (λΡ o' h=>by
  simp only[υ.gD] at h;split at h
  ·cases h
  ·exact h) (λ_ h=>h) (λ_ h=>h)
theorem π.storeCells {a:Addr} {K:Unit->υ->Prop} (κ:a.spot=none) (bA:∃t n,G.row a.block=some (t,n)):∀(vs:List Value) (i:Nat) (G':υ),(∀v∈vs,One v)->(∀j,i<=j->j<i+vs.length->G'.owns a.block (a.off+j))->(G'.row=G.row)->K () (G'.gD a.block (a.off+i) vs)->π P (Go.storeCells a vs i) G' K E:=by
 intro vs
 induction vs with
 | nil=>
  intro i G' _ _ _ h;have:G'.gD a.block (a.off+i) []=G':=by
   unfold υ.gD;have:∀Ρ o',¬(Ρ=a.block/\a.off+i<=o'/\o'<a.off+i+([]:List Value).length):=λΡ o' h=>by simp at h;omega
   simp only[this,if_false]
  rw[this] at h;exact h
 | cons v vs Γ=>
  intro i G' Ak fp ι h;unfold Go.storeCells;refine π.bind' ?_;have Δ:(a.add i).spot=none:=by unfold Addr.add;split<;>simp[κ]
  have Ε:(a.add i).block=a.block:=by unfold Addr.add;split<;>rfl
  have a3:(a.add i).off=a.off+i:=by unfold Addr.add;split<;>simp_all
  refine⟨rfl,Δ,by rw[Ε,a3];exact fp i (Nat.le_refl _) (by simp),by rw[Ε,ι];exact bA,Ak v (by simp),?_⟩;refine Γ (i+1) _ (λv hv=>Ak v (by simp[hv])) (λj J R=>?_) ι ?_
  ·obtain⟨u,hu⟩:=fp j (by omega) (by simp;omega);refine⟨u,?_⟩;simp only[υ.tf,Ε,a3];rw[if_neg (by omega)];exact hu
  ·have:(G'.tf (a.add i) v).gD a.block (a.off+(i+1)) vs=G'.gD a.block (a.off+i) (v::vs):=by
    unfold υ.gD υ.tf;simp only[Ε,a3];congr 1
    funext Ρ o'
    by_cases hb:Ρ=a.block
    ·subst hb;by_cases J:o'=a.off+i
     ·subst J;rw[if_neg (by omega),if_pos ⟨rfl,rfl⟩,if_pos ⟨rfl,by omega,by simp⟩];simp
     ·by_cases R:a.off+(i+1)<=o'/\o'<a.off+(i+1)+vs.length
      ·rw[if_pos ⟨rfl,R⟩,if_pos ⟨rfl,by omega,by simp;omega⟩];have:o'-(a.off+i)=(o'-(a.off+(i+1)))+1:=by omega
       rw[this,List.getElem?_cons_succ]
      ·rw[if_neg (by intro x;exact R x.2),if_neg (by intro x;exact J x.2),if_neg (by intro x;simp at x;omega)]
    ·rw[if_neg (λx=>hb x.1),if_neg (λx=>hb x.1),if_neg (λx=>hb x.1)]
   rw[this];exact h
end
def js (H H':υ) (b:Nat):Prop:=(∀o,H'.av b o=H.av b o)/\H'.row b=H.row b/\H'.obj b=H.obj b
theorem lZ.qC {eQ:al} {dC H:υ} {b:Nat} (h:lZ eQ dC H b) (Ι:∀o,eQ b o=none):js dC H b:=
 ⟨λo=>(h.1 o).elim id λ⟨v,p,J,_⟩=>(by rw[Ι o] at J;cases J),h.2⟩
section
variable {S aj:al} {B B':aH} {σ σ':List Row} {H H':υ}
theorem qB.later (Β:bQ S aj B B' σ σ') {es:List (ζ×ζ)} {xs:Array MapEntry} {clock:Nat} (h:qB S B σ es xs clock):qB aj B' σ' es xs clock:=
 ⟨h.1,λi e y J R=>⟨(h.2.1 i e y J R).1.later Β,(h.2.1 i e y J R).2.1.later Β,(h.2.1 i e y J R).2.2⟩,h.2.2⟩
theorem An.later (Β:bQ S aj B B' σ σ') {left:List (ζ×ζ)} {cur:Option (ζ×ζ)} {xs:Array MapEntry} {clock:Nat} {seen:Array Nat} (h:An S B σ left cur xs clock seen):An aj B' σ' left cur xs clock seen:=by
 obtain⟨⟨cb,J,R,ς⟩,Κ,aF⟩:=h;refine⟨⟨cb,J,R,λi e y a b=>⟨(ς i e y a b).1.later Β,(ς i e y a b).2.later Β⟩⟩,Κ,λe he=>?_⟩;obtain⟨st,y,a,b,c,d⟩:=aF e he;exact⟨st,y,a,b,c.later Β,d.later Β⟩
theorem iE.later (Β:bQ S aj B B' σ σ') {r:Row} {bo:Option (Nat×Nat)} (h:iE S B σ H r bo) (κ:∀b N,bo=some (b,N)->js H H' b)
  (c9:∀m left cur,r=.iter m left cur->σ'[m]?=σ[m]?/\B'[m]?=B[m]?/\∀b N,B[m]?=some (some (b,N))->js H H' b):iE aj B' σ' H' r bo:=by
 cases r with
 | cells t k l=>
  cases bo with
  | none=>exact h
  | some x=>
   obtain⟨b,N⟩:=x;obtain⟨a1,bg,_⟩:=κ b N rfl;obtain⟨J,R,ς,w,Κ⟩:=h;refine⟨by rw[bg];exact J,R,λo ω=>by rw[a1];exact ς o ω,w,λi e hi=>⟨(Κ i e hi).1,λj a γ=>?_⟩⟩;obtain⟨c1,c2,c3⟩:=(Κ i e hi).2 j a γ;exact⟨by rw[a1];exact c1,c2.later Β,c3⟩
 | map es=>
  obtain⟨b,N,xs,clock,rfl,J,R⟩:=h;exact⟨b,N,xs,clock,rfl,by rw[(κ b N rfl).2.2];exact J,R.later Β⟩
 | iter m left cur=>
  obtain⟨b,N,aI,jN,xs,clock,seen,rfl,J,R,ς,Κ,aF⟩:=h;obtain⟨i1,i2,i3⟩:=c9 m left cur rfl;exact⟨b,N,aI,jN,xs,clock,seen,rfl,by rw[i2];exact J,by rw[i1];exact R,by rw[(κ b N rfl).2.2];exact ς,by rw[(i3 aI jN J).2.2];exact Κ,aF.later Β⟩
 | dead=>trivial
theorem nn {id:Nat} {b N:Nat} (h:B[id]?=some (some (b,N))):B.has b:=⟨N,cf h⟩
theorem Holds.mD (ψ:Holds S B σ H) {id b N:Nat} {r:Row} (ι:σ[id]?=some r) (Β:r.live) (hb:B[id]?=some (some (b,N))):¬H.fresh b:=λab=>by
 have h:=ψ.row id r _ ι hb;cases r with
 | cells t k l=>have:=h.1;rw[ab.2.1] at this;cases this
 | map es=>
  obtain⟨Ρ,ey,xs,clock,e,J,_⟩:=h;cases e;rw[ab.2.2.1] at J;cases J
 | iter m left cur=>
  obtain⟨Ρ,ey,aI,jN,xs,clock,seen,e,_,_,J,_⟩:=h;cases e;rw[ab.2.2.1] at J;cases J
 | dead=>exact Β
theorem Qm {id:Nat} {r r':Row} {bo bo':Option (Nat×Nat)} (ι:σ[id]?=some r) (hb:B[id]?=some bo) (u6:r.to r' (some bo) (some bo')):bQ S S B (B.set id bo') σ (σ.set id r'):=by
 have bS:id<σ.length:=(bU.1 ι).1
 have np:id<B.length:=(bU.1 hb).1;refine⟨λ_ _ _ h=>h,λj bW γ=>?_⟩;by_cases e:id=j
 ·subst e;rw[ι] at γ;cases γ;refine⟨r',by rw[List.getElem?_set_self bS],?_⟩;rw[hb,List.getElem?_set_self np];exact u6
 ·exact⟨bW,by rw[List.getElem?_set_ne e];exact γ,by rw[List.getElem?_set_ne e];exact bW.rM _⟩
theorem Holds.u7 (ψ:Holds S B σ H) {id:Nat} {r r':Row} {bo bo':Option (Nat×Nat)} (ι:σ[id]?=some r) (eR:r.live) (hb:B[id]?=some bo) (u6:r.to r' (some bo) (some bo'))
  (fp:∀b ey,bo'=some (b,ey)->(∃N,bo=some (b,N))\/H.fresh b) (cj:∀b,(∀N,bo≠some (b,N))->(∀N,bo'≠some (b,N))->js H H' b) (rE:∀b,H'.fresh b->H.fresh b)
  (c9:∀(j:Nat) left cur,σ[j]?≠some (Row.iter id left cur)) (bA:bQ S S B (B.set id bo') σ (σ.set id r')->iE S (B.set id bo') (σ.set id r') H' r' bo') :
  Holds S (B.set id bo') (σ.set id r') H'/\Ext S B H S (B.set id bo') H'/\bQ S S B (B.set id bo') σ (σ.set id r'):=by
 have Β:=Qm (S:=S) ι hb u6
 have bS:id<σ.length:=(bU.1 ι).1
 have np:id<B.length:=(bU.1 hb).1
 have other:∀(j:Nat) (bW:Row) (b N:Nat),j≠id->σ[j]?=some bW->bW.live->B[j]?=some (some (b,N))->js H H' b:=λj bW b N γ xD dO cv=>by
  refine cj b (λey e=>?_) (λey e=>?_)
  ·exact ψ.inj j id bW r b N ey γ xD ι dO eR cv (by rw[hb,e])
  ·rcases fp b ey e with⟨oa,R⟩|R
   ·exact ψ.inj j id bW r b N oa γ xD ι dO eR cv (by rw[hb,R])
   ·exact ψ.mD xD dO cv R
 refine⟨⟨λb o v hv=>?_,by simp[ψ.len],λj bW rN γ cv=>?_,λi j dT bW b fT fU gx hi γ hp dO gE cv=>?_,λj bW b N γ dO cv o=>?_⟩,⟨λ_ _ _ h=>h,λb iC ab=>?_,λb iC=>?_,λb o v hv=>.inl hv,rE⟩,Β⟩
 ·have af:=ψ.cX b o v hv
  have Ι:∀N,bo≠some (b,N):=λN e=>by
   have:=ψ.sep id r b N ι eR (by rw[hb,e]) o;rw[hv] at this;cases this
  have pn:∀N,bo'≠some (b,N):=λN e=>by
   rcases fp b N e with⟨oa,R⟩|R
   ·exact Ι oa R
   ·obtain⟨p,χ⟩:=af;rw[R.1 o] at χ;cases χ
  rw[(cj b Ι pn).1];exact af
 ·by_cases e:id=j
  ·subst e;rw[List.getElem?_set_self bS] at γ;rw[List.getElem?_set_self np] at cv;cases γ;cases cv;exact bA Β
  ·rw[List.getElem?_set_ne e] at γ cv;by_cases dO:bW.live
   ·refine(ψ.row j bW rN γ cv).later Β (λb N hM=>other j bW b N (Ne.symm e) γ dO (by rw[cv,hM])) λm left cur fr=>?_;subst fr;have hm:id≠m:=λx=>by subst x;exact c9 j left cur γ
    refine⟨by rw[List.getElem?_set_ne hm],by rw[List.getElem?_set_ne hm],λb N qD=>?_⟩;obtain⟨_,_,aI,jN,xs,clock,seen,_,J,⟨es,R⟩,_⟩:=ψ.row j _ rN γ cv;exact other m _ b N (Ne.symm hm) R trivial qD
   ·cases bW<;>first|exact absurd trivial dO|trivial
 ·have key:∀(i:Nat) (dT:Row) (N:Nat),(σ.set id r')[i]?=some dT->dT.live->(B.set id bo')[i]?=some (some (b,N))->i≠id->(σ[i]?=some dT/\B[i]?=some (some (b,N))):=λi dT N J _ ς bd=>by
   rw[List.getElem?_set_ne (Ne.symm bd)] at J ς;exact⟨J,ς⟩
  have xE:∀(i:Nat) (dT:Row) (N ey:Nat),i≠id->σ[i]?=some dT->dT.live->B[i]?=some (some (b,N))->bo'=some (b,ey)->False:=λi dT N ey bd J R ς Κ=>by
   rcases fp b ey Κ with⟨oa,aF⟩|aF
   ·exact ψ.inj i id dT r b N oa bd J ι R eR ς (by rw[hb,aF])
   ·exact ψ.mD J R ς aF
  by_cases uT:i=id
  ·subst uT;rw[List.getElem?_set_self np] at gE;obtain⟨J,R⟩:=key j bW fU γ dO cv (Ne.symm gx);exact xE j bW fU fT (Ne.symm gx) J dO R (by simpa using gE)
  ·obtain⟨J,R⟩:=key i dT fT hi hp gE uT;by_cases k9:j=id
   ·subst k9;rw[List.getElem?_set_self np] at cv;exact xE i dT fT fU gx J hp R (by simpa using cv)
   ·obtain⟨ς,Κ⟩:=key j bW fU γ dO cv k9;exact ψ.inj i j dT bW b fT fU gx J ς hp dO R Κ
 ·by_cases e:id=j
  ·subst e;rw[List.getElem?_set_self np] at cv;have Qn:bo'=some (b,N):=by simpa using cv
   rcases fp b N Qn with⟨oa,R⟩|R
   ·exact ψ.sep id r b oa ι eR (by rw[hb,R]) o
   ·cases hv:S b o with
    | none=>rfl
    | some v=>obtain⟨p,χ⟩:=ψ.cX b o v hv;rw[R.1 o] at χ;cases χ
  ·rw[List.getElem?_set_ne e] at γ cv;exact ψ.sep j bW b N γ dO cv o
 ·refine lZ.of (cj b (λN e=>iC (nn (id:=id) (N:=N) (by rw[hb,e]))) λN e=>?_);rcases fp b N e with⟨oa,R⟩|R
  ·exact iC (nn (id:=id) (N:=oa) (by rw[hb,R]))
  ·exact ab R
 ·obtain⟨N,b8⟩:=iC;obtain⟨j,γ⟩:=List.getElem?_of_mem b8;by_cases e:id=j
  ·subst e;rw[List.getElem?_set_self np] at γ;rcases fp b N (by simpa using γ) with⟨oa,R⟩|R
   ·exact .inl (nn (id:=id) (N:=oa) (by rw[hb,R]))
   ·exact .inr R
  ·rw[List.getElem?_set_ne e] at γ;exact .inl (nn γ)
theorem Qo {r:Row} {bo:Option (Nat×Nat)} (hlen:B.length=σ.length):bQ S S B (B++[bo]) σ (σ++[r]):=by
 refine⟨λ_ _ _ h=>h,λj bW γ=>?_⟩;have ar:=(bU.1 γ).1;exact⟨bW,by rw[dW ar];exact γ,by rw[dW (by omega)];exact bW.rM _⟩
theorem Holds.push (ψ:Holds S B σ H) {r:Row} {bo:Option (Nat×Nat)} (fp:∀b N,bo=some (b,N)->H.fresh b) (cj:∀b,(∀N,bo≠some (b,N))->js H H' b)
  (bA:bQ S S B (B++[bo]) σ (σ++[r])->iE S (B++[bo]) (σ++[r]) H' r bo) :
  Holds S (B++[bo]) (σ++[r]) H'/\Ext S B H S (B++[bo]) H'/\bQ S S B (B++[bo]) σ (σ++[r]):=by
 have Β:=Qo (S:=S) (r:=r) (bo:=bo) ψ.len
 have hlen:=ψ.len
 have rE:∀b,H'.fresh b->H.fresh b:=by
  have key:∀b,((∀o,H'.av b o=none)->∀o,H.av b o=none)/\(H'.row b=none->H.row b=none)/\(H'.obj b=none->H.obj b=none):=λb=>by
   by_cases e:∀N,bo≠some (b,N)
   ·obtain⟨a1,bg,cr⟩:=cj b e;exact⟨λh o=>by rw[<-a1 o];exact h o,λh=>by rw[<-bg];exact h,λh=>by rw[<-cr];exact h⟩
   ·obtain⟨N,b8⟩:=Classical.not_forall.1 e;have ab:=fp b N (Classical.not_not.1 b8);exact⟨λ_=>ab.1,λ_=>ab.2.1,λ_=>ab.2.2.1⟩
  exact λb hb=>⟨(key b).1 hb.1,(key b).2.1 hb.2.1,(key b).2.2 hb.2.2.1,λΡ ar=>⟨(key Ρ).1 (hb.2.2.2 Ρ ar).1,(key Ρ).2.1 (hb.2.2.2 Ρ ar).2.1,(key Ρ).2.2 (hb.2.2.2 Ρ ar).2.2⟩⟩
 have other:∀(j:Nat) (bW:Row) (b N:Nat),σ[j]?=some bW->bW.live->B[j]?=some (some (b,N))->js H H' b:=λj bW b N xD dO cv=>
  cj b λey e=>ψ.mD xD dO cv (fp b ey e)
 have old:∀{α:Type} (l:List α) (x:α) (j:Nat) (y:α),(l++[x])[j]?=some y->(j<l.length/\l[j]?=some y)\/(j=l.length/\x=y):=λl x j y h=>by
  by_cases γ:j<l.length
  ·rw[dW γ] at h;exact .inl ⟨γ,h⟩
  ·rw[ha (by omega)] at h;have:j-l.length=0:=by
    have:=(bU.1 h).1;simp at this;omega
   rw[this] at h;simp at h;exact .inr ⟨by omega,h⟩
 refine⟨⟨λb o v hv=>?_,by simp[hlen],λj bW rN γ cv=>?_,λi j dT bW b fT fU gx hi γ hp dO gE cv=>?_,λj bW b N γ dO cv o=>?_⟩,⟨λ_ _ _ h=>h,λb iC ab=>?_,λb iC=>?_,λb o v hv=>.inl hv,rE⟩,Β⟩
 ·obtain⟨p,χ⟩:=ψ.cX b o v hv;rw[(cj b λN e=>by have:=(fp b N e).1 o;rw[χ] at this;cases this).1];exact⟨p,χ⟩
 ·rcases old σ r j bW γ with⟨J,R⟩|⟨J,rfl⟩
  ·rw[dW (by omega)] at cv;by_cases dO:bW.live
   ·refine(ψ.row j bW rN R cv).later Β (λb N hM=>other j bW b N R dO (by rw[cv,hM])) λm left cur fr=>?_;subst fr;obtain⟨_,_,aI,jN,xs,clock,seen,_,Δ,⟨es,Ε⟩,_⟩:=ψ.row j _ rN R cv;have hm:=(bU.1 Ε).1;exact⟨by rw[dW hm],by rw[dW (by omega)],λb N qD=>other m _ b N Ε trivial qD⟩
   ·cases bW<;>first|exact absurd trivial dO|trivial
  ·rw[J,<-hlen] at cv;simp at cv;subst cv;exact bA Β
 ·rcases old σ r i dT hi with⟨J,R⟩|⟨J,rfl⟩<;>rcases old σ r j bW γ with⟨ς,Κ⟩|⟨ς,rfl⟩
  ·rw[dW (by omega)] at gE cv;exact ψ.inj i j dT bW b fT fU gx R Κ hp dO gE cv
  ·rw[dW (by omega)] at gE;rw[ς,<-hlen] at cv;simp at cv;exact ψ.mD R hp gE (fp b fU cv)
  ·rw[dW (by omega)] at cv;rw[J,<-hlen] at gE;simp at gE;exact ψ.mD Κ dO cv (fp b fT gE)
  ·omega
 ·rcases old σ r j bW γ with⟨J,R⟩|⟨J,rfl⟩
  ·rw[dW (by omega)] at cv;exact ψ.sep j bW b N R dO cv o
  ·rw[J,<-hlen] at cv;simp at cv;cases hv:S b o with
   | none=>rfl
   | some v=>obtain⟨p,χ⟩:=ψ.cX b o v hv;rw[(fp b N cv).1 o] at χ;cases χ
 ·exact lZ.of (cj b λN e=>ab (fp b N e))
 ·obtain⟨N,b8⟩:=iC;rcases List.mem_append.1 b8 with h|h
  ·exact .inl ⟨N,h⟩
  ·simp at h;exact .inr (fp b N h.symm)
def al.lay (S:al) (r:Nat) (c:Array Value):al:=λb o=>if b=r then c[o]? else S b o
theorem Holds.lay (ψ:Holds S B σ H) {r:Nat} {c:Array Value} {t:TypeId} (ab:H.fresh r) :
  Holds (S.lay r c) B σ (H.dh r c t)/\Ext S B H (S.lay r c) B (H.dh r c t)/\bQ S (S.lay r c) B B σ σ:=by
 have Ι:∀o,S r o=none:=λo=>by
  cases hv:S r o with
  | none=>rfl
  | some v=>obtain⟨p,χ⟩:=ψ.cX r o v hv;rw[ab.1 o] at χ;cases χ
 have cj:∀b o v,S b o=some v->S.lay r c b o=some v:=λb o v h=>by
  unfold al.lay;rw[if_neg (λe=>by subst e;rw[Ι] at h;cases h)];exact h
 have Β:bQ S (S.lay r c) B B σ σ:=⟨cj,λ_ bW h=>⟨bW,h,bW.rM _⟩⟩
 have aR:∀b,b≠r->js H (H.dh r c t) b:=λb hb=>⟨λo=>by simp[υ.dh,hb],by simp[υ.dh,hb],rfl⟩;refine⟨⟨λb o v hv=>?_,ψ.len,λj bW rN γ cv=>?_,ψ.inj,λj bW b N γ dO cv o=>?_⟩,⟨cj,λb _ nq=>lZ.of (aR b λe=>nq (e▸ab)),λb hb=>.inl hb,λb o v hv=>?_,υ.I1 ab c t⟩,Β⟩
 ·unfold al.lay at hv;split at hv
  ·rename_i e;subst e;exact⟨true,by simp[υ.dh,hv]⟩
  ·rename_i e;rw[(aR b e).1];exact ψ.cX b o v hv
 ·by_cases dO:bW.live
  ·have Ap:∀(j:Nat) (bW:Row) (b N:Nat),σ[j]?=some bW->bW.live->B[j]?=some (some (b,N))->b≠r:=λj bW b N J R ς e=>ψ.mD J R ς (e▸ab);refine(ψ.row j bW rN γ cv).later Β (λb N hM=>aR b (Ap j bW b N γ dO (by rw[cv,hM]))) λm left cur fr=>?_;subst fr;obtain⟨_,_,aI,jN,xs,clock,seen,_,Δ,⟨es,Ε⟩,_⟩:=ψ.row j _ rN γ cv;exact⟨rfl,rfl,λb N qD=>aR b (Ap m _ b N Ε trivial qD)⟩
  ·cases bW<;>first|exact absurd trivial dO|trivial
 ·unfold al.lay;rw[if_neg (λe:b=r=>ψ.mD γ dO cv (e▸ab))];exact ψ.sep j bW b N γ dO cv o
 ·unfold al.lay at hv;split at hv
  ·rename_i e;subst e;exact .inr (.inr ab)
  ·exact .inl hv
end
def xF:Value->ζ
 | .slice none 0 0=>.sl true 0 []
 | v=>.z v
def gF:Value->ζ
 | .agg vs=>.aR (vs.toList.map xF)
 | v=>xF v
def aG (env:Φ):Operand->ζ
 | .tmp n=>aW env n
 | .const v=>gF v
 | .global _=>.ca
 | .func f=>.fn (.func f) [] []
theorem I' {S:al} {B:aH} {σ:List Row} (v:Value):ah S B σ (xF v) v:=by
 unfold xF;split
 ·exact .hN none 0 λ_=>rfl
 ·exact .z v
theorem ob {S:al} {B:aH} {σ:List Row} (v:Value):ah S B σ (gF v) v:=by
 unfold gF;split
 ·rename_i vs;refine .aR vs (by simp) λi a w J R=>?_;rw[List.getElem?_map,Array.getElem?_toList,R] at J;cases J;exact I' w
 ·exact I' _
theorem kv {S:al} {B:aH} {σ:List Row} {env:Φ} {t:Array Value} (h:cY S B σ env t) (o:Operand):ah S B σ (aG env o) (a8 t o):=by
 cases o with
 | tmp n=>exact h n
 | const v=>exact ob v
 | global g=>exact .ca _
 | func f=>exact .fn #[] #[] rfl rfl (λi a v hi=>by simp at hi) (λi a v hi=>by simp at hi)
inductive cO where
 | ok (a:ζ) (σ:List Row)
 | bT (p:Prop) (r:cO)
 | all (n:Nat) (f:Nat->cO)
 | bad
def cO.holds (K:ζ->List Row->Prop):cO->Prop
 | .ok a σ=>K a σ
 | .bT p r=>p/\r.holds K
 | .all n f=>∀i,i<n->(f i).holds K
 | .bad=>False
def Ja:Next->Option Value
 | .value v=>some v
 | .skip=>some undef
 | _=>none
def h9:TypeDesc->Bool
 | .int _|.string|.bool=>true
 | _=>false
def Ep (P:Program) (t:TypeId):Option (List (TypeDesc×Nat))->Prop
 | none=>True
 | some items=>P.eqGuardType P.depth t=false/\items.map (·.2)=List.range items.length/\
  ((∃cP,P.underlying t=some (.struct cP)/\P.stoodInHeld t=false/\items=cP.toList.map (λf=>((P.underlying f.type).getD .invalid,f.offset))/\∀f∈cP.toList,f.name≠ "_" /\ ∃d,P.underlying f.type=some d/\h9 d=true)\/
   ∃n e d f,P.underlying t=some (.array n e)/\P.underlying e=some d/\h9 d=true/\P.info? e=some f/\f.size=1/\items=(List.range n).map λi=>(d,i))
structure hq where
 size:Nat
 bl:TypeDesc
 zero:Value
 bytes:Nat
 eqs:Option (List (TypeDesc×Nat))
def hq.agg (i:hq):Bool:=jO i.bl
abbrev aZ:=TypeId->Option hq
def bE (P:Program) (T:aZ):Prop:=∀t i,T t=some i->(P.underlying t=some i.bl/\Ep P t i.eqs)/\∃f,P.info? t=some f/\f.size=i.size/\f.zero=some i.zero/\f.bytes=i.bytes
def hO (S:al) (B:aH) (H:υ) (σ:List Row) (K:ζ->List Row->Prop) (v:Value) (H':υ):Prop:=
 ∃aj B' σ' a,K a σ'/\Ext S B H aj B' H'/\Holds aj B' σ' H'/\bQ S aj B B' σ σ'/\ah aj B' σ' a v
def cp (P:Program) (s:Sem Value) (S:al) (B:aH) (H:υ) (σ:List Row) (r:cO):Prop:=
 ∀K:ζ->List Row->Prop,r.holds K->π P s H (hO S B H σ K) (λ_ _=>False)
def Does (P:Program) (s:Sem Next) (S:al) (B:aH) (H:υ) (σ:List Row) (r:cO):Prop:=
 ∀K:ζ->List Row->Prop,r.holds K->π P s H (λfF H'=>∃v,Ja fF=some v/\hO S B H σ K v H') (λ_ _=>False)
section
variable {P:Program} {T:aZ} {S:al} {B:aH} {H:υ} {σ:List Row} {env:Φ} {t:Array Value}
theorem cp.next {s:Sem Value} {r:cO} (h:cp P s S B H σ r):Does P (do pure (.value (<-s))) S B H σ r:=λK I=>
 π.bind' (π.mono (λv G hb=>π.pure' ⟨v,rfl,hb⟩) (λ_ _ h=>h) _ (h K I))
theorem hO.same {K:ζ->List Row->Prop} {a:ζ} {v:Value} (ψ:Holds S B σ H) (I:K a σ) (κ:ah S B σ a v):hO S B H σ K v H:=⟨S,B,σ,a,I,.refl _ _ _,ψ,.refl _ _ _,κ⟩
theorem cp.pure {a:ζ} {v:Value} (ψ:Holds S B σ H) (κ:ah S B σ a v):cp P (pure v) S B H σ (.ok a σ):=λK I=>
 π.pure' (.same ψ I κ)
theorem cp.bad {s:Sem Value}:cp P s S B H σ .bad:=λK I=>I.elim
theorem cp.bT {s:Sem Value} {p:Prop} {r:cO} (h:p->cp P s S B H σ r):cp P s S B H σ (.bT p r):=λK I=>h I.1 K I.2
theorem Does.val {a:ζ} {v:Value} (ψ:Holds S B σ H) (κ:ah S B σ a v):Does P (pure (.value v)) S B H σ (.ok a σ):=λK I=>
 π.pure' ⟨v,rfl,.same ψ I κ⟩
theorem Does.bad {s:Sem Next}:Does P s S B H σ .bad:=λK I=>I.elim
theorem bE.size (Ζ:bE P T) {ty:TypeId} {i:hq} (h:T ty=some i) {G:υ} {K:Nat->υ->Prop} {E:Value->υ->Prop} (Α:K i.size G):π P (sizeOf ty) G K E:=by
 obtain⟨_,f,J,R,_⟩:=Ζ ty i h;exact π.sizeOf J (by rw[R];exact Α)
theorem bE.bl (Ζ:bE P T) {ty:TypeId} {i:hq} (h:T ty=some i) {G:υ} {K:TypeDesc->υ->Prop} {E:Value->υ->Prop} (Α:K i.bl G):π P (underlying ty) G K E:=
 π.underlying (Ζ ty i h).1.1 Α
theorem bE.agg (Ζ:bE P T) {ty:TypeId} {i:hq} (h:T ty=some i) {G:υ} {K:Bool->υ->Prop} {E:Value->υ->Prop} (Α:K i.agg G):π P (isAgg ty) G K E:=
 π.isAgg (Ζ ty i h).1.1 Α
theorem bE.zero (Ζ:bE P T) {ty:TypeId} {i:hq} (h:T ty=some i) {G:υ} {K:Value->υ->Prop} {E:Value->υ->Prop} (Α:K i.zero G):π P (zeroValue ty) G K E:=by
 obtain⟨_,f,J,_,ς,_⟩:=Ζ ty i h;exact π.zeroValue J ς Α
theorem bE.info (Ζ:bE P T) {ty:TypeId} {i:hq} (h:T ty=some i) {G:υ} {K:TypeInfo->υ->Prop} {E:Value->υ->Prop} (Α:∀f:TypeInfo,f.bytes=i.bytes->K f G):π P (typeInfo ty) G K E:=by
 obtain⟨_,f,J,_,_,Κ⟩:=Ζ ty i h;exact π.typeInfo J (Α f Κ)
end
inductive cd where
 | ok (a:ζ)
 | bT (p:Prop) (r:cd)
 | bad
def cd.dd (σ:List Row):cd->cO
 | .ok a=>.ok a σ
 | .bT p r=>.bT p (r.dd σ)
 | .bad=>.bad
section
variable {P:Program} {T:aZ} {S:al} {B:aH} {H:υ} {σ:List Row} {env:Φ} {t:Array Value}
def ff (k:IntKind) (a b:Int):Int:=k.wrap (BitVec.ofInt k.bits a&&&BitVec.ofInt k.bits b).toNat
def u9 (k:IntKind) (a b:Int):Int:=k.wrap (BitVec.ofInt k.bits a|||BitVec.ofInt k.bits b).toNat
def Aq (k:IntKind) (a b:Int):Int:=k.wrap (BitVec.ofInt k.bits a^^^BitVec.ofInt k.bits b).toNat
def po (k:IntKind) (a b:Int):Int:=k.wrap (BitVec.ofInt k.bits a&&&~~~BitVec.ofInt k.bits b).toNat
def Ar (a b:ByteArray):Bool:=Op.bytesLess a.toList b.toList
def qE (a b:ByteArray):Bool:=Op.bytesLess a.toList b.toList||a.toList==b.toList
def qF (op:BinOp) (x y:Value):cd:=
 match op,x,y with
 | .shl,.int k a,.int _ b=>.bT (0<=b) (.ok (.z (.int k (k.wrap (a*2 ^ (min b.toNat k.bits))))))
 | .shr,.int k a,.int _ b=>.bT (0<=b) (.ok (.z (.int k (a.fdiv (2 ^ (min b.toNat k.bits))))))
 | .add,.int k a,.int Χ b=>if k=Χ then .ok (.z (.int k (k.wrap (a+b)))) else .bad
 | .sub,.int k a,.int Χ b=>if k=Χ then .ok (.z (.int k (k.wrap (a-b)))) else .bad
 | .mul,.int k a,.int Χ b=>if k=Χ then .ok (.z (.int k (k.wrap (a*b)))) else .bad
 | .quo,.int k a,.int Χ b=>if k=Χ then .bT (b≠0) (.ok (.z (.int k (k.wrap (a.tdiv b))))) else .bad
 | .rem,.int k a,.int Χ b=>if k=Χ then .bT (b≠0) (.ok (.z (.int k (a.tmod b)))) else .bad
 | .and,.int k a,.int Χ b=>if k=Χ then .ok (.z (.int k (ff k a b))) else .bad
 | .or,.int k a,.int Χ b=>if k=Χ then .ok (.z (.int k (u9 k a b))) else .bad
 | .xor,.int k a,.int Χ b=>if k=Χ then .ok (.z (.int k (Aq k a b))) else .bad
 | .andNot,.int k a,.int Χ b=>if k=Χ then .ok (.z (.int k (po k a b))) else .bad
 | .eql,.int k a,.int Χ b=>if k=Χ then .ok (.z (.bool (a==b))) else .bad
 | .neq,.int k a,.int Χ b=>if k=Χ then .ok (.z (.bool (a != b))) else .bad
 | .lss,.int k a,.int Χ b=>if k=Χ then .ok (.z (.bool (decide (a<b)))) else .bad
 | .leq,.int k a,.int Χ b=>if k=Χ then .ok (.z (.bool (decide (a<=b)))) else .bad
 | .gtr,.int k a,.int Χ b=>if k=Χ then .ok (.z (.bool (decide (a > b)))) else .bad
 | .geq,.int k a,.int Χ b=>if k=Χ then .ok (.z (.bool (decide (a>=b)))) else .bad
 | .add,.string a,.string b=>.bT (((a.size+b.size:Nat):Int)<=IntKind.i64.max) (.ok (.z (.string (a++b))))
 | .eql,.string a,.string b=>.ok (.z (.bool (a.toList==b.toList)))
 | .neq,.string a,.string b=>.ok (.z (.bool !(a.toList==b.toList)))
 | .lss,.string a,.string b=>.ok (.z (.bool (Ar a b)))
 | .leq,.string a,.string b=>.ok (.z (.bool (qE a b)))
 | .gtr,.string a,.string b=>.ok (.z (.bool (!(qE a b))))
 | .geq,.string a,.string b=>.ok (.z (.bool (!(Ar a b))))
 | _,_,_=>.bad
theorem Qp (ψ:Holds S B σ H) (op:BinOp) (ty:TypeId) (p q:Operand) (x y:Value):cp P (do eqGuard op ty p q x y;binOp op ty x y) S B H σ ((qF op x y).dd σ):=by
 unfold qF;split
 case h_25=>exact .bad
 case h_1=>
  refine .bT λh=>?_;have c0:¬(_:Int)<0:=Int.not_lt.2 h;simp only[eqGuard,binOp,Op.shift,c0,if_false];exact .pure ψ (.z _)
 case h_2=>
  refine .bT λh=>?_;have c0:¬(_:Int)<0:=Int.not_lt.2 h;simp only[eqGuard,binOp,Op.shift,c0,if_false];exact .pure ψ (.z _)
 case h_6=>
  split
  ·rename_i e;subst e;exact .bT λh=>by simp only[eqGuard,binOp,Op.intDiv,h,if_false,ne_eq,not_true_eq_false];exact .pure ψ (.z _)
  ·exact .bad
 case h_7=>
  split
  ·rename_i e;subst e;exact .bT λh=>by simp only[eqGuard,binOp,Op.intDiv,h,if_false,ne_eq,not_true_eq_false];exact .pure ψ (.z _)
  ·exact .bad
 case h_18=>
  refine .bT λh=>?_;have c0:¬((_:Int) > IntKind.i64.max):=Int.not_lt.2 h;simp only[eqGuard,binOp,Op.stringOp,c0,if_false];exact .pure ψ (.z _)
 all_goals first
  | exact .pure ψ (.z _)
  |(split
    ·rename_i e;subst e;simp only[eqGuard,binOp,Op.intArith,Op.intBits,Op.intCmp,ne_eq,not_true_eq_false,if_false];exact .pure ψ (.z _)
    ·exact .bad)
def u' (op:UnOp):ζ->cd
 | .z (.bool b)=>match op with|.not=>.ok (.z (.bool !b))|_=>.bad
 | .z (.int k n)=>match op with|.neg=>.ok (.z (.int k (k.wrap (0-n))))|_=>.bad
 | _=>.bad
theorem Qq (ψ:Holds S B σ H) (op:UnOp) {a:ζ} {v:Value} (κ:ah S B σ a v):cp P (Op.unary op v) S B H σ ((u' op a).dd σ):=by
 unfold u';split
 ·cases κ;split
  ·exact .pure ψ (.z _)
  ·exact .bad
 ·cases κ;split
  ·exact .pure ψ (.z _)
  ·exact .bad
 ·exact .bad
def As (i:Nat):ζ->cd
 | .bn l=>match l[i]? with|some a=>.ok a|none=>.bad
 | .z (.tuple vs)=>match vs[i]? with|some v=>.ok (gF v)|none=>.bad
 | _=>.bad
theorem Qr (ψ:Holds S B σ H) (i:Nat) {a:ζ} {v:Value} (κ:ah S B σ a v):cp P (Instr.extract v i) S B H σ ((As i a).dd σ):=by
 unfold As;split
 ·rename_i l;cases κ with
  | bn vs J R=>
   cases Β:l[i]? with
   | none=>exact .bad
   | some a=>
    have ar:i<vs.size:=by rw[<-J];exact(bU.1 Β).1
    have hv:vs[i]?=some vs[i]:=eM ar;simp only[Instr.extract,hv];exact .pure ψ (R i a _ Β hv)
 ·rename_i vs;cases κ;cases hv:vs[i]? with
  | none=>exact .bad
  | some v=>simp only[Instr.extract,hv];exact .pure ψ (ob v)
 ·exact .bad
def At (T:aZ) (ty:TypeId) (a:ζ):cd:=match T ty with
 | some i=>match i.bl with|.interface _=>.bad|_=>.ok (.fc ty a)
 | none=>.bad
theorem Qs (Ζ:bE P T) (ψ:Holds S B σ H) (ty:TypeId) {a:ζ} {v:Value} (κ:ah S B σ a v):cp P (Instr.makeInterface ty v) S B H σ ((At T ty a).dd σ):=by
 unfold At;cases hi:T ty with
 | none=>exact .bad
 | some i=>
  intro K I;unfold Instr.makeInterface;refine π.bind' (Ζ.bl hi ?_);cases hu:i.bl<;>simp only[hu,cd.dd,cO.holds] at I<;>first|exact I.elim|exact π.pure' (.same ψ I (.fc v κ))
def th (T:aZ) (ty:TypeId) (ok:Bool) (a:ζ):cd:=match T ty with
 | some i=>match i.bl with
  | .interface _=>.bad
  | _=>match a with
   | .fc t x=>if t=ty then .ok (if ok then .bn [x,.z (.bool true)] else x) else if ok then .ok (.bn [gF i.zero,.z (.bool false)]) else .bad
   | .z .nilIface=>if ok then .ok (.bn [gF i.zero,.z (.bool false)]) else .bad
   | _=>.bad
 | none=>.bad
theorem va {a b:ζ} {v w:Value} (h:ah S B σ a v) (k:ah S B σ b w):ah S B σ (.bn [a,b]) (.tuple #[v,w]):=by
 refine .bn _ rfl λi b6 eN J R=>?_
 match i with
 | 0=>simp at J R;subst J;subst R;exact h
 | 1=>simp at J R;subst J;subst R;exact k
 | i+2=>simp at J
theorem Qt (Ζ:bE P T) (ψ:Holds S B σ H) (Qu ty:TypeId) (ok:Bool) {a:ζ} {v:Value} (κ:ah S B σ a v):cp P (Instr.typeAssert v Qu ty ok) S B H σ ((th T ty ok a).dd σ):=by
 unfold th;cases hi:T ty with
 | none=>exact .bad
 | some i=>
  simp only;by_cases aY:∃w,i.bl=.interface w
  ·obtain⟨w,hw⟩:=aY;rw[hw];exact .bad
  have e:∀r:cd,(match i.bl with|.interface _=>cd.bad|_=>r)=r:=λr=>by
   cases hu:i.bl<;>first|rfl|exact absurd ⟨_,hu⟩ aY
  rw[e];clear e;split
  ·rename_i t x;cases κ with
   | fc w U=>
    split
    ·rename_i e;subst e;intro K I;unfold Instr.typeAssert;refine π.bind' (Ζ.bl hi ?_);generalize i.bl=d at aY ⊢;cases d<;>first
      | exact absurd ⟨_,rfl⟩ aY
      |(simp only[if_true]
        cases ok
        ·exact π.pure' (.same ψ I U)
        ·exact π.pure' (.same ψ I (va U (.z _))))
    ·rename_i bd;split
     ·rename_i dx;subst dx;intro K I;unfold Instr.typeAssert;refine π.bind' (Ζ.bl hi ?_);generalize i.bl=d at aY ⊢;cases d<;>first
       | exact absurd ⟨_,rfl⟩ aY
       |(simp only[bd,if_false,if_true]
         exact π.bind' (Ζ.zero hi (π.pure' (.same ψ I (va (ob _) (.z _))))))
     ·exact .bad
  ·cases κ;split
   ·rename_i dx;subst dx;intro K I;unfold Instr.typeAssert;refine π.bind' (Ζ.bl hi ?_);generalize i.bl=d at aY ⊢;cases d<;>first
     | exact absurd ⟨_,rfl⟩ aY
     |(simp only[if_true]
       exact π.bind' (Ζ.zero hi (π.pure' (.same ψ I (va (ob _) (.z _))))))
   ·exact .bad
  ·exact .bad
end
section
variable {P:Program} {T:aZ} {S:al} {B:aH} {H:υ} {σ:List Row}
def rO (i:hq) (l:List ζ):cd:=
 if i.agg then(if i.size<=l.length then .ok (.aR (l.take i.size)) else .bad)
 else match l with
  | a::_=>.ok a
  | []=>.bad
def Au (T:aZ) (ty:TypeId):ζ->cd
 | .Ω cells=>match T ty with|some i=>rO i cells|none=>.bad
 | _=>.bad
def ti (T:aZ) (ty:TypeId) (σ:List Row):ζ->cO
 | .ae id n i j=>match T ty,σ[id]? with
  | some jL,some (.cells _ _ l)=>if l.length=n then match l[i]? with
   | some e=>(rO jL (e.cells.drop j)).dd σ
   | none=>.bad else .bad
  | _,_=>.bad
 | _=>.bad
theorem Av (Ζ:bE P T) (ψ:Holds S B σ H) {ty:TypeId} {i:hq} (hi:T ty=some i) {b o:Nat} {l:List ζ} (w:Nat->Value) (η:∀(j:Nat) (a:ζ),l[j]?=some a->∃p,H.av b (o+j)=some (w j,p)) (ι:∀(j:Nat) (a:ζ),l[j]?=some a->ah S B σ a (w j)) :
  cp P (loadVar ty ⟨b,o,none⟩) S B H σ ((rO i l).dd σ):=by
 intro K I;unfold rO at I;unfold loadVar;refine π.bind' (Ζ.agg hi ?_);cases xG:i.agg with
 | true=>
  rw[xG] at I;simp only[if_true] at I ⊢;split at I
  ·rename_i hle;refine π.bind' (Ζ.size hi (π.bind' (π.loadCells w rfl (λj γ=>?_) ?_)))
   ·have:l[j]?=some l[j]:=aX (by omega);exact η j _ this
   ·refine π.pure' (.same ψ I (.aR _ (by simp;omega) λj a v J R=>?_));have γ:j<i.size:=by have:=(bU.1 J).1;simp at this;omega
    rw[List.getElem?_take_of_lt γ] at J;simp[γ] at R;subst R;exact ι j a J
  ·exact I.elim
 | false=>
  rw[xG] at I;simp only[Bool.false_eq_true,if_false] at I ⊢;cases l with
  | nil=>exact I.elim
  | cons a l=>
   obtain⟨p,χ⟩:=η 0 a rfl;exact⟨rfl,rfl,w 0,p,χ,hO.same ψ I (ι 0 a rfl)⟩
theorem Qv (Ζ:bE P T) (ψ:Holds S B σ H) {ty:TypeId} {a:ζ} {v:Value} (κ:ah S B σ a v):cp P (Instr.loadAt ty v) S B H σ ((Au T ty a).dd σ):=by
 unfold Au;split
 ·rename_i cells;cases hi:T ty with
  | none=>exact .bad
  | some i=>
   cases κ with
   | Ω b o w J R=>exact Av Ζ ψ hi w (λj a γ=>ψ.cX _ _ _ (J j a γ)) R
 ·exact .bad
theorem Jb (ψ:Holds S B σ H) {id k i b N:Nat} {t:TypeId} {l:List ζ} {e:ζ} (Β:σ[id]?=some (.cells t k l)) (hb:B[id]?=some (some (b,N))) (he:l[i]?=some e) :
  e.cells.length=k/\∃w:Nat->Value,∀(j:Nat) (a:ζ),e.cells[j]?=some a->H.av b (i*k+j)=some (w j,true)/\ah S B σ a (w j)/\One (w j):=by
 obtain⟨_,_,_,w,hw⟩:=ψ.row id _ _ Β hb;exact⟨(hw i e he).1,w i,(hw i e he).2⟩
theorem Qw (Ζ:bE P T) (ψ:Holds S B σ H) {ty:TypeId} {a:ζ} {v:Value} (κ:ah S B σ a v):cp P (Instr.loadAt ty v) S B H σ (ti T ty σ a):=by
 unfold ti;split
 ·rename_i id n i j;split
  ·rename_i jL t k l hi Β;split
   ·rename_i Ι;cases he:l[i]? with
    | none=>exact .bad
    | some e=>
     cases κ with
     | ae J R ς=>
      rw[Β] at J;cases J;obtain⟨Α,w,hw⟩:=Jb ψ Β ς he;refine Av Ζ ψ hi (λx=>w (j+x)) (λx a U=>⟨true,?_⟩) (λx a U=>?_)
      ·rw[List.getElem?_drop] at U;rw[Nat.add_assoc];exact(hw _ a U).1
      ·rw[List.getElem?_drop] at U;exact(hw _ a U).2.1
     | iD v J R=>rw[Β] at J;cases J;simp only[Row.gn] at R;omega
   ·exact .bad
  ·exact .bad
 ·exact .bad
def fy (T:aZ) (ty:TypeId) (f:Nat):Option (Nat×TypeId):=match T ty with
 | some i=>match i.bl with
  | .struct cP=>match cP[f]? with
   | some x=>match T x.type with
    | some cH=>if cH.size=0 then none else some (x.offset,x.type)
    | none=>none
   | none=>none
  | _=>none
 | none=>none
def Aw (T:aZ) (ty:TypeId) (f:Nat):ζ->cd
 | .Ω cells=>match fy T ty f with|some (o,_)=>.ok (.Ω (cells.drop o))|none=>.bad
 | .z (.pointer (some ⟨b,o',none⟩))=>match fy T ty f with|some (o,_)=>.ok (.z (.pointer (some ⟨b,o'+o,none⟩)))|none=>.bad
 | _=>.bad
def tj (T:aZ) (ty:TypeId) (f:Nat) (σ:List Row):ζ->cO
 | .ae id n i j=>match fy T ty f,σ[id]? with
  | some (o,_),some (.cells _ _ l)=>if l.length=n then .ok (.ae id n i (j+o)) σ else .bad
  | _,_=>.bad
 | _=>.bad
theorem rP (b o n:Nat):(⟨b,o,none⟩:Addr).add n=⟨b,o+n,none⟩:=by
 unfold Addr.add;split
 ·simp_all
 ·rfl
theorem Jc {cells:List ζ} {b o:Nat} (h:ah S B σ (.Ω cells) (.pointer (some ⟨b,o,none⟩))) (n:Nat):ah S B σ (.Ω (cells.drop n)) (.pointer (some ⟨b,o+n,none⟩)):=by
 cases h with
 | Ω b o w J R=>
  refine .Ω b (o+n) (λj=>w (n+j)) (λj a γ=>?_) (λj a γ=>?_)
  ·rw[List.getElem?_drop] at γ;rw[Nat.add_assoc];exact J _ a γ
  ·rw[List.getElem?_drop] at γ;exact R _ a γ
theorem Er (Ζ:bE P T) {ty:TypeId} {f o:Nat} {xH:TypeId} (ab:fy T ty f=some (o,xH)) {b o':Nat} {K:Value->υ->Prop} {E:Value->υ->Prop} (h:K (.pointer (some ⟨b,o'+o,none⟩)) H) :
  π P (Instr.fieldAt ty (.pointer (some ⟨b,o',none⟩)) f) H K E:=by
 unfold fy at ab;split at ab<;>try cases ab
 rename_i i hi;split at ab<;>try cases ab
 rename_i cP hu;split at ab<;>try cases ab
 rename_i x U;split at ab<;>try cases ab
 rename_i cH qG;split at ab<;>try cases ab
 rename_i jq;unfold Instr.fieldAt;refine π.bind' (Ζ.bl hi ?_);rw[hu];simp only[U];refine π.bind' ?_;unfold fieldPlace;refine π.bind' (π.bind' (Ζ.size qG ?_));rw[if_neg jq,rP];exact π.pure' (π.pure' h)
theorem Qx (Ζ:bE P T) (ψ:Holds S B σ H) {ty:TypeId} {f:Nat} {a:ζ} {v:Value} (κ:ah S B σ a v):cp P (Instr.fieldAt ty v f) S B H σ ((Aw T ty f a).dd σ):=by
 unfold Aw;split
 ·rename_i cells;cases ab:fy T ty f with
  | none=>exact .bad
  | some x=>
   obtain⟨o,xH⟩:=x;cases κ with
   | Ω b o' w J R=>exact λK I=>Er Ζ ab (hO.same ψ I (Jc (.Ω b o' w J R) o))
 ·rename_i b o';cases ab:fy T ty f with
  | none=>exact .bad
  | some x=>
   obtain⟨o,xH⟩:=x;cases κ;exact λK I=>Er Ζ ab (hO.same ψ I (.z _))
 ·exact .bad
theorem Qy (Ζ:bE P T) (ψ:Holds S B σ H) {ty:TypeId} {f:Nat} {a:ζ} {v:Value} (κ:ah S B σ a v):cp P (Instr.fieldAt ty v f) S B H σ (tj T ty f σ a):=by
 unfold tj;split
 ·rename_i id n i j;split
  ·rename_i o xH t k l ab Β;split
   ·rename_i Ι;cases κ with
    | ae J R ς=>
     rw[Β] at J;cases J;refine λK I=>Er Ζ ab (hO.same ψ I ?_);rw[Nat.add_assoc];exact .ae Β Ι ς
    | iD v J R=>rw[Β] at J;cases J;simp only[Row.gn] at R;omega
   ·exact .bad
  ·exact .bad
 ·exact .bad
theorem pq {ex:Bool} {k:Nat} {l:List ζ} {v:Value} (h:ah S B σ (.sl ex k l) v):∃base cap,v=.slice base l.length cap/\l.length<=cap/\(ex=true->cap=l.length)/\(l≠[]->∃(b o:Nat) (w:Nat->Nat->Value),base=some ⟨b,o,none⟩/\(∀(i:Nat) (e:ζ),l[i]?=some e->e.cells.length=k)/\
  (∀(i:Nat) (e:ζ),l[i]?=some e->∀(j:Nat) (c:ζ),e.cells[j]?=some c->S b (o+i*k+j)=some (w i j))/\(∀(i:Nat) (e:ζ),l[i]?=some e->∀(j:Nat) (c:ζ),e.cells[j]?=some c->ah S B σ c (w i j))):=by
 cases h with
 | hN base cap h=>exact⟨base,cap,rfl,Nat.zero_le _,h,λx=>absurd rfl x⟩
 | sl b o cap w J R ς Κ aF=>exact⟨_,cap,rfl,R,J,λ_=>⟨b,o,w,rfl,ς,Κ,aF⟩⟩
theorem Qz {ex:Bool} {k:Nat} {l:List ζ} {base:Option Addr} {len cap i:Nat} {e:ζ} (h:ah S B σ (.sl ex k l) (.slice base len cap)) (he:l[i]?=some e):∃b o,base=some ⟨b,o,none⟩/\ah S B σ (.Ω e.cells) (.pointer (some ⟨b,o+i*k,none⟩)):=by
 obtain⟨QA,Es,hv,_,_,J⟩:=pq h;cases hv;obtain⟨b,o,w,rfl,R,ς,Κ⟩:=J (by rintro rfl;simp at he);exact⟨b,o,rfl,.Ω b (o+i*k) (w i) (ς i e he) (Κ i e he)⟩
def g1 (T:aZ) (ty:TypeId):Option (TypeId×Nat×Option Nat):=match T ty with
 | some i=>match i.bl with
  | .slice e=>match T e with|some bL=>some (e,bL.size,none)|none=>none
  | .array n e=>match T e with|some bL=>some (e,bL.size,some n)|none=>none
  | _=>none
 | none=>none
theorem Ax {ty e:TypeId} {k:Nat} (h:g1 T ty=some (e,k,none)):∃i bL,T ty=some i/\i.bl=.slice e/\T e=some bL/\bL.size=k:=by
 unfold g1 at h;split at h
 ·rename_i i hi;split at h
  ·rename_i aA hu;split at h
   ·rename_i bL he;cases h;exact⟨i,bL,hi,hu,he,rfl⟩
   ·cases h
  ·split at h<;>cases h
  ·cases h
 ·cases h
theorem QB {ty e:TypeId} {k n:Nat} (h:g1 T ty=some (e,k,some n)):∃i bL,T ty=some i/\i.bl=.array n e/\T e=some bL/\bL.size=k:=by
 unfold g1 at h;split at h
 ·rename_i i hi;split at h
  ·split at h<;>cases h
  ·rename_i aA hZ hu;split at h
   ·rename_i bL he;cases h;exact⟨i,bL,hi,hu,he,rfl⟩
   ·cases h
  ·cases h
 ·cases h
def Ay (T:aZ) (ty:TypeId) (a cH:ζ):cd:=
 match g1 T ty,cH with
 | some (_,oc,none),.z (.int _ n)=>match a with
  | .sl _ k l=>if k=oc then .bT (0<=n/\n<l.length) (.ok (.Ω (l.getD n.toNat .ca).cells)) else .bad
  | _=>.bad
 | some (_,oc,some m),.z (.int _ n)=>match a with
  | .Ω cells=>.bT (0<=n/\n<m) (.ok (.Ω (cells.drop (n.toNat*oc))))
  | _=>.bad
 | _,_=>.bad
def tk (T:aZ) (ty:TypeId) (σ:List Row) (a cH:ζ):cO:=
 match g1 T ty,cH with
 | some (_,oc,none),.z (.int _ n)=>match a with
  | .ms id m i len=>match σ[id]? with
   | some (.cells _ k l)=>if k=oc/\l.length=m then .bT (0<=n/\n<len) (.ok (.ae id m (i+n.toNat) 0) σ) else .bad
   | _=>.bad
  | _=>.bad
 | some (_,oc,some len),.z (.int _ n)=>match a with
  | .ae id m i j=>match σ[id]? with
   | some (.cells _ _ l)=>if l.length=m then .bT (0<=n/\n<len) (.ok (.ae id m i (j+n.toNat*oc)) σ) else .bad
   | _=>.bad
  | _=>.bad
 | _,_=>.bad
theorem Jd (Ζ:bE P T) {ty e:TypeId} {k:Nat} (he:g1 T ty=some (e,k,none)) {b o len cap:Nat} {kk:IntKind} {n:Int} (Ι:0<=n/\n<len) {K:Value->υ->Prop} {E:Value->υ->Prop}
  (h:K (.pointer (some ⟨b,o+n.toNat*k,none⟩)) H):π P (Instr.indexAt ty (.slice (some ⟨b,o,none⟩) len cap) (.int kk n)) H K E:=by
 obtain⟨i,bL,hi,hu,Et,rfl⟩:=Ax he;unfold Instr.indexAt;refine π.bind' ?_;refine π.bind' (Ζ.bl hi ?_);rw[hu];refine π.bind' (π.pure' ?_);refine π.bind' (Ζ.bl hi ?_);rw[hu];simp only[Ι,and_self,if_true];refine π.bind' (Ζ.size Et ?_);rw[rP];exact h
theorem Je (Ζ:bE P T) {ty e:TypeId} {k m:Nat} (he:g1 T ty=some (e,k,some m)) {b o:Nat} {kk:IntKind} {n:Int} (Ι:0<=n/\n<m) {K:Value->υ->Prop} {E:Value->υ->Prop}
  (h:K (.pointer (some ⟨b,o+n.toNat*k,none⟩)) H):π P (Instr.indexAt ty (.pointer (some ⟨b,o,none⟩)) (.int kk n)) H K E:=by
 obtain⟨i,bL,hi,hu,Et,rfl⟩:=QB he;unfold Instr.indexAt;refine π.bind' ?_;refine π.bind' (Ζ.bl hi ?_);rw[hu];refine π.bind' (π.bind' (π.pure' ?_));refine π.bind' (Ζ.bl hi ?_);rw[hu];simp only[Ι,and_self,if_true];refine π.bind' (Ζ.size Et ?_);rw[rP];exact h
theorem QC (Ζ:bE P T) (ψ:Holds S B σ H) {ty:TypeId} {a cH:ζ} {v w:Value} (κ:ah S B σ a v) (U:ah S B σ cH w):cp P (Instr.indexAt ty v w) S B H σ ((Ay T ty a cH).dd σ):=by
 unfold Ay;split
 ·rename_i e oc kk n he;cases U;split
  ·rename_i ex k l;split
   ·rename_i Α;subst Α;refine .bT λΙ=>?_;obtain⟨base,cap,rfl,_⟩:=pq κ;have ar:n.toNat<l.length:=by omega
    have l3:l[n.toNat]?=some l[n.toNat]:=aX ar;obtain⟨b,o,rfl,ι⟩:=Qz κ l3;refine λK I=>Jd Ζ he Ι (hO.same ψ I ?_);rw[List.getD_eq_getElem?_getD,l3];exact ι
   ·exact .bad
  ·exact .bad
 ·rename_i e oc m kk n he;cases U;split
  ·rename_i cells;refine .bT λΙ=>?_;cases κ with
   | Ω b o w J R=>exact λK I=>Je Ζ he Ι (hO.same ψ I (Jc (.Ω b o w J R) _))
  ·exact .bad
 ·exact .bad
theorem QD (Ζ:bE P T) (ψ:Holds S B σ H) {ty:TypeId} {a cH:ζ} {v w:Value} (κ:ah S B σ a v) (U:ah S B σ cH w):cp P (Instr.indexAt ty v w) S B H σ (tk T ty σ a cH):=by
 unfold tk;split
 ·rename_i e oc kk n he;cases U;split
  ·rename_i id m i len;split
   ·rename_i t k l Β;split
    ·rename_i Α;obtain⟨rfl,hm⟩:=Α;refine .bT λΙ=>?_;cases κ with
     | ms cap J R ς Κ aF aV=>
      rw[Β] at J;cases J;rcases aV with aV|⟨b,N,rfl,rfl,aV⟩
      ·omega
      ·refine λK I=>Jd Ζ he Ι (hO.same ψ I ?_);have:i*k+n.toNat*k=(i+n.toNat)*k+0:=by rw[Nat.add_mul];rfl
       rw[this];exact .ae Β hm ς
     | h8 v J R=>rw[Β] at J;cases J;simp only[Row.gn] at R;omega
    ·exact .bad
   ·exact .bad
  ·exact .bad
 ·rename_i e oc len kk n he;cases U;split
  ·rename_i id m i j;split
   ·rename_i t k l Β;split
    ·rename_i hm;refine .bT λΙ=>?_;cases κ with
     | ae J R ς=>
      rw[Β] at J;cases J;refine λK I=>Je Ζ he Ι (hO.same ψ I ?_);rw[Nat.add_assoc];exact .ae Β hm ς
     | iD v J R=>rw[Β] at J;cases J;simp only[Row.gn] at R;omega
    ·exact .bad
   ·exact .bad
  ·exact .bad
 ·exact .bad
end
def ζ.aU (σ:List Row):ζ->Bool
 | .z v=>match v with|.agg _|.tuple _=>false|_=>true
 | .aR _|.bn _|.ca=>false
 | .ae id n _ _|.ms id n _ _=>match σ[id]? with|some (.cells _ _ l)=>decide (l.length<=n)|_=>false
 | .mp id=>match σ[id]? with|some (.map _)=>true|_=>false
 | .it id=>match σ[id]? with|some (.iter ..)=>true|_=>false
 | _=>true
def ζ.qH:ζ->Nat->List ζ->ζ
 | .aR l,j,cs=>.aR (l.take j++cs++l.drop (j+cs.length))
 | _,0,[c]=>c
 | e,_,_=>e
theorem ζ.Eu {σ:List Row} {a:ζ} (h:a.aU σ=true):a.cells=[a]:=by
 cases a<;>first|rfl|cases h
theorem ζ.Jf {σ:List Row} {e:ζ} {j:Nat} {cs:List ζ} (hle:j+cs.length<=e.cells.length) (dx:∀c∈cs,ζ.aU σ c=true):(e.qH j cs).cells=e.cells.take j++cs++e.cells.drop (j+cs.length):=by
 by_cases he:∃l,e=.aR l
 ·obtain⟨l,rfl⟩:=he;rfl
 ·have J:e.cells=[e]:=by cases e<;>first|rfl|exact absurd ⟨_,rfl⟩ he
  rw[J] at hle ⊢;cases cs with
  | nil=>
   have:e.qH j []=e:=by cases e<;>cases j<;>first|rfl|exact absurd ⟨_,rfl⟩ he
   rw[this,J]
   match j with
   | 0=>rfl
   | j+1=>simp
  | cons c cs=>
   simp at hle;have γ:j=0:=by omega
   have hr:cs=[]:=by cases cs<;>simp at hle ⊢;omega
   subst γ;subst hr;have:e.qH 0 [c]=c:=by cases e<;>first|rfl|exact absurd ⟨_,rfl⟩ he
   rw[this,ζ.Eu (dx c (by simp))];simp
section
variable {P:Program} {T:aZ} {S:al} {B:aH} {H:υ} {σ:List Row}
theorem ah.xI {a:ζ} {v:Value} (h:ah S B σ a v) (ω:a.aU σ=true):One v:=by
 cases h with
 | z v=>cases v<;>first|trivial|cases ω
 | iD v J R=>
  simp only[ζ.aU,J] at ω;split at ω
  ·rename_i e;cases e;simp only[Row.gn] at R;simp at ω;omega
  ·cases ω
 | h8 v J R=>
  simp only[ζ.aU,J] at ω;split at ω
  ·rename_i e;cases e;simp only[Row.gn] at R;simp at ω;omega
  ·cases ω
 | ku v J=>simp[ζ.aU,J] at ω
 | lY v J=>simp[ζ.aU,J] at ω
 | aR|bn|ca=>cases ω
 | _=>trivial
theorem One.cells {v:Value} (h:One v):v.cells=#[v]:=by cases v<;>first|rfl|exact h.elim
theorem ah.cells {a:ζ} {v:Value} (h:ah S B σ a v) (κ:a.cells.all (ζ.aU σ)=true):v.cells.size=a.cells.length/\∀(j:Nat) (c:ζ),a.cells[j]?=some c->∃x,v.cells[j]?=some x/\ah S B σ c x/\One x:=by
 have single:a.cells=[a]->v.cells.size=a.cells.length/\∀(j:Nat) (c:ζ),a.cells[j]?=some c->∃x,v.cells[j]?=some x/\ah S B σ c x/\One x:=λe=>by
  rw[e] at κ ⊢;simp at κ;have ω:=h.xI κ;rw[ω.cells];refine⟨rfl,λj c γ=>?_⟩
  match j with
  | 0=>simp at γ;subst γ;exact⟨v,rfl,h,ω⟩
  | j+1=>simp at γ
 cases h with
 | aR vs J R=>
  refine⟨J.symm,λj c γ=>?_⟩;have ar:j<vs.size:=by rw[<-J];exact(bU.1 γ).1
  have hv:vs[j]?=some vs[j]:=eM ar
  have ι:=R j c _ γ hv;exact⟨_,hv,ι,ι.xI (List.all_eq_true.1 κ c (cf γ))⟩
 | _=>exact single rfl
theorem Az (ψ:Holds S B σ H) {id k:Nat} {t:TypeId} {l:List ζ} (h:σ[id]?=some (.cells t k l)):∀(j:Nat) left cur,σ[j]?≠some (Row.iter id left cur):=λj left cur γ=>by
 obtain⟨bo,hb⟩:=I9 ψ γ;obtain⟨_,_,_,_,_,_,_,_,_,⟨es,R⟩,_⟩:=ψ.row j _ bo γ hb;rw[h] at R;cases R
theorem Jg {i eg k bp lo hi:Nat} (γ:bp<k) (ns:hi<=k) (h:eg≠i):¬(i*k+lo<=eg*k+bp/\eg*k+bp<i*k+hi):=by
 rintro⟨J,R⟩;rcases Nat.lt_or_gt_of_ne h with h|h
 ·have:(eg+1)*k<=i*k:=Nat.mul_le_mul_right k h;rw[Nat.add_mul] at this;omega
 ·have:(i+1)*k<=eg*k:=Nat.mul_le_mul_right k h;rw[Nat.add_mul] at this;omega
def vb (P:Program) (s:Sem Unit) (S:al) (B:aH) (H:υ) (σ:List Row) (r:cO):Prop:=
 ∀K:ζ->List Row->Prop,r.holds K->π P s H (λ_ H'=>hO S B H σ K undef H') (λ_ _=>False)
theorem vb.next {s:Sem Unit} {r:cO} (h:vb P s S B H σ r):Does P (do s;pure .skip) S B H σ r:=λK I=>
 π.bind' (π.mono (λ_ G hb=>π.pure' ⟨undef,rfl,hb⟩) (λ_ _ h=>h) _ (h K I))
theorem vb.bad {s:Sem Unit}:vb P s S B H σ .bad:=λK I=>I.elim
theorem QE (ψ:Holds S B σ H) {id k i j b N:Nat} {t:TypeId} {l:List ζ} {e a:ζ} {v:Value} (Β:σ[id]?=some (.cells t k l)) (hb:B[id]?=some (some (b,N))) (he:l[i]?=some e) (κ:ah S B σ a v) (dx:a.cells.all (ζ.aU σ)=true)
  (γ:j+a.cells.length<=k) :
  (∀x∈v.cells.toList,One x)/\(∀x,x<a.cells.length->H.owns b (i*k+j+x))/\H.row b=some (t,N)/\
  (let σ':=σ.set id (.cells t k (l.set i (e.qH j a.cells)));Holds S (B.set id (some (b,N))) σ' (H.gD b (i*k+j) v.cells.toList)/\Ext S B H S (B.set id (some (b,N))) (H.gD b (i*k+j) v.cells.toList)/\bQ S S B (B.set id (some (b,N))) σ σ'):=by
 obtain⟨b2,hr⟩:=κ.cells dx;have hlen:v.cells.toList.length=a.cells.length:=by simpa using b2
 obtain⟨bA,b8,fp,w,hw⟩:=ψ.row id _ _ Β hb;have hP:i<l.length:=(bU.1 he).1;have Jh:(i+1)*k<=N:=Nat.le_trans (Nat.mul_le_mul_right k hP) b8;have aΦ:i*k+k<=N:=by rw[Nat.add_mul] at Jh;omega
 have Ev:=(hw i e he).1
 have Ew:∀c∈a.cells,ζ.aU σ c=true:=List.all_eq_true.1 dx
 have bF:=ζ.Jf (σ:=σ) (e:=e) (j:=j) (cs:=a.cells) (by rw[Ev];exact γ) Ew;refine⟨λx U=>?_,λx U=>?_,bA,?_⟩
 ·obtain⟨y,ad⟩:=List.getElem?_of_mem U;have ar:y<a.cells.length:=by rw[<-hlen];exact(bU.1 ad).1
  obtain⟨cT,J,_,R⟩:=hr y _ (aX ar);rw[Array.getElem?_toList] at ad;rw[ad] at J;cases J;exact R
 ·obtain⟨u,hu⟩:=fp (i*k+j+x) (by omega);exact⟨u,hu⟩
 ·refine ψ.u7 (r':=.cells t k (l.set i (e.qH j a.cells))) (bo':=some (b,N)) Β trivial hb (.inl ⟨_,rfl,by simp,rfl⟩) (λΡ ey aA=>.inl ⟨ey,aA⟩) (λΡ J _=>?_) υ.Eo (Az ψ Β) (λjG=>?_)
  ·have bd:Ρ≠b:=λaA=>by subst aA;exact J N rfl
   exact⟨λo=>by simp[υ.gD,bd],rfl,rfl⟩
  ·refine⟨bA,by simpa using b8,λo ω=>?_,λeg bp=>if eg=i/\j<=bp/\bp<j+a.cells.length then(v.cells[bp-j]?).getD undef else w eg bp,λeg aA dj=>?_⟩
   ·simp only[υ.gD];split
    ·exact⟨_,rfl⟩
    ·exact fp o ω
   ·by_cases rQ:eg=i
    ·subst rQ;rw[List.getElem?_set_self hP] at dj;cases dj;rw[bF];refine⟨by simp;omega,λbp c η=>?_⟩;by_cases aY:j<=bp/\bp<j+a.cells.length
     ·have a6:a.cells[bp-j]?=some c:=by
       rw[List.append_assoc,ha (by simp;omega)] at η;simp only[List.length_take] at η;rw[dW (by omega)] at η;have:bp-min j e.cells.length=bp-j:=by omega
       rw[this] at η;exact η
      obtain⟨x,J,R,ς⟩:=hr _ _ a6;simp only[aY,and_self,if_true,J,Option.getD_some];refine⟨?_,R.later jG,ς⟩;simp only[υ.gD,hlen];rw[if_pos ⟨trivial,by omega,by omega⟩];have:eg*k+bp-(eg*k+j)=bp-j:=by omega
      rw[this,Array.getElem?_toList,J];rfl
     ·have a6:e.cells[bp]?=some c:=by
       by_cases k':bp<j
       ·rw[List.append_assoc,dW (by simp;omega),List.getElem?_take_of_lt k'] at η;exact η
       ·rw[ha (by simp;omega)] at η;rw[List.getElem?_drop] at η;have:j+a.cells.length+(bp-(e.cells.take j++a.cells).length)=bp:=by simp;omega
        rw[this] at η;exact η
      simp only[aY,and_false,if_false];obtain⟨J,R,ς⟩:=(hw eg e he).2 bp c a6;refine⟨?_,R.later jG,ς⟩;simp only[υ.gD,hlen];rw[if_neg (λx=>aY ⟨by omega,by omega⟩)];exact J
    ·rw[List.getElem?_set_ne (Ne.symm rQ)] at dj;obtain⟨J,R⟩:=hw eg aA dj;refine⟨J,λbp c η=>?_⟩;obtain⟨ς,Κ,aF⟩:=R bp c η;have nu:bp<k:=by rw[<-J];exact(bU.1 η).1
     simp only[rQ,false_and,if_false];refine⟨?_,Κ.later jG,aF⟩;simp only[υ.gD,hlen];rw[if_neg (λx=>Jg (lo:=j) (hi:=j+a.cells.length) nu γ rQ ⟨x.2.1,by omega⟩)];exact ς
def AA (T:aZ) (ty:TypeId) (σ:List Row) (p a:ζ):cO:=match p with
 | .ae id n i j=>match T ty,σ[id]? with
  | some jL,some (.cells t k l)=>match l[i]? with
   | some e=>if l.length=n/\a.cells.length=jL.size/\j+jL.size<=k/\a.cells.all (ζ.aU σ)=true then .ok .ca (σ.set id (.cells t k (l.set i (e.qH j a.cells)))) else .bad
   | none=>.bad
  | _,_=>.bad
 | _=>.bad
theorem QF (Ζ:bE P T) (ψ:Holds S B σ H) {ty:TypeId} {p a:ζ} {u v:Value} (χ:ah S B σ p u) (κ:ah S B σ a v):vb P (Instr.storeAt ty u v) S B H σ (AA T ty σ p a):=by
 unfold AA;split
 ·rename_i id n i j;split
  ·rename_i jL t k l hi Β;split
   ·rename_i e he;split
    ·rename_i η;obtain⟨Ι,b2,nu,dx⟩:=η;cases χ with
     | ae J R ς=>
      rename_i b N;rw[Β] at J;cases J;intro K I;obtain⟨c1,c2,c3,c4⟩:=QE ψ Β ς he κ dx (by omega:j+a.cells.length<=k);obtain⟨Ex,_⟩:=κ.cells dx;refine π.bind' (π.pure' ?_);unfold storeVar;refine π.bind' (Ζ.size hi ?_);rw[if_neg (by omega)];refine π.storeCells (G:=H) rfl ⟨t,N,c3⟩ v.cells.toList 0 H c1 (λx _ U=>c2 x (by simp at U;omega)) rfl ?_;exact⟨S,_,_,.ca,I,c4.2.1,c4.1,c4.2.2,.ca _⟩
     | iD v J R=>rw[Β] at J;cases J;simp only[Row.gn] at R;omega
    ·exact .bad
   ·exact .bad
  ·exact .bad
 ·exact .bad
end
end Go.TL
