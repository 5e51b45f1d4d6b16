import Derived.Test.YtlabjopijpkiaaaGreatVAF
set_option maxHeartbeats 16000000
set_option maxRecDepth 20000
set_option linter.unusedSectionVars false
set_option linter.unusedSimpArgs false
set_option linter.unusedVariables false
namespace Go.TL
open Go.Conc
def si (S:aJ) (B:aV) (σ:List Row) (es:List (θ×θ)) (xs:Array MapEntry) (clock:Nat):Prop:=
 es.length=xs.size/\(∀(i:Nat) (e:θ×θ) (y:MapEntry),es[i]?=some e->xs[i]?=some y->ay S B σ e.1 y.key/\ay S B σ e.2 y.val/\y.born<clock)/\
 ∀(i j:Nat) (y z:MapEntry),xs[i]?=some y->xs[j]?=some z->i<j->y.born<z.born
def Cs (S:aJ) (B:aV) (σ:List Row) (left:List (θ×θ)) (cur:Option (θ×θ)) (xs:Array MapEntry) (clock:Nat) (seen:Array Nat):Prop:=
 (∃cJ:List MapEntry,cJ=xs.toList.filter (λe=>!seen.contains e.born)/\left.length=cJ.length/\∀(i:Nat) (e:θ×θ) (y:MapEntry),left[i]?=some e->cJ[i]?=some y->ay S B σ e.1 y.key/\ay S B σ e.2 y.val)/\
 (∀y∈xs,y.born<clock)/\
 ∀e,cur=some e->∃GB y,seen.back?=some GB/\xs.find? (·.born==GB)=some y/\ay S B σ e.1 y.key/\ay S B σ e.2 y.val
def jZ (S:aJ) (B:aV) (σ:List Row) (H:χ) (r:Row) (bo:Option (Nat×Nat)):Prop:=
 match r with
 | .cells t k l=>match bo with
  | none=>l=[]
  | some (b,N)=>H.row b=some (t,N)/\l.length*k<=N/\(∀o,o<N->∃w,H.aO b o=some (w,true))/\
   ∃w:Nat->Nat->Value,∀(i:Nat) (e:θ),l[i]?=some e->e.cells.length=k/\∀(j:Nat) (a:θ),e.cells[j]?=some a->H.aO b (i*k+j)=some (w i j,true)/\ay S B σ a (w i j)/\One (w i j)
 | .map es=>∃b N xs clock,bo=some (b,N)/\H.obj b=some (.map xs clock)/\si S B σ es xs clock
 | .iter m left cur=>∃b N aW k8 xs clock seen,bo=some (b,N)/\B[m]?=some (some (aW,k8))/\(∃es,σ[m]?=some (.map es))/\H.obj b=some (.mapIter (some aW) clock seen clock)/\H.obj aW=some (.map xs clock)/\Cs S B σ left cur xs clock seen
 | .dead=>True
def Row.live (r:Row):Prop:=match r with|.dead=>False|_=>True
structure Holds (S:aJ) (B:aV) (σ:List Row) (H:χ):Prop where
 dt:∀b o v,S b o=some v->∃p,H.aO b o=some (v,p)
 len:B.length=σ.length
 row:∀(id:Nat) (r:Row) (bo:Option (Nat×Nat)),σ[id]?=some r->B[id]?=some bo->jZ S B σ H r bo
 inj:∀(i j:Nat) (ez cg:Row) (b gU gV:Nat),i≠j->σ[i]?=some ez->σ[j]?=some cg->ez.live->cg.live->B[i]?=some (some (b,gU))->B[j]?=some (some (b,gV))->False
 sep:∀(id:Nat) (r:Row) (b N:Nat),σ[id]?=some r->r.live->B[id]?=some (some (b,N))->∀o,S b o=none
def aV.has (B:aV) (b:Nat):Prop:=∃N,some (b,N)∈B
def nv (fu:aJ) (ec H:χ) (b:Nat):Prop:=
 (∀o,H.aO b o=ec.aO b o\/∃v p,fu b o=some v/\ec.aO b o=some (v,p)/\H.aO b o=some (v,false))/\H.row b=ec.row b/\H.obj b=ec.obj b
theorem nv.of {fu:aJ} {ec H:χ} {b:Nat} (h:(∀o,H.aO b o=ec.aO b o)/\H.row b=ec.row b/\H.obj b=ec.obj b):nv fu ec H b:=⟨λo=>.inl (h.1 o),h.2⟩
structure Ext (fu:aJ) (eG:aV) (ec:χ) (S:aJ) (B:aV) (H:χ):Prop where
 dt:∀b o v,fu b o=some v->S b o=some v
 fV:∀b,¬eG.has b->¬ec.fresh b->nv fu ec H b
 blocks:∀b,B.has b->eG.has b\/ec.fresh b
 qZ:∀b o v,S b o=some v->fu b o=some v\/eG.has b\/ec.fresh b
 grow:∀b,H.fresh b->ec.fresh b
theorem Ext.refl (S:aJ) (B:aV) (H:χ):Ext S B H S B H:=⟨λ_ _ _ h=>h,λ_ _ _=>nv.of ⟨λ_=>rfl,rfl,rfl⟩,λ_ h=>.inl h,λ_ _ _ h=>.inl h,λ_ h=>h⟩
theorem Ext.trans {fu bN c9:aJ} {eG bT ff:aV} {ec H1 bR:χ} (h:Ext fu eG ec bN bT H1) (k:Ext bN bT H1 c9 ff bR):Ext fu eG ec c9 ff bR:=by
 refine⟨λb o v x=>k.dt b o v (h.dt b o v x),λb hb Υ=>?_,λb hb=>?_,λb o v hv=>?_,λb x=>h.grow b (k.grow b x)⟩
 ·have Δ:=h.fV b hb Υ
  have Ct:¬H1.fresh b:=λx=>Υ (h.grow b x)
  have k7:¬bT.has b:=λx=>(h.blocks b x).elim hb Υ
  have Γ:=k.fV b k7 Ct;refine⟨λo=>?_,Γ.2.1.trans Δ.2.1,Γ.2.2.trans Δ.2.2⟩;rcases Γ.1 o with x|⟨v,p,pN,ie,Cu⟩<;>rcases Δ.1 o with y|⟨u,q,oR,sj,GC⟩
  ·exact .inl (x.trans y)
  ·exact .inr ⟨u,q,oR,sj,x.trans GC⟩
  ·rcases h.qZ b o v pN with z|z|z
   ·exact .inr ⟨v,p,z,by rw[<-y];exact ie,Cu⟩
   ·exact absurd z hb
   ·exact absurd z Υ
  ·have e:=h.dt b o u oR
   have:v=u:=by rw[pN] at e;exact Option.some.inj e
   subst this;exact .inr ⟨v,q,oR,sj,Cu⟩
 ·rcases k.blocks b hb with x|x
  ·exact h.blocks b x
  ·exact .inr (h.grow b x)
 ·rcases k.qZ b o v hv with x|x|x
  ·exact h.qZ b o v x
  ·exact .inr (h.blocks b x)
  ·exact .inr (.inr (h.grow b x))
abbrev Ω:=List (Nat×θ)
def a9:Ω->Nat->θ
 | [],_=>.cH
 |(j,a)::r,i=>if j=i then a else a9 r i
def du (S:aJ) (B:aV) (σ:List Row) (env:Ω) (t:Array Value):Prop:=∀i,ay S B σ (a9 env i) (t.getD i undef)
theorem du.later {S aE:aJ} {B B':aV} {σ σ':List Row} {env:Ω} {t:Array Value} (h:du S B σ env t) (ο:b8 S aE B B' σ σ'):du aE B' σ' env t:=λi=>(h i).later ο
theorem du.put {S:aJ} {B:aV} {σ:List Row} {env:Ω} {t:Array Value} (h:du S B σ env t) {d:Nat} (hd:d<t.size) {a:θ} {v:Value} (κ:ay S B σ a v):du S B σ ((d,a)::env) (t.setIfInBounds d v):=by
 intro i;simp only[a9];split
 ·rename_i e;subst e;simpa[Array.getD_eq_getD_getElem?,hd] using κ
 ·rename_i e;have:=h i;rw[Array.getD_eq_getD_getElem?] at this ⊢
  rwa [Array.getElem?_setIfInBounds_ne e]
theorem LW {S:aJ} {B:aV} {σ:List Row} {H:χ} (Α:Holds S B σ H) {id:Nat} {r:Row} (h:σ[id]?=some r):∃bo,B[id]?=some bo:=by
 have:id<B.length:=by rw[Α.len];exact(cf.1 h).1
 exact⟨_,bg this⟩
def lW:TypeDesc->Bool
 | .struct _|.array _ _=>true
 | _=>false
section
variable {P:Program} {α β:Type} {G:χ} {E:Value->χ->Prop}
theorem π.mono {K K':α->χ->Prop} {E':Value->χ->Prop} (ζ:∀a G,K a G->K' a G) (dw:∀v G,E v G->E' v G) (s:Sem α):∀{G:χ},π P s G K E->π P s G K' E':=by
 induction s with
 | pure a=>intro G h;exact ζ _ _ h
 | load m a k Β=>intro G ⟨J,U,v,p,μ,Θ⟩;exact⟨J,U,v,p,μ,Β v Θ⟩
 | store m a v k Β=>intro G ⟨J,U,μ,Θ,av,ba⟩;exact⟨J,U,μ,Θ,av,Β ba⟩
 | new o k Β=>
  intro G h;cases o with
  | cells c t d'=>exact⟨h.1,λr ι=>Β r (h.2 r ι)⟩
  | _=>exact λr ι=>Β r (h r ι)
 | shape r k Β=>intro G ⟨t,n,J,U⟩;exact⟨t,n,J,Β _ U⟩
 | freeze a n k Β=>intro G h;exact h.elim
 | frozen a k Β=>intro G ⟨J,U⟩;exact⟨J,Β _ U⟩
 | getObj r k Β=>intro G ⟨o,J,U,μ⟩;exact⟨o,J,U,Β _ μ⟩
 | setObj r o k Β=>intro G ⟨J,U,μ,Θ⟩;exact⟨J,U,μ,Β Θ⟩
 | choose q k Β=>
  intro G h;simp only[π] at h ⊢;split
  ·rw[if_pos ‹_›] at h;exact Β _ h
  ·rw[if_neg ‹_›] at h;exact λn=>Β _ (h n)
 | sys c k Β=>intro G h;exact h.elim
 | program k Β=>intro G h;exact Β P h
 | mark m k Β=>intro G ⟨J,U⟩;exact⟨J,Β U⟩
 | halt x=>
  intro G h;cases x<;>first|exact h.elim|exact dw _ _ h
theorem π.bind {f:α->Sem β} {K:β->χ->Prop} (s:Sem α):∀{G:χ},π P s G (λa G'=>π P (f a) G' K E) E->π P (s.bind f) G K E:=by
 induction s with
 | pure a=>intro G h;exact h
 | load m a k Β=>intro G ⟨J,U,v,p,μ,Θ⟩;exact⟨J,U,v,p,μ,Β v Θ⟩
 | store m a v k Β=>intro G ⟨J,U,μ,Θ,av,ba⟩;exact⟨J,U,μ,Θ,av,Β ba⟩
 | new o k Β=>
  intro G h;cases o with
  | cells c t d'=>exact⟨h.1,λr ι=>Β r (h.2 r ι)⟩
  | _=>exact λr ι=>Β r (h r ι)
 | shape r k Β=>intro G ⟨t,n,J,U⟩;exact⟨t,n,J,Β _ U⟩
 | freeze a n k Β=>intro G h;exact h.elim
 | frozen a k Β=>intro G ⟨J,U⟩;exact⟨J,Β _ U⟩
 | getObj r k Β=>intro G ⟨o,J,U,μ⟩;exact⟨o,J,U,Β _ μ⟩
 | setObj r o k Β=>intro G ⟨J,U,μ,Θ⟩;exact⟨J,U,μ,Β Θ⟩
 | choose q k Β=>
  intro G h;simp only[π] at h;simp only[Sem.bind,π];split
  ·rw[if_pos ‹_›] at h;exact Β _ h
  ·rw[if_neg ‹_›] at h;exact λn=>Β _ (h n)
 | sys c k Β=>intro G h;exact h.elim
 | program k Β=>intro G h;exact Β P h
 | mark m k Β=>intro G ⟨J,U⟩;exact⟨J,Β U⟩
 | halt x=>
  intro G h;cases x<;>first|exact h.elim|exact h
theorem π.bind' {f:α->Sem β} {K:β->χ->Prop} {s:Sem α} (h:π P s G (λa G'=>π P (f a) G' K E) E):π P (s >>= f) G K E:=π.bind s h
theorem π.pure' {a:α} {K:α->χ->Prop} (h:K a G):π P (pure a) G K E:=h
theorem π.underlying {t:TypeId} {d:TypeDesc} {K:TypeDesc->χ->Prop} (hd:P.underlying t=some d) (h:K d G):π P (Go.underlying t) G K E:=by
 unfold Go.underlying;refine π.bind' ?_;show π P (match P.underlying t with|some d=>pure d|none=>_) G K E;rw[hd];exact h
theorem π.typeInfo {t:TypeId} {i:TypeInfo} {K:TypeInfo->χ->Prop} (hi:P.info? t=some i) (h:K i G):π P (Go.typeInfo t) G K E:=by
 unfold Go.typeInfo;refine π.bind' ?_;show π P (match P.info? t with|some i=>pure i|none=>_) G K E;have:P.info? t=some i:=hi;rw[this];exact h
theorem π.sizeOf {t:TypeId} {i:TypeInfo} {K:Nat->χ->Prop} (hi:P.info? t=some i) (h:K i.size G):π P (Go.sizeOf t) G K E:=by
 unfold Go.sizeOf;exact π.bind' (π.typeInfo hi (π.pure' h))
theorem π.isAgg {t:TypeId} {d:TypeDesc} {K:Bool->χ->Prop} (hd:P.underlying t=some d) (h:K (lW d) G):π P (Go.isAgg t) G K E:=by
 unfold Go.isAgg;refine π.bind' (π.underlying hd ?_);cases d<;>exact h
theorem π.zeroValue {t:TypeId} {i:TypeInfo} {v:Value} {K:Value->χ->Prop} (hi:P.info? t=some i) (Τ:i.zero=some v) (h:K v G):π P (Go.zeroValue t) G K E:=by
 unfold Go.zeroValue;refine π.bind' (π.typeInfo hi ?_);rw[Τ];exact h
theorem π.Tv {a:Addr} (w:Nat->Value) {K:Array Value->χ->Prop}:∀(n i:Nat) (acc:Array Value),a.spot=none->(∀j,i<=j->j<i+n->∃p,G.aO a.block (a.off+j)=some (w j,p))->K (acc++((List.range n).map λj=>w (i+j)).toArray) G->π P (loadCellsFrom a i n acc) G K E:=by
 intro n
 induction n with
 | zero=>intro i acc _ _ h;simp at h;exact h
 | succ n Β=>
  intro i acc κ δ h;unfold loadCellsFrom;refine π.bind' ?_;obtain⟨p,ψ⟩:=δ i (Nat.le_refl _) R;have Δ:(a.add i).spot=none:=by unfold Addr.add;split<;>simp[κ]
  have Γ:(a.add i).block=a.block:=by unfold Addr.add;split<;>rfl
  have a2:(a.add i).off=a.off+i:=by unfold Addr.add;split<;>simp_all
  refine⟨rfl,Δ,w i,p,by rw[Γ,a2];exact ψ,?_⟩;refine Β (i+1) (acc.push (w i)) κ (λj J U=>δ j R R) ?_;have:acc.push (w i)++((List.range n).map λj=>w (i+1+j)).toArray=acc++((List.range (n+1)).map λj=>w (i+j)).toArray:=by
   rw[List.range_succ_eq_map];apply Array.ext';simp[Function.comp_def,Nat.add_assoc,Nat.add_comm 1]
  rw[this];exact h
theorem π.loadCells {a:Addr} (w:Nat->Value) {n:Nat} {K:Array Value->χ->Prop} (κ:a.spot=none) (δ:∀j,j<n->∃p,G.aO a.block (a.off+j)=some (w j,p)) (h:K ((List.range n).map w).toArray G):π P (Go.loadCells a n) G K E:=by
 unfold Go.loadCells;exact π.Tv w n 0 #[] κ (λj _ ε=>δ j R) (by simpa using h)
def χ.hB (G:χ) (b o:Nat) (vs:List Value):χ:={G with aO:=λΨ o'=>if Ψ=b/\o<=o'/\o'<o+vs.length then some ((vs[o'-o]?).getD undef,true) else G.aO Ψ o'}
theorem χ.GD {H:χ} {b o:Nat} {vs:List Value}:∀r,(H.hB b o vs).fresh r->H.fresh r:=
 χ.Gu (λΨ o' h=>by
  simp only[χ.hB] at h;split at h
  ·cases h
  ·exact h) (λ_ h=>h) (λ_ h=>h)
theorem π.storeCells {a:Addr} {K:Unit->χ->Prop} (κ:a.spot=none) (bS:∃t n,G.row a.block=some (t,n)):∀(vs:List Value) (i:Nat) (G':χ),(∀v∈vs,One v)->(∀j,i<=j->j<i+vs.length->G'.owns a.block (a.off+j))->(G'.row=G.row)->K () (G'.hB a.block (a.off+i) vs)->π P (Go.storeCells a vs i) G' K E:=by
 intro vs
 induction vs with
 | nil=>
  intro i G' _ _ _ h;have:G'.hB a.block (a.off+i) []=G':=by
   unfold χ.hB;have:∀Ψ o',¬(Ψ=a.block/\a.off+i<=o'/\o'<a.off+i+([]:List Value).length):=λΨ o' h=>by simp at h;omega
   simp only[this,if_false]
  rw[this] at h;exact h
 | cons v vs Β=>
  intro i G' Cp gm ι h;unfold Go.storeCells;refine π.bind' ?_;have Δ:(a.add i).spot=none:=by unfold Addr.add;split<;>simp[κ]
  have Γ:(a.add i).block=a.block:=by unfold Addr.add;split<;>rfl
  have a2:(a.add i).off=a.off+i:=by unfold Addr.add;split<;>simp_all
  refine⟨rfl,Δ,by rw[Γ,a2];exact gm i (Nat.le_refl _) η,by rw[Γ,ι];exact bS,Cp v η,?_⟩;refine Β (i+1) _ (λv hv=>Cp v (by simp[hv])) (λj J U=>?_) ι ?_
  ·obtain⟨u,hu⟩:=gm j R (by simp;omega);refine⟨u,?_⟩;simp only[χ.vq,Γ,a2];rw[if_neg R];exact hu
  ·have:(G'.vq (a.add i) v).hB a.block (a.off+(i+1)) vs=G'.hB a.block (a.off+i) (v::vs):=by
    unfold χ.hB χ.vq;simp only[Γ,a2];congr 1
    funext Ψ o'
    by_cases hb:Ψ=a.block
    ·subst hb;by_cases J:o'=a.off+i
     ·subst J;rw[if_neg R,if_pos ⟨rfl,rfl⟩,if_pos ⟨rfl,R,η⟩];simp
     ·by_cases U:a.off+(i+1)<=o'/\o'<a.off+(i+1)+vs.length
      ·rw[if_pos ⟨rfl,U⟩,if_pos ⟨rfl,R,by simp;omega⟩];have:o'-(a.off+i)=(o'-(a.off+(i+1)))+1:=R;rw[this,List.getElem?_cons_succ]
      ·rw[if_neg (by intro x;exact U x.2),if_neg (by intro x;exact J x.2),if_neg (by intro x;simp at x;omega)]
    ·rw[if_neg (λx=>hb x.1),if_neg (λx=>hb x.1),if_neg (λx=>hb x.1)]
   rw[this];exact h
end
def kJ (H H':χ) (b:Nat):Prop:=(∀o,H'.aO b o=H.aO b o)/\H'.row b=H.row b/\H'.obj b=H.obj b
theorem nv.sk {fu:aJ} {ec H:χ} {b:Nat} (h:nv fu ec H b) (Ζ:∀o,fu b o=none):kJ ec H b:=
 ⟨λo=>(h.1 o).elim id λ⟨v,p,J,_⟩=>(by rw[Ζ o] at J;cases J),h.2⟩
section
variable {S aE:aJ} {B B':aV} {σ σ':List Row} {H H':χ}
theorem si.later (ο:b8 S aE B B' σ σ') {es:List (θ×θ)} {xs:Array MapEntry} {clock:Nat} (h:si S B σ es xs clock):si aE B' σ' es xs clock:=
 ⟨h.1,λi e y J U=>⟨(h.2.1 i e y J U).1.later ο,(h.2.1 i e y J U).2.1.later ο,(h.2.1 i e y J U).2.2⟩,h.2.2⟩
theorem Cs.later (ο:b8 S aE B B' σ σ') {left:List (θ×θ)} {cur:Option (θ×θ)} {xs:Array MapEntry} {clock:Nat} {seen:Array Nat} (h:Cs S B σ left cur xs clock seen):Cs aE B' σ' left cur xs clock seen:=by
 obtain⟨⟨cJ,J,U,μ⟩,Θ,av⟩:=h;refine⟨⟨cJ,J,U,λi e y a b=>⟨(μ i e y a b).1.later ο,(μ i e y a b).2.later ο⟩⟩,Θ,λe he=>?_⟩;obtain⟨st,y,a,b,c,d⟩:=av e he;exact⟨st,y,a,b,c.later ο,d.later ο⟩
theorem jZ.later (ο:b8 S aE B B' σ σ') {r:Row} {bo:Option (Nat×Nat)} (h:jZ S B σ H r bo) (κ:∀b N,bo=some (b,N)->kJ H H' b)
  (dA:∀m left cur,r=.iter m left cur->σ'[m]?=σ[m]?/\B'[m]?=B[m]?/\∀b N,B[m]?=some (some (b,N))->kJ H H' b):jZ aE B' σ' H' r bo:=by
 cases r with
 | cells t k l=>
  cases bo with
  | none=>exact h
  | some x=>
   obtain⟨b,N⟩:=x;obtain⟨a1,bd,_⟩:=κ b N rfl;obtain⟨J,U,μ,w,Θ⟩:=h;refine⟨by rw[bd];exact J,U,λo ω=>by rw[a1];exact μ o ω,w,λi e hi=>⟨(Θ i e hi).1,λj a ε=>?_⟩⟩;obtain⟨c1,c2,c3⟩:=(Θ i e hi).2 j a ε;exact⟨by rw[a1];exact c1,c2.later ο,c3⟩
 | map es=>
  obtain⟨b,N,xs,clock,rfl,J,U⟩:=h;exact⟨b,N,xs,clock,rfl,by rw[(κ b N rfl).2.2];exact J,U.later ο⟩
 | iter m left cur=>
  obtain⟨b,N,aW,k8,xs,clock,seen,rfl,J,U,μ,Θ,av⟩:=h;obtain⟨i1,i2,i3⟩:=dA m left cur rfl;exact⟨b,N,aW,k8,xs,clock,seen,rfl,by rw[i2];exact J,by rw[i1];exact U,by rw[(κ b N rfl).2.2];exact μ,by rw[(i3 aW k8 J).2.2];exact Θ,av.later ο⟩
 | dead=>trivial
theorem oS {id:Nat} {b N:Nat} (h:B[id]?=some (some (b,N))):B.has b:=⟨N,cE h⟩
theorem Holds.n8 (Α:Holds S B σ H) {id b N:Nat} {r:Row} (ι:σ[id]?=some r) (ο:r.live) (hb:B[id]?=some (some (b,N))):¬H.fresh b:=λΥ=>by
 have h:=Α.row id r _ ι hb;cases r with
 | cells t k l=>have:=h.1;rw[Υ.2.1] at this;cases this
 | map es=>
  obtain⟨Ψ,e4,xs,clock,e,J,_⟩:=h;cases e;rw[Υ.2.2.1] at J;cases J
 | iter m left cur=>
  obtain⟨Ψ,e4,aW,k8,xs,clock,seen,e,_,_,J,_⟩:=h;cases e;rw[Υ.2.2.1] at J;cases J
 | dead=>exact ο
theorem Tw {id:Nat} {r r':Row} {bo bo':Option (Nat×Nat)} (ι:σ[id]?=some r) (hb:B[id]?=some bo) (xm:r.to r' (some bo) (some bo')):b8 S S B (B.set id bo') σ (σ.set id r'):=by
 have b9:id<σ.length:=(cf.1 ι).1
 have oT:id<B.length:=(cf.1 hb).1;refine⟨λ_ _ _ h=>h,λj cg ε=>?_⟩;by_cases e:id=j
 ·subst e;rw[ι] at ε;cases ε;refine⟨r',by rw[List.getElem?_set_self b9],?_⟩;rw[hb,List.getElem?_set_self oT];exact xm
 ·exact⟨cg,by rw[List.getElem?_set_ne e];exact ε,by rw[List.getElem?_set_ne e];exact cg.tI _⟩
theorem Holds.xn (Α:Holds S B σ H) {id:Nat} {r r':Row} {bo bo':Option (Nat×Nat)} (ι:σ[id]?=some r) (fv:r.live) (hb:B[id]?=some bo) (xm:r.to r' (some bo) (some bo'))
  (gm:∀b e4,bo'=some (b,e4)->(∃N,bo=some (b,N))\/H.fresh b) (cF:∀b,(∀N,bo≠some (b,N))->(∀N,bo'≠some (b,N))->kJ H H' b) (tC:∀b,H'.fresh b->H.fresh b)
  (dA:∀(j:Nat) left cur,σ[j]?≠some (Row.iter id left cur)) (bS:b8 S S B (B.set id bo') σ (σ.set id r')->jZ S (B.set id bo') (σ.set id r') H' r' bo') :
  Holds S (B.set id bo') (σ.set id r') H'/\Ext S B H S (B.set id bo') H'/\b8 S S B (B.set id bo') σ (σ.set id r'):=by
 have ο:=Tw (S:=S) ι hb xm
 have b9:id<σ.length:=(cf.1 ι).1
 have oT:id<B.length:=(cf.1 hb).1
 have other:∀(j:Nat) (cg:Row) (b N:Nat),j≠id->σ[j]?=some cg->cg.live->B[j]?=some (some (b,N))->kJ H H' b:=λj cg b N ε zv eu cX=>by
  refine cF b (λe4 e=>?_) (λe4 e=>?_)
  ·exact Α.inj j id cg r b N e4 ε zv ι eu fv cX (by rw[hb,e])
  ·rcases gm b e4 e with⟨pO,U⟩|U
   ·exact Α.inj j id cg r b N pO ε zv ι eu fv cX (by rw[hb,U])
   ·exact Α.n8 zv eu cX U
 refine⟨⟨λb o v hv=>?_,by simp[Α.len],λj cg tJ ε cX=>?_,λi j ez cg b gU gV fU hi ε iG eu hD cX=>?_,λj cg b N ε eu cX o=>?_⟩,⟨λ_ _ _ h=>h,λb jX Υ=>?_,λb jX=>?_,λb o v hv=>.inl hv,tC⟩,ο⟩
 ·have aj:=Α.dt b o v hv
  have Ζ:∀N,bo≠some (b,N):=λN e=>by
   have:=Α.sep id r b N ι fv (by rw[hb,e]) o;rw[hv] at this;cases this
  have q0:∀N,bo'≠some (b,N):=λN e=>by
   rcases gm b N e with⟨pO,U⟩|U
   ·exact Ζ pO U
   ·obtain⟨p,ψ⟩:=aj;rw[U.1 o] at ψ;cases ψ
  rw[(cF b Ζ q0).1];exact aj
 ·by_cases e:id=j
  ·subst e;rw[List.getElem?_set_self b9] at ε;rw[List.getElem?_set_self oT] at cX;cases ε;cases cX;exact bS ο
  ·rw[List.getElem?_set_ne e] at ε cX;by_cases eu:cg.live
   ·refine(Α.row j cg tJ ε cX).later ο (λb N iZ=>other j cg b N (Ne.symm e) ε eu (by rw[cX,iZ])) λm left cur fB=>?_;subst fB;have hm:id≠m:=λx=>by subst x;exact dA j left cur ε
    refine⟨by rw[List.getElem?_set_ne hm],by rw[List.getElem?_set_ne hm],λb N sm=>?_⟩;obtain⟨_,_,aW,k8,xs,clock,seen,_,J,⟨es,U⟩,_⟩:=Α.row j _ tJ ε cX;exact other m _ b N (Ne.symm hm) U trivial sm
   ·cases cg<;>first|exact absurd trivial eu|trivial
 ·have key:∀(i:Nat) (ez:Row) (N:Nat),(σ.set id r')[i]?=some ez->ez.live->(B.set id bo')[i]?=some (some (b,N))->i≠id->(σ[i]?=some ez/\B[i]?=some (some (b,N))):=λi ez N J _ μ bA=>by
   rw[List.getElem?_set_ne (Ne.symm bA)] at J μ;exact⟨J,μ⟩
  have zw:∀(i:Nat) (ez:Row) (N e4:Nat),i≠id->σ[i]?=some ez->ez.live->B[i]?=some (some (b,N))->bo'=some (b,e4)->False:=λi ez N e4 bA J U μ Θ=>by
   rcases gm b e4 Θ with⟨pO,av⟩|av
   ·exact Α.inj i id ez r b N pO bA J ι U fv μ (by rw[hb,av])
   ·exact Α.n8 J U μ av
  by_cases xc:i=id
  ·subst xc;rw[List.getElem?_set_self oT] at hD;obtain⟨J,U⟩:=key j cg gV ε eu cX (Ne.symm fU);exact zw j cg gV gU (Ne.symm fU) J eu U (by simpa using hD)
  ·obtain⟨J,U⟩:=key i ez gU hi iG hD xc;by_cases mG:j=id
   ·subst mG;rw[List.getElem?_set_self oT] at cX;exact zw i ez gU gV fU J iG U (by simpa using cX)
   ·obtain⟨μ,Θ⟩:=key j cg gV ε eu cX mG;exact Α.inj i j ez cg b gU gV fU J μ iG eu U Θ
 ·by_cases e:id=j
  ·subst e;rw[List.getElem?_set_self oT] at cX;have Tx:bo'=some (b,N):=by simpa using cX
   rcases gm b N Tx with⟨pO,U⟩|U
   ·exact Α.sep id r b pO ι fv (by rw[hb,U]) o
   ·cases hv:S b o with
    | none=>rfl
    | some v=>obtain⟨p,ψ⟩:=Α.dt b o v hv;rw[U.1 o] at ψ;cases ψ
  ·rw[List.getElem?_set_ne e] at ε cX;exact Α.sep j cg b N ε eu cX o
 ·refine nv.of (cF b (λN e=>jX (oS (id:=id) (N:=N) (by rw[hb,e]))) λN e=>?_);rcases gm b N e with⟨pO,U⟩|U
  ·exact jX (oS (id:=id) (N:=pO) (by rw[hb,U]))
  ·exact Υ U
 ·obtain⟨N,cm⟩:=jX;obtain⟨j,ε⟩:=List.getElem?_of_mem cm;by_cases e:id=j
  ·subst e;rw[List.getElem?_set_self oT] at ε;rcases gm b N (by simpa using ε) with⟨pO,U⟩|U
   ·exact .inl (oS (id:=id) (N:=pO) (by rw[hb,U]))
   ·exact .inr U
  ·rw[List.getElem?_set_ne e] at ε;exact .inl (oS ε)
theorem Ty {r:Row} {bo:Option (Nat×Nat)} (hlen:B.length=σ.length):b8 S S B (B++[bo]) σ (σ++[r]):=by
 refine⟨λ_ _ _ h=>h,λj cg ε=>?_⟩;have aP:=(cf.1 ε).1;exact⟨cg,by rw[ev aP];exact ε,by rw[ev R];exact cg.tI _⟩
theorem Holds.push (Α:Holds S B σ H) {r:Row} {bo:Option (Nat×Nat)} (gm:∀b N,bo=some (b,N)->H.fresh b) (cF:∀b,(∀N,bo≠some (b,N))->kJ H H' b)
  (bS:b8 S S B (B++[bo]) σ (σ++[r])->jZ S (B++[bo]) (σ++[r]) H' r bo) :
  Holds S (B++[bo]) (σ++[r]) H'/\Ext S B H S (B++[bo]) H'/\b8 S S B (B++[bo]) σ (σ++[r]):=by
 have ο:=Ty (S:=S) (r:=r) (bo:=bo) Α.len
 have hlen:=Α.len
 have tC:∀b,H'.fresh b->H.fresh b:=by
  have key:∀b,((∀o,H'.aO b o=none)->∀o,H.aO b o=none)/\(H'.row b=none->H.row b=none)/\(H'.obj b=none->H.obj b=none):=λb=>by
   by_cases e:∀N,bo≠some (b,N)
   ·obtain⟨a1,bd,cI⟩:=cF b e;exact⟨λh o=>by rw[<-a1 o];exact h o,λh=>by rw[<-bd];exact h,λh=>by rw[<-cI];exact h⟩
   ·obtain⟨N,cm⟩:=Classical.not_forall.1 e;have Υ:=gm b N (Classical.not_not.1 cm);exact⟨λ_=>Υ.1,λ_=>Υ.2.1,λ_=>Υ.2.2.1⟩
  exact λb hb=>⟨(key b).1 hb.1,(key b).2.1 hb.2.1,(key b).2.2 hb.2.2.1,λΨ aP=>⟨(key Ψ).1 (hb.2.2.2 Ψ aP).1,(key Ψ).2.1 (hb.2.2.2 Ψ aP).2.1,(key Ψ).2.2 (hb.2.2.2 Ψ aP).2.2⟩⟩
 have other:∀(j:Nat) (cg:Row) (b N:Nat),σ[j]?=some cg->cg.live->B[j]?=some (some (b,N))->kJ H H' b:=λj cg b N zv eu cX=>
  cF b λe4 e=>Α.n8 zv eu cX (gm b e4 e)
 have old:∀{α:Type} (l:List α) (x:α) (j:Nat) (y:α),(l++[x])[j]?=some y->(j<l.length/\l[j]?=some y)\/(j=l.length/\x=y):=λl x j y h=>by
  by_cases ε:j<l.length
  ·rw[ev ε] at h;exact .inl ⟨ε,h⟩
  ·rw[h6 R] at h;have:j-l.length=0:=by
    have:=(cf.1 h).1;simp at this;omega
   rw[this] at h;simp at h;exact .inr ⟨R,h⟩
 refine⟨⟨λb o v hv=>?_,by simp[hlen],λj cg tJ ε cX=>?_,λi j ez cg b gU gV fU hi ε iG eu hD cX=>?_,λj cg b N ε eu cX o=>?_⟩,⟨λ_ _ _ h=>h,λb jX Υ=>?_,λb jX=>?_,λb o v hv=>.inl hv,tC⟩,ο⟩
 ·obtain⟨p,ψ⟩:=Α.dt b o v hv;rw[(cF b λN e=>by have:=(gm b N e).1 o;rw[ψ] at this;cases this).1];exact⟨p,ψ⟩
 ·rcases old σ r j cg ε with⟨J,U⟩|⟨J,rfl⟩
  ·rw[ev R] at cX;by_cases eu:cg.live
   ·refine(Α.row j cg tJ U cX).later ο (λb N iZ=>other j cg b N U eu (by rw[cX,iZ])) λm left cur fB=>?_;subst fB;obtain⟨_,_,aW,k8,xs,clock,seen,_,Δ,⟨es,Γ⟩,_⟩:=Α.row j _ tJ U cX;have hm:=(cf.1 Γ).1;exact⟨by rw[ev hm],by rw[ev R],λb N sm=>other m _ b N Γ trivial sm⟩
   ·cases cg<;>first|exact absurd trivial eu|trivial
  ·rw[J,<-hlen] at cX;simp at cX;subst cX;exact bS ο
 ·rcases old σ r i ez hi with⟨J,U⟩|⟨J,rfl⟩<;>rcases old σ r j cg ε with⟨μ,Θ⟩|⟨μ,rfl⟩
  ·rw[ev R] at hD cX;exact Α.inj i j ez cg b gU gV fU U Θ iG eu hD cX
  ·rw[ev R] at hD;rw[μ,<-hlen] at cX;simp at cX;exact Α.n8 U iG hD (gm b gV cX)
  ·rw[ev R] at cX;rw[J,<-hlen] at hD;simp at hD;exact Α.n8 Θ eu cX (gm b gU hD)
  ·omega
 ·rcases old σ r j cg ε with⟨J,U⟩|⟨J,rfl⟩
  ·rw[ev R] at cX;exact Α.sep j cg b N U eu cX o
  ·rw[J,<-hlen] at cX;simp at cX;cases hv:S b o with
   | none=>rfl
   | some v=>obtain⟨p,ψ⟩:=Α.dt b o v hv;rw[(gm b N cX).1 o] at ψ;cases ψ
 ·exact nv.of (cF b λN e=>Υ (gm b N e))
 ·obtain⟨N,cm⟩:=jX;rcases List.mem_append.1 cm with h|h
  ·exact .inl ⟨N,h⟩
  ·simp at h;exact .inr (gm b N h.symm)
def aJ.lay (S:aJ) (r:Nat) (c:Array Value):aJ:=λb o=>if b=r then c[o]? else S b o
theorem Holds.lay (Α:Holds S B σ H) {r:Nat} {c:Array Value} {t:TypeId} (Υ:H.fresh r) :
  Holds (S.lay r c) B σ (H.dL r c t)/\Ext S B H (S.lay r c) B (H.dL r c t)/\b8 S (S.lay r c) B B σ σ:=by
 have Ζ:∀o,S r o=none:=λo=>by
  cases hv:S r o with
  | none=>rfl
  | some v=>obtain⟨p,ψ⟩:=Α.dt r o v hv;rw[Υ.1 o] at ψ;cases ψ
 have cF:∀b o v,S b o=some v->S.lay r c b o=some v:=λb o v h=>by
  unfold aJ.lay;rw[if_neg (λe=>by subst e;rw[Ζ] at h;cases h)];exact h
 have ο:b8 S (S.lay r c) B B σ σ:=⟨cF,λ_ cg h=>⟨cg,h,cg.tI _⟩⟩
 have a5:∀b,b≠r->kJ H (H.dL r c t) b:=λb hb=>⟨λo=>by simp[χ.dL,hb],by simp[χ.dL,hb],rfl⟩;refine⟨⟨λb o v hv=>?_,Α.len,λj cg tJ ε cX=>?_,Α.inj,λj cg b N ε eu cX o=>?_⟩,⟨cF,λb _ oU=>nv.of (a5 b λe=>oU (e▸Υ)),λb hb=>.inl hb,λb o v hv=>?_,χ.LN Υ c t⟩,ο⟩
 ·unfold aJ.lay at hv;split at hv
  ·rename_i e;subst e;exact⟨true,by simp[χ.dL,hv]⟩
  ·rename_i e;rw[(a5 b e).1];exact Α.dt b o v hv
 ·by_cases eu:cg.live
  ·have Cv:∀(j:Nat) (cg:Row) (b N:Nat),σ[j]?=some cg->cg.live->B[j]?=some (some (b,N))->b≠r:=λj cg b N J U μ e=>Α.n8 J U μ (e▸Υ);refine(Α.row j cg tJ ε cX).later ο (λb N iZ=>a5 b (Cv j cg b N ε eu (by rw[cX,iZ]))) λm left cur fB=>?_;subst fB;obtain⟨_,_,aW,k8,xs,clock,seen,_,Δ,⟨es,Γ⟩,_⟩:=Α.row j _ tJ ε cX;exact⟨rfl,rfl,λb N sm=>a5 b (Cv m _ b N Γ trivial sm)⟩
  ·cases cg<;>first|exact absurd trivial eu|trivial
 ·unfold aJ.lay;rw[if_neg (λe:b=r=>Α.n8 ε eu cX (e▸Υ))];exact Α.sep j cg b N ε eu cX o
 ·unfold aJ.lay at hv;split at hv
  ·rename_i e;subst e;exact .inr (.inr Υ)
  ·exact .inl hv
end
def zx:Value->θ
 | .slice none 0 0=>.sl true 0 []
 | v=>.z v
def hE:Value->θ
 | .agg vs=>.a5 (vs.toList.map zx)
 | v=>zx v
def aU (env:Ω):Operand->θ
 | .tmp n=>a9 env n
 | .const v=>hE v
 | .global _=>.cH
 | .func f=>.fn (.func f) [] []
theorem LX {S:aJ} {B:aV} {σ:List Row} (v:Value):ay S B σ (zx v) v:=by
 unfold zx;split
 ·exact .i' none 0 λ_=>rfl
 ·exact .z v
theorem pP {S:aJ} {B:aV} {σ:List Row} (v:Value):ay S B σ (hE v) v:=by
 unfold hE;split
 ·rename_i vs;refine .a5 vs η λi a w J U=>?_;rw[List.getElem?_map,Array.getElem?_toList,U] at J;cases J;exact LX w
 ·exact LX _
theorem lX {S:aJ} {B:aV} {σ:List Row} {env:Ω} {t:Array Value} (h:du S B σ env t) (o:Operand):ay S B σ (aU env o) (bp t o):=by
 cases o with
 | tmp n=>exact h n
 | const v=>exact pP v
 | global g=>exact .cH _
 | func f=>exact .fn #[] #[] rfl rfl (λi a v hi=>by simp at hi) (λi a v hi=>by simp at hi)
inductive df where
 | ok (a:θ) (σ:List Row)
 | b' (p:Prop) (r:df)
 | all (n:Nat) (f:Nat->df)
 | bad
def df.holds (K:θ->List Row->Prop):df->Prop
 | .ok a σ=>K a σ
 | .b' p r=>p/\r.holds K
 | .all n f=>∀i,i<n->(f i).holds K
 | .bad=>False
def LY:Next->Option Value
 | .value v=>some v
 | .skip=>some undef
 | _=>none
def ja:TypeDesc->Bool
 | .int _|.string|.bool=>true
 | _=>false
def GF (P:Program) (t:TypeId):Option (List (TypeDesc×Nat))->Prop
 | none=>True
 | some items=>P.eqGuardType P.depth t=false/\items.map (·.2)=List.range items.length/\
  ((∃dh,P.underlying t=some (.struct dh)/\P.stoodInHeld t=false/\items=dh.toList.map (λf=>((P.underlying f.type).getD .invalid,f.offset))/\∀f∈dh.toList,f.name≠ "_" /\ ∃d,P.underlying f.type=some d/\ja d=true)\/
   ∃n e d f,P.underlying t=some (.array n e)/\P.underlying e=some d/\ja d=true/\P.info? e=some f/\f.size=1/\items=(List.range n).map λi=>(d,i))
structure iH where
 size:Nat
 bI:TypeDesc
 zero:Value
 bytes:Nat
 eqs:Option (List (TypeDesc×Nat))
def iH.agg (i:iH):Bool:=lW i.bI
abbrev bb:=TypeId->Option iH
def bV (P:Program) (T:bb):Prop:=∀t i,T t=some i->(P.underlying t=some i.bI/\GF P t i.eqs)/\∃f,P.info? t=some f/\f.size=i.size/\f.zero=some i.zero/\f.bytes=i.bytes
def jb (S:aJ) (B:aV) (H:χ) (σ:List Row) (K:θ->List Row->Prop) (v:Value) (H':χ):Prop:=
 ∃aE B' σ' a,K a σ'/\Ext S B H aE B' H'/\Holds aE B' σ' H'/\b8 S aE B B' σ σ'/\ay aE B' σ' a v
def cR (P:Program) (s:Sem Value) (S:aJ) (B:aV) (H:χ) (σ:List Row) (r:df):Prop:=
 ∀K:θ->List Row->Prop,r.holds K->π P s H (jb S B H σ K) (λ_ _=>False)
def Does (P:Program) (s:Sem Next) (S:aJ) (B:aV) (H:χ) (σ:List Row) (r:df):Prop:=
 ∀K:θ->List Row->Prop,r.holds K->π P s H (λgJ H'=>∃v,LY gJ=some v/\jb S B H σ K v H') (λ_ _=>False)
section
variable {P:Program} {T:bb} {S:aJ} {B:aV} {H:χ} {σ:List Row} {env:Ω} {t:Array Value}
theorem cR.next {s:Sem Value} {r:df} (h:cR P s S B H σ r):Does P (do pure (.value (<-s))) S B H σ r:=λK ζ=>
 π.bind' (π.mono (λv G hb=>π.pure' ⟨v,rfl,hb⟩) (λ_ _ h=>h) _ (h K ζ))
theorem jb.same {K:θ->List Row->Prop} {a:θ} {v:Value} (Α:Holds S B σ H) (ζ:K a σ) (κ:ay S B σ a v):jb S B H σ K v H:=⟨S,B,σ,a,ζ,.refl _ _ _,Α,.refl _ _ _,κ⟩
theorem cR.pure {a:θ} {v:Value} (Α:Holds S B σ H) (κ:ay S B σ a v):cR P (pure v) S B H σ (.ok a σ):=λK ζ=>
 π.pure' (.same Α ζ κ)
theorem cR.bad {s:Sem Value}:cR P s S B H σ .bad:=λK ζ=>ζ.elim
theorem cR.b' {s:Sem Value} {p:Prop} {r:df} (h:p->cR P s S B H σ r):cR P s S B H σ (.b' p r):=λK ζ=>h ζ.1 K ζ.2
theorem Does.val {a:θ} {v:Value} (Α:Holds S B σ H) (κ:ay S B σ a v):Does P (pure (.value v)) S B H σ (.ok a σ):=λK ζ=>
 π.pure' ⟨v,rfl,.same Α ζ κ⟩
theorem Does.bad {s:Sem Next}:Does P s S B H σ .bad:=λK ζ=>ζ.elim
theorem bV.size (Κ:bV P T) {ty:TypeId} {i:iH} (h:T ty=some i) {G:χ} {K:Nat->χ->Prop} {E:Value->χ->Prop} (ς:K i.size G):π P (sizeOf ty) G K E:=by
 obtain⟨_,f,J,U,_⟩:=Κ ty i h;exact π.sizeOf J (by rw[U];exact ς)
theorem bV.bI (Κ:bV P T) {ty:TypeId} {i:iH} (h:T ty=some i) {G:χ} {K:TypeDesc->χ->Prop} {E:Value->χ->Prop} (ς:K i.bI G):π P (underlying ty) G K E:=
 π.underlying (Κ ty i h).1.1 ς
theorem bV.agg (Κ:bV P T) {ty:TypeId} {i:iH} (h:T ty=some i) {G:χ} {K:Bool->χ->Prop} {E:Value->χ->Prop} (ς:K i.agg G):π P (isAgg ty) G K E:=
 π.isAgg (Κ ty i h).1.1 ς
theorem bV.zero (Κ:bV P T) {ty:TypeId} {i:iH} (h:T ty=some i) {G:χ} {K:Value->χ->Prop} {E:Value->χ->Prop} (ς:K i.zero G):π P (zeroValue ty) G K E:=by
 obtain⟨_,f,J,_,μ,_⟩:=Κ ty i h;exact π.zeroValue J μ ς
theorem bV.info (Κ:bV P T) {ty:TypeId} {i:iH} (h:T ty=some i) {G:χ} {K:TypeInfo->χ->Prop} {E:Value->χ->Prop} (ς:∀f:TypeInfo,f.bytes=i.bytes->K f G):π P (typeInfo ty) G K E:=by
 obtain⟨_,f,J,_,_,Θ⟩:=Κ ty i h;exact π.typeInfo J (ς f Θ)
end
inductive cK where
 | ok (a:θ)
 | b' (p:Prop) (r:cK)
 | bad
def cK.dE (σ:List Row):cK->df
 | .ok a=>.ok a σ
 | .b' p r=>.b' p (r.dE σ)
 | .bad=>.bad
section
variable {P:Program} {T:bb} {S:aJ} {B:aV} {H:χ} {σ:List Row} {env:Ω} {t:Array Value}
def eY (k:IntKind) (a b:Int):Int:=k.wrap (BitVec.ofInt k.bits a&&&BitVec.ofInt k.bits b).toNat
def q1 (k:IntKind) (a b:Int):Int:=k.wrap (BitVec.ofInt k.bits a|||BitVec.ofInt k.bits b).toNat
def zy (k:IntKind) (a b:Int):Int:=k.wrap (BitVec.ofInt k.bits a^^^BitVec.ofInt k.bits b).toNat
def k9 (k:IntKind) (a b:Int):Int:=k.wrap (BitVec.ofInt k.bits a&&&~~~BitVec.ofInt k.bits b).toNat
def Cw (a b:ByteArray):Bool:=Op.bytesLess a.toList b.toList
def sn (a b:ByteArray):Bool:=Op.bytesLess a.toList b.toList||a.toList==b.toList
def so (op:BinOp) (x y:Value):cK:=
 match op,x,y with
 | .shl,.int k a,.int _ b=>.b' (0<=b) (.ok (.z (.int k (k.wrap (a*2 ^ (min b.toNat k.bits))))))
 | .shr,.int k a,.int _ b=>.b' (0<=b) (.ok (.z (.int k (a.fdiv (2 ^ (min b.toNat k.bits))))))
 | .add,.int k a,.int ag b=>if k=ag then .ok (.z (.int k (k.wrap (a+b)))) else .bad
 | .sub,.int k a,.int ag b=>if k=ag then .ok (.z (.int k (k.wrap (a-b)))) else .bad
 | .mul,.int k a,.int ag b=>if k=ag then .ok (.z (.int k (k.wrap (a*b)))) else .bad
 | .quo,.int k a,.int ag b=>if k=ag then .b' (b≠0) (.ok (.z (.int k (k.wrap (a.tdiv b))))) else .bad
 | .rem,.int k a,.int ag b=>if k=ag then .b' (b≠0) (.ok (.z (.int k (a.tmod b)))) else .bad
 | .and,.int k a,.int ag b=>if k=ag then .ok (.z (.int k (eY k a b))) else .bad
 | .or,.int k a,.int ag b=>if k=ag then .ok (.z (.int k (q1 k a b))) else .bad
 | .xor,.int k a,.int ag b=>if k=ag then .ok (.z (.int k (zy k a b))) else .bad
 | .andNot,.int k a,.int ag b=>if k=ag then .ok (.z (.int k (k9 k a b))) else .bad
 | .eql,.int k a,.int ag b=>if k=ag then .ok (.z (.bool (a==b))) else .bad
 | .neq,.int k a,.int ag b=>if k=ag then .ok (.z (.bool (a != b))) else .bad
 | .lss,.int k a,.int ag b=>if k=ag then .ok (.z (.bool (decide (a<b)))) else .bad
 | .leq,.int k a,.int ag b=>if k=ag then .ok (.z (.bool (decide (a<=b)))) else .bad
 | .gtr,.int k a,.int ag b=>if k=ag then .ok (.z (.bool (decide (a > b)))) else .bad
 | .geq,.int k a,.int ag b=>if k=ag then .ok (.z (.bool (decide (a>=b)))) else .bad
 | .add,.string a,.string b=>.b' (((a.size+b.size:Nat):Int)<=IntKind.i64.max) (.ok (.z (.string (a++b))))
 | .eql,.string a,.string b=>.ok (.z (.bool (a.toList==b.toList)))
 | .neq,.string a,.string b=>.ok (.z (.bool !(a.toList==b.toList)))
 | .lss,.string a,.string b=>.ok (.z (.bool (Cw a b)))
 | .leq,.string a,.string b=>.ok (.z (.bool (sn a b)))
 | .gtr,.string a,.string b=>.ok (.z (.bool (!(sn a b))))
 | .geq,.string a,.string b=>.ok (.z (.bool (!(Cw a b))))
 | _,_,_=>.bad
theorem Tz (Α:Holds S B σ H) (op:BinOp) (ty:TypeId) (p q:Operand) (x y:Value):cR P (do eqGuard op ty p q x y;binOp op ty x y) S B H σ ((so op x y).dE σ):=by
 unfold so;split
 case h_25=>exact .bad
 case h_1=>
  refine .b' λh=>?_;have dg:¬(_:Int)<0:=Int.not_lt.2 h;simp only[eqGuard,binOp,Op.shift,dg,if_false];exact .pure Α (.z _)
 case h_2=>
  refine .b' λh=>?_;have dg:¬(_:Int)<0:=Int.not_lt.2 h;simp only[eqGuard,binOp,Op.shift,dg,if_false];exact .pure Α (.z _)
 case h_6=>
  split
  ·rename_i e;subst e;exact .b' λh=>by simp only[eqGuard,binOp,Op.intDiv,h,if_false,ne_eq,not_true_eq_false];exact .pure Α (.z _)
  ·exact .bad
 case h_7=>
  split
  ·rename_i e;subst e;exact .b' λh=>by simp only[eqGuard,binOp,Op.intDiv,h,if_false,ne_eq,not_true_eq_false];exact .pure Α (.z _)
  ·exact .bad
 case h_18=>
  refine .b' λh=>?_;have dg:¬((_:Int) > IntKind.i64.max):=Int.not_lt.2 h;simp only[eqGuard,binOp,Op.stringOp,dg,if_false];exact .pure Α (.z _)
 all_goals first
  | exact .pure Α (.z _)
  |(split
    ·rename_i e;subst e;simp only[eqGuard,binOp,Op.intArith,Op.intBits,Op.intCmp,ne_eq,not_true_eq_false,if_false];exact .pure Α (.z _)
    ·exact .bad)
def xo (op:UnOp):θ->cK
 | .z (.bool b)=>match op with|.not=>.ok (.z (.bool !b))|_=>.bad
 | .z (.int k n)=>match op with|.neg=>.ok (.z (.int k (k.wrap (0-n))))|_=>.bad
 | _=>.bad
theorem TA (Α:Holds S B σ H) (op:UnOp) {a:θ} {v:Value} (κ:ay S B σ a v):cR P (Op.unary op v) S B H σ ((xo op a).dE σ):=by
 unfold xo;split
 ·cases κ;split
  ·exact .pure Α (.z _)
  ·exact .bad
 ·cases κ;split
  ·exact .pure Α (.z _)
  ·exact .bad
 ·exact .bad
def Cx (i:Nat):θ->cK
 | .bj l=>match l[i]? with|some a=>.ok a|none=>.bad
 | .z (.tuple vs)=>match vs[i]? with|some v=>.ok (hE v)|none=>.bad
 | _=>.bad
theorem TB (Α:Holds S B σ H) (i:Nat) {a:θ} {v:Value} (κ:ay S B σ a v):cR P (Instr.extract v i) S B H σ ((Cx i a).dE σ):=by
 unfold Cx;split
 ·rename_i l;cases κ with
  | bj vs J U=>
   cases ο:l[i]? with
   | none=>exact .bad
   | some a=>
    have aP:i<vs.size:=by rw[<-J];exact(cf.1 ο).1
    have hv:vs[i]?=some vs[i]:=fq aP;simp only[Instr.extract,hv];exact .pure Α (U i a _ ο hv)
 ·rename_i vs;cases κ;cases hv:vs[i]? with
  | none=>exact .bad
  | some v=>simp only[Instr.extract,hv];exact .pure Α (pP v)
 ·exact .bad
def Cy (T:bb) (ty:TypeId) (a:θ):cK:=match T ty with
 | some i=>match i.bI with|.interface _=>.bad|_=>.ok (.fY ty a)
 | none=>.bad
theorem TC (Κ:bV P T) (Α:Holds S B σ H) (ty:TypeId) {a:θ} {v:Value} (κ:ay S B σ a v):cR P (Instr.makeInterface ty v) S B H σ ((Cy T ty a).dE σ):=by
 unfold Cy;cases hi:T ty with
 | none=>exact .bad
 | some i=>
  intro K ζ;unfold Instr.makeInterface;refine π.bind' (Κ.bI hi ?_);cases hu:i.bI<;>simp only[hu,cK.dE,df.holds] at ζ<;>first|exact ζ.elim|exact π.pure' (.same Α ζ (.fY v κ))
def vu (T:bb) (ty:TypeId) (ok:Bool) (a:θ):cK:=match T ty with
 | some i=>match i.bI with
  | .interface _=>.bad
  | _=>match a with
   | .fY t x=>if t=ty then .ok (if ok then .bj [x,.z (.bool true)] else x) else if ok then .ok (.bj [hE i.zero,.z (.bool false)]) else .bad
   | .z .nilIface=>if ok then .ok (.bj [hE i.zero,.z (.bool false)]) else .bad
   | _=>.bad
 | none=>.bad
theorem xp {a b:θ} {v w:Value} (h:ay S B σ a v) (k:ay S B σ b w):ay S B σ (.bj [a,b]) (.tuple #[v,w]):=by
 refine .bj _ rfl λi cz fr J U=>?_
 match i with
 | 0=>simp at J U;subst J;subst U;exact h
 | 1=>simp at J U;subst J;subst U;exact k
 | i+2=>simp at J
theorem TD (Κ:bV P T) (Α:Holds S B σ H) (TE ty:TypeId) (ok:Bool) {a:θ} {v:Value} (κ:ay S B σ a v):cR P (Instr.typeAssert v TE ty ok) S B H σ ((vu T ty ok a).dE σ):=by
 unfold vu;cases hi:T ty with
 | none=>exact .bad
 | some i=>
  simp only;by_cases br:∃w,i.bI=.interface w
  ·obtain⟨w,hw⟩:=br;rw[hw];exact .bad
  have e:∀r:cK,(match i.bI with|.interface _=>cK.bad|_=>r)=r:=λr=>by
   cases hu:i.bI<;>first|rfl|exact absurd ⟨_,hu⟩ br
  rw[e];clear e;split
  ·rename_i t x;cases κ with
   | fY w γ=>
    split
    ·rename_i e;subst e;intro K ζ;unfold Instr.typeAssert;refine π.bind' (Κ.bI hi ?_);generalize i.bI=d at br ⊢;cases d<;>first
      | exact absurd ⟨_,rfl⟩ br
      |(simp only[if_true]
        cases ok
        ·exact π.pure' (.same Α ζ γ)
        ·exact π.pure' (.same Α ζ (xp γ (.z _))))
    ·rename_i bA;split
     ·rename_i dY;subst dY;intro K ζ;unfold Instr.typeAssert;refine π.bind' (Κ.bI hi ?_);generalize i.bI=d at br ⊢;cases d<;>first
       | exact absurd ⟨_,rfl⟩ br
       |(simp only[bA,if_false,if_true]
         exact π.bind' (Κ.zero hi (π.pure' (.same Α ζ (xp (pP _) (.z _))))))
     ·exact .bad
  ·cases κ;split
   ·rename_i dY;subst dY;intro K ζ;unfold Instr.typeAssert;refine π.bind' (Κ.bI hi ?_);generalize i.bI=d at br ⊢;cases d<;>first
     | exact absurd ⟨_,rfl⟩ br
     |(simp only[if_true]
       exact π.bind' (Κ.zero hi (π.pure' (.same Α ζ (xp (pP _) (.z _))))))
   ·exact .bad
  ·exact .bad
end
section
variable {P:Program} {T:bb} {S:aJ} {B:aV} {H:χ} {σ:List Row}
def tK (i:iH) (l:List θ):cK:=
 if i.agg then(if i.size<=l.length then .ok (.a5 (l.take i.size)) else .bad)
 else match l with
  | a::_=>.ok a
  | []=>.bad
def Cz (T:bb) (ty:TypeId):θ->cK
 | .ao cells=>match T ty with|some i=>tK i cells|none=>.bad
 | _=>.bad
def vv (T:bb) (ty:TypeId) (σ:List Row):θ->df
 | .ar id n i j=>match T ty,σ[id]? with
  | some k6,some (.cells _ _ l)=>if l.length=n then match l[i]? with
   | some e=>(tK k6 (e.cells.drop j)).dE σ
   | none=>.bad else .bad
  | _,_=>.bad
 | _=>.bad
theorem CA (Κ:bV P T) (Α:Holds S B σ H) {ty:TypeId} {i:iH} (hi:T ty=some i) {b o:Nat} {l:List θ} (w:Nat->Value) (δ:∀(j:Nat) (a:θ),l[j]?=some a->∃p,H.aO b (o+j)=some (w j,p)) (ι:∀(j:Nat) (a:θ),l[j]?=some a->ay S B σ a (w j)) :
  cR P (loadVar ty ⟨b,o,none⟩) S B H σ ((tK i l).dE σ):=by
 intro K ζ;unfold tK at ζ;unfold loadVar;refine π.bind' (Κ.agg hi ?_);cases zz:i.agg with
 | true=>
  rw[zz] at ζ;simp only[if_true] at ζ ⊢;split at ζ
  ·rename_i hle;refine π.bind' (Κ.size hi (π.bind' (π.loadCells w rfl (λj ε=>?_) ?_)))
   ·have:l[j]?=some l[j]:=bg R;exact δ j _ this
   ·refine π.pure' (.same Α ζ (.a5 _ (by simp;omega) λj a v J U=>?_));have ε:j<i.size:=by have:=(cf.1 J).1;simp at this;omega
    rw[List.getElem?_take_of_lt ε] at J;simp[ε] at U;subst U;exact ι j a J
  ·exact ζ.elim
 | false=>
  rw[zz] at ζ;simp only[Bool.false_eq_true,if_false] at ζ ⊢;cases l with
  | nil=>exact ζ.elim
  | cons a l=>
   obtain⟨p,ψ⟩:=δ 0 a rfl;exact⟨rfl,rfl,w 0,p,ψ,jb.same Α ζ (ι 0 a rfl)⟩
theorem TF (Κ:bV P T) (Α:Holds S B σ H) {ty:TypeId} {a:θ} {v:Value} (κ:ay S B σ a v):cR P (Instr.loadAt ty v) S B H σ ((Cz T ty a).dE σ):=by
 unfold Cz;split
 ·rename_i cells;cases hi:T ty with
  | none=>exact .bad
  | some i=>
   cases κ with
   | ao b o w J U=>exact CA Κ Α hi w (λj a ε=>Α.dt _ _ _ (J j a ε)) U
 ·exact .bad
theorem LZ (Α:Holds S B σ H) {id k i b N:Nat} {t:TypeId} {l:List θ} {e:θ} (ο:σ[id]?=some (.cells t k l)) (hb:B[id]?=some (some (b,N))) (he:l[i]?=some e) :
  e.cells.length=k/\∃w:Nat->Value,∀(j:Nat) (a:θ),e.cells[j]?=some a->H.aO b (i*k+j)=some (w j,true)/\ay S B σ a (w j)/\One (w j):=by
 obtain⟨_,_,_,w,hw⟩:=Α.row id _ _ ο hb;exact⟨(hw i e he).1,w i,(hw i e he).2⟩
theorem TG (Κ:bV P T) (Α:Holds S B σ H) {ty:TypeId} {a:θ} {v:Value} (κ:ay S B σ a v):cR P (Instr.loadAt ty v) S B H σ (vv T ty σ a):=by
 unfold vv;split
 ·rename_i id n i j;split
  ·rename_i k6 t k l hi ο;split
   ·rename_i Ζ;cases he:l[i]? with
    | none=>exact .bad
    | some e=>
     cases κ with
     | ar J U μ=>
      rw[ο] at J;cases J;obtain⟨ς,w,hw⟩:=LZ Α ο μ he;refine CA Κ Α hi (λx=>w (j+x)) (λx a γ=>⟨true,?_⟩) (λx a γ=>?_)
      ·rw[List.getElem?_drop] at γ;rw[Nat.add_assoc];exact(hw _ a γ).1
      ·rw[List.getElem?_drop] at γ;exact(hw _ a γ).2.1
     | jY v J U=>rw[ο] at J;cases J;simp only[Row.hh] at U;omega
   ·exact .bad
  ·exact .bad
 ·exact .bad
def gA (T:bb) (ty:TypeId) (f:Nat):Option (Nat×TypeId):=match T ty with
 | some i=>match i.bI with
  | .struct dh=>match dh[f]? with
   | some x=>match T x.type with
    | some bC=>if bC.size=0 then none else some (x.offset,x.type)
    | none=>none
   | none=>none
  | _=>none
 | none=>none
def CB (T:bb) (ty:TypeId) (f:Nat):θ->cK
 | .ao cells=>match gA T ty f with|some (o,_)=>.ok (.ao (cells.drop o))|none=>.bad
 | .z (.pointer (some ⟨b,o',none⟩))=>match gA T ty f with|some (o,_)=>.ok (.z (.pointer (some ⟨b,o'+o,none⟩)))|none=>.bad
 | _=>.bad
def vw (T:bb) (ty:TypeId) (f:Nat) (σ:List Row):θ->df
 | .ar id n i j=>match gA T ty f,σ[id]? with
  | some (o,_),some (.cells _ _ l)=>if l.length=n then .ok (.ar id n i (j+o)) σ else .bad
  | _,_=>.bad
 | _=>.bad
theorem tL (b o n:Nat):(⟨b,o,none⟩:Addr).add n=⟨b,o+n,none⟩:=by
 unfold Addr.add;split
 ·simp_all
 ·rfl
theorem L0 {cells:List θ} {b o:Nat} (h:ay S B σ (.ao cells) (.pointer (some ⟨b,o,none⟩))) (n:Nat):ay S B σ (.ao (cells.drop n)) (.pointer (some ⟨b,o+n,none⟩)):=by
 cases h with
 | ao b o w J U=>
  refine .ao b (o+n) (λj=>w (n+j)) (λj a ε=>?_) (λj a ε=>?_)
  ·rw[List.getElem?_drop] at ε;rw[Nat.add_assoc];exact J _ a ε
  ·rw[List.getElem?_drop] at ε;exact U _ a ε
theorem GG (Κ:bV P T) {ty:TypeId} {f o:Nat} {zA:TypeId} (Υ:gA T ty f=some (o,zA)) {b o':Nat} {K:Value->χ->Prop} {E:Value->χ->Prop} (h:K (.pointer (some ⟨b,o'+o,none⟩)) H) :
  π P (Instr.fieldAt ty (.pointer (some ⟨b,o',none⟩)) f) H K E:=by
 unfold gA at Υ;split at Υ<;>try cases Υ
 rename_i i hi;split at Υ<;>try cases Υ
 rename_i dh hu;split at Υ<;>try cases Υ
 rename_i x γ;split at Υ<;>try cases Υ
 rename_i bC mH;split at Υ<;>try cases Υ
 rename_i hz;unfold Instr.fieldAt;refine π.bind' (Κ.bI hi ?_);rw[hu];simp only[γ];refine π.bind' ?_;unfold fieldPlace;refine π.bind' (π.bind' (Κ.size mH ?_));rw[if_neg hz,tL];exact π.pure' (π.pure' h)
theorem TH (Κ:bV P T) (Α:Holds S B σ H) {ty:TypeId} {f:Nat} {a:θ} {v:Value} (κ:ay S B σ a v):cR P (Instr.fieldAt ty v f) S B H σ ((CB T ty f a).dE σ):=by
 unfold CB;split
 ·rename_i cells;cases Υ:gA T ty f with
  | none=>exact .bad
  | some x=>
   obtain⟨o,zA⟩:=x;cases κ with
   | ao b o' w J U=>exact λK ζ=>GG Κ Υ (jb.same Α ζ (L0 (.ao b o' w J U) o))
 ·rename_i b o';cases Υ:gA T ty f with
  | none=>exact .bad
  | some x=>
   obtain⟨o,zA⟩:=x;cases κ;exact λK ζ=>GG Κ Υ (jb.same Α ζ (.z _))
 ·exact .bad
theorem TI (Κ:bV P T) (Α:Holds S B σ H) {ty:TypeId} {f:Nat} {a:θ} {v:Value} (κ:ay S B σ a v):cR P (Instr.fieldAt ty v f) S B H σ (vw T ty f σ a):=by
 unfold vw;split
 ·rename_i id n i j;split
  ·rename_i o zA t k l Υ ο;split
   ·rename_i Ζ;cases κ with
    | ar J U μ=>
     rw[ο] at J;cases J;refine λK ζ=>GG Κ Υ (jb.same Α ζ ?_);rw[Nat.add_assoc];exact .ar ο Ζ μ
    | jY v J U=>rw[ο] at J;cases J;simp only[Row.hh] at U;omega
   ·exact .bad
  ·exact .bad
 ·exact .bad
theorem q2 {ex:Bool} {k:Nat} {l:List θ} {v:Value} (h:ay S B σ (.sl ex k l) v):∃base cap,v=.slice base l.length cap/\l.length<=cap/\(ex=true->cap=l.length)/\(l≠[]->∃(b o:Nat) (w:Nat->Nat->Value),base=some ⟨b,o,none⟩/\(∀(i:Nat) (e:θ),l[i]?=some e->e.cells.length=k)/\
  (∀(i:Nat) (e:θ),l[i]?=some e->∀(j:Nat) (c:θ),e.cells[j]?=some c->S b (o+i*k+j)=some (w i j))/\(∀(i:Nat) (e:θ),l[i]?=some e->∀(j:Nat) (c:θ),e.cells[j]?=some c->ay S B σ c (w i j))):=by
 cases h with
 | i' base cap h=>exact⟨base,cap,rfl,Nat.zero_le _,h,λx=>absurd rfl x⟩
 | sl b o cap w J U μ Θ av=>exact⟨_,cap,rfl,U,J,λ_=>⟨b,o,w,rfl,μ,Θ,av⟩⟩
theorem TJ {ex:Bool} {k:Nat} {l:List θ} {base:Option Addr} {len cap i:Nat} {e:θ} (h:ay S B σ (.sl ex k l) (.slice base len cap)) (he:l[i]?=some e):∃b o,base=some ⟨b,o,none⟩/\ay S B σ (.ao e.cells) (.pointer (some ⟨b,o+i*k,none⟩)):=by
 obtain⟨TK,GH,hv,_,_,J⟩:=q2 h;cases hv;obtain⟨b,o,w,rfl,U,μ,Θ⟩:=J (by rintro rfl;simp at he);exact⟨b,o,rfl,.ao b (o+i*k) (w i) (μ i e he) (Θ i e he)⟩
def ig (T:bb) (ty:TypeId):Option (TypeId×Nat×Option Nat):=match T ty with
 | some i=>match i.bI with
  | .slice e=>match T e with|some b2=>some (e,b2.size,none)|none=>none
  | .array n e=>match T e with|some b2=>some (e,b2.size,some n)|none=>none
  | _=>none
 | none=>none
theorem CC {ty e:TypeId} {k:Nat} (h:ig T ty=some (e,k,none)):∃i b2,T ty=some i/\i.bI=.slice e/\T e=some b2/\b2.size=k:=by
 unfold ig at h;split at h
 ·rename_i i hi;split at h
  ·rename_i aQ hu;split at h
   ·rename_i b2 he;cases h;exact⟨i,b2,hi,hu,he,rfl⟩
   ·cases h
  ·split at h<;>cases h
  ·cases h
 ·cases h
theorem TM {ty e:TypeId} {k n:Nat} (h:ig T ty=some (e,k,some n)):∃i b2,T ty=some i/\i.bI=.array n e/\T e=some b2/\b2.size=k:=by
 unfold ig at h;split at h
 ·rename_i i hi;split at h
  ·split at h<;>cases h
  ·rename_i aQ jq hu;split at h
   ·rename_i b2 he;cases h;exact⟨i,b2,hi,hu,he,rfl⟩
   ·cases h
  ·cases h
 ·cases h
def CD (T:bb) (ty:TypeId) (a bC:θ):cK:=
 match ig T ty,bC with
 | some (_,pQ,none),.z (.int _ n)=>match a with
  | .sl _ k l=>if k=pQ then .b' (0<=n/\n<l.length) (.ok (.ao (l.getD n.toNat .cH).cells)) else .bad
  | _=>.bad
 | some (_,pQ,some m),.z (.int _ n)=>match a with
  | .ao cells=>.b' (0<=n/\n<m) (.ok (.ao (cells.drop (n.toNat*pQ))))
  | _=>.bad
 | _,_=>.bad
def vx (T:bb) (ty:TypeId) (σ:List Row) (a bC:θ):df:=
 match ig T ty,bC with
 | some (_,pQ,none),.z (.int _ n)=>match a with
  | .ms id m i len=>match σ[id]? with
   | some (.cells _ k l)=>if k=pQ/\l.length=m then .b' (0<=n/\n<len) (.ok (.ar id m (i+n.toNat) 0) σ) else .bad
   | _=>.bad
  | _=>.bad
 | some (_,pQ,some len),.z (.int _ n)=>match a with
  | .ar id m i j=>match σ[id]? with
   | some (.cells _ _ l)=>if l.length=m then .b' (0<=n/\n<len) (.ok (.ar id m i (j+n.toNat*pQ)) σ) else .bad
   | _=>.bad
  | _=>.bad
 | _,_=>.bad
theorem L1 (Κ:bV P T) {ty e:TypeId} {k:Nat} (he:ig T ty=some (e,k,none)) {b o len cap:Nat} {kk:IntKind} {n:Int} (Ζ:0<=n/\n<len) {K:Value->χ->Prop} {E:Value->χ->Prop}
  (h:K (.pointer (some ⟨b,o+n.toNat*k,none⟩)) H):π P (Instr.indexAt ty (.slice (some ⟨b,o,none⟩) len cap) (.int kk n)) H K E:=by
 obtain⟨i,b2,hi,hu,GI,rfl⟩:=CC he;unfold Instr.indexAt;refine π.bind' ?_;refine π.bind' (Κ.bI hi ?_);rw[hu];refine π.bind' (π.pure' ?_);refine π.bind' (Κ.bI hi ?_);rw[hu];simp only[Ζ,and_self,if_true];refine π.bind' (Κ.size GI ?_);rw[tL];exact h
theorem L2 (Κ:bV P T) {ty e:TypeId} {k m:Nat} (he:ig T ty=some (e,k,some m)) {b o:Nat} {kk:IntKind} {n:Int} (Ζ:0<=n/\n<m) {K:Value->χ->Prop} {E:Value->χ->Prop}
  (h:K (.pointer (some ⟨b,o+n.toNat*k,none⟩)) H):π P (Instr.indexAt ty (.pointer (some ⟨b,o,none⟩)) (.int kk n)) H K E:=by
 obtain⟨i,b2,hi,hu,GI,rfl⟩:=TM he;unfold Instr.indexAt;refine π.bind' ?_;refine π.bind' (Κ.bI hi ?_);rw[hu];refine π.bind' (π.bind' (π.pure' ?_));refine π.bind' (Κ.bI hi ?_);rw[hu];simp only[Ζ,and_self,if_true];refine π.bind' (Κ.size GI ?_);rw[tL];exact h
theorem TN (Κ:bV P T) (Α:Holds S B σ H) {ty:TypeId} {a bC:θ} {v w:Value} (κ:ay S B σ a v) (γ:ay S B σ bC w):cR P (Instr.indexAt ty v w) S B H σ ((CD T ty a bC).dE σ):=by
 unfold CD;split
 ·rename_i e pQ kk n he;cases γ;split
  ·rename_i ex k l;split
   ·rename_i ς;subst ς;refine .b' λΖ=>?_;obtain⟨base,cap,rfl,_⟩:=q2 κ;have aP:n.toNat<l.length:=R;have nx:l[n.toNat]?=some l[n.toNat]:=bg aP;obtain⟨b,o,rfl,ι⟩:=TJ κ nx;refine λK ζ=>L1 Κ he Ζ (jb.same Α ζ ?_);rw[List.getD_eq_getElem?_getD,nx];exact ι
   ·exact .bad
  ·exact .bad
 ·rename_i e pQ m kk n he;cases γ;split
  ·rename_i cells;refine .b' λΖ=>?_;cases κ with
   | ao b o w J U=>exact λK ζ=>L2 Κ he Ζ (jb.same Α ζ (L0 (.ao b o w J U) _))
  ·exact .bad
 ·exact .bad
theorem TO (Κ:bV P T) (Α:Holds S B σ H) {ty:TypeId} {a bC:θ} {v w:Value} (κ:ay S B σ a v) (γ:ay S B σ bC w):cR P (Instr.indexAt ty v w) S B H σ (vx T ty σ a bC):=by
 unfold vx;split
 ·rename_i e pQ kk n he;cases γ;split
  ·rename_i id m i len;split
   ·rename_i t k l ο;split
    ·rename_i ς;obtain⟨rfl,hm⟩:=ς;refine .b' λΖ=>?_;cases κ with
     | ms cap J U μ Θ av ba=>
      rw[ο] at J;cases J;rcases ba with ba|⟨b,N,rfl,rfl,ba⟩
      ·omega
      ·refine λK ζ=>L1 Κ he Ζ (jb.same Α ζ ?_);have:i*k+n.toNat*k=(i+n.toNat)*k+0:=by rw[Nat.add_mul];rfl
       rw[this];exact .ar ο hm μ
     | jz v J U=>rw[ο] at J;cases J;simp only[Row.hh] at U;omega
    ·exact .bad
   ·exact .bad
  ·exact .bad
 ·rename_i e pQ len kk n he;cases γ;split
  ·rename_i id m i j;split
   ·rename_i t k l ο;split
    ·rename_i hm;refine .b' λΖ=>?_;cases κ with
     | ar J U μ=>
      rw[ο] at J;cases J;refine λK ζ=>L2 Κ he Ζ (jb.same Α ζ ?_);rw[Nat.add_assoc];exact .ar ο hm μ
     | jY v J U=>rw[ο] at J;cases J;simp only[Row.hh] at U;omega
    ·exact .bad
   ·exact .bad
  ·exact .bad
 ·exact .bad
end
def θ.a' (σ:List Row):θ->Bool
 | .z v=>match v with|.agg _|.tuple _=>false|_=>true
 | .a5 _|.bj _|.cH=>false
 | .ar id n _ _|.ms id n _ _=>match σ[id]? with|some (.cells _ _ l)=>decide (l.length<=n)|_=>false
 | .mp id=>match σ[id]? with|some (.map _)=>true|_=>false
 | .it id=>match σ[id]? with|some (.iter ..)=>true|_=>false
 | _=>true
def θ.sr:θ->Nat->List θ->θ
 | .a5 l,j,cs=>.a5 (l.take j++cs++l.drop (j+cs.length))
 | _,0,[c]=>c
 | e,_,_=>e
theorem θ.GJ {σ:List Row} {a:θ} (h:a.a' σ=true):a.cells=[a]:=by
 cases a<;>first|rfl|cases h
theorem θ.L3 {σ:List Row} {e:θ} {j:Nat} {cs:List θ} (hle:j+cs.length<=e.cells.length) (dY:∀c∈cs,θ.a' σ c=true):(e.sr j cs).cells=e.cells.take j++cs++e.cells.drop (j+cs.length):=by
 by_cases he:∃l,e=.a5 l
 ·obtain⟨l,rfl⟩:=he;rfl
 ·have J:e.cells=[e]:=by cases e<;>first|rfl|exact absurd ⟨_,rfl⟩ he
  rw[J] at hle ⊢;cases cs with
  | nil=>
   have:e.sr j []=e:=by cases e<;>cases j<;>first|rfl|exact absurd ⟨_,rfl⟩ he
   rw[this,J]
   match j with
   | 0=>rfl
   | j+1=>simp
  | cons c cs=>
   simp at hle;have ε:j=0:=R;have iI:cs=[]:=by cases cs<;>simp at hle ⊢;omega
   subst ε;subst iI;have:e.sr 0 [c]=c:=by cases e<;>first|rfl|exact absurd ⟨_,rfl⟩ he
   rw[this,θ.GJ (dY c η)];simp
section
variable {P:Program} {T:bb} {S:aJ} {B:aV} {H:χ} {σ:List Row}
theorem ay.zB {a:θ} {v:Value} (h:ay S B σ a v) (ω:a.a' σ=true):One v:=by
 cases h with
 | z v=>cases v<;>first|trivial|cases ω
 | jY v J U=>
  simp only[θ.a',J] at ω;split at ω
  ·rename_i e;cases e;simp only[Row.hh] at U;simp at ω;omega
  ·cases ω
 | jz v J U=>
  simp only[θ.a',J] at ω;split at ω
  ·rename_i e;cases e;simp only[Row.hh] at U;simp at ω;omega
  ·cases ω
 | lV v J=>simp[θ.a',J] at ω
 | nu v J=>simp[θ.a',J] at ω
 | a5|bj|cH=>cases ω
 | _=>trivial
theorem One.cells {v:Value} (h:One v):v.cells=#[v]:=by cases v<;>first|rfl|exact h.elim
theorem ay.cells {a:θ} {v:Value} (h:ay S B σ a v) (κ:a.cells.all (θ.a' σ)=true):v.cells.size=a.cells.length/\∀(j:Nat) (c:θ),a.cells[j]?=some c->∃x,v.cells[j]?=some x/\ay S B σ c x/\One x:=by
 have single:a.cells=[a]->v.cells.size=a.cells.length/\∀(j:Nat) (c:θ),a.cells[j]?=some c->∃x,v.cells[j]?=some x/\ay S B σ c x/\One x:=λe=>by
  rw[e] at κ ⊢;simp at κ;have ω:=h.zB κ;rw[ω.cells];refine⟨rfl,λj c ε=>?_⟩
  match j with
  | 0=>simp at ε;subst ε;exact⟨v,rfl,h,ω⟩
  | j+1=>simp at ε
 cases h with
 | a5 vs J U=>
  refine⟨J.symm,λj c ε=>?_⟩;have aP:j<vs.size:=by rw[<-J];exact(cf.1 ε).1
  have hv:vs[j]?=some vs[j]:=fq aP
  have ι:=U j c _ ε hv;exact⟨_,hv,ι,ι.zB (List.all_eq_true.1 κ c (cE ε))⟩
 | _=>exact single rfl
theorem CE (Α:Holds S B σ H) {id k:Nat} {t:TypeId} {l:List θ} (h:σ[id]?=some (.cells t k l)):∀(j:Nat) left cur,σ[j]?≠some (Row.iter id left cur):=λj left cur ε=>by
 obtain⟨bo,hb⟩:=LW Α ε;obtain⟨_,_,_,_,_,_,_,_,_,⟨es,U⟩,_⟩:=Α.row j _ bo ε hb;rw[h] at U;cases U
theorem L4 {i eO k bK lo hi:Nat} (ε:bK<k) (oV:hi<=k) (h:eO≠i):¬(i*k+lo<=eO*k+bK/\eO*k+bK<i*k+hi):=by
 rintro⟨J,U⟩;rcases Nat.lt_or_gt_of_ne h with h|h
 ·have:(eO+1)*k<=i*k:=Nat.mul_le_mul_right k h;rw[Nat.add_mul] at this;omega
 ·have:(i+1)*k<=eO*k:=Nat.mul_le_mul_right k h;rw[Nat.add_mul] at this;omega
def xq (P:Program) (s:Sem Unit) (S:aJ) (B:aV) (H:χ) (σ:List Row) (r:df):Prop:=
 ∀K:θ->List Row->Prop,r.holds K->π P s H (λ_ H'=>jb S B H σ K undef H') (λ_ _=>False)
theorem xq.next {s:Sem Unit} {r:df} (h:xq P s S B H σ r):Does P (do s;pure .skip) S B H σ r:=λK ζ=>
 π.bind' (π.mono (λ_ G hb=>π.pure' ⟨undef,rfl,hb⟩) (λ_ _ h=>h) _ (h K ζ))
theorem xq.bad {s:Sem Unit}:xq P s S B H σ .bad:=λK ζ=>ζ.elim
theorem TP (Α:Holds S B σ H) {id k i j b N:Nat} {t:TypeId} {l:List θ} {e a:θ} {v:Value} (ο:σ[id]?=some (.cells t k l)) (hb:B[id]?=some (some (b,N))) (he:l[i]?=some e) (κ:ay S B σ a v) (dY:a.cells.all (θ.a' σ)=true)
  (ε:j+a.cells.length<=k) :
  (∀x∈v.cells.toList,One x)/\(∀x,x<a.cells.length->H.owns b (i*k+j+x))/\H.row b=some (t,N)/\
  (let σ':=σ.set id (.cells t k (l.set i (e.sr j a.cells)));Holds S (B.set id (some (b,N))) σ' (H.hB b (i*k+j) v.cells.toList)/\Ext S B H S (B.set id (some (b,N))) (H.hB b (i*k+j) v.cells.toList)/\b8 S S B (B.set id (some (b,N))) σ σ'):=by
 obtain⟨cv,iI⟩:=κ.cells dY;have hlen:v.cells.toList.length=a.cells.length:=by simpa using cv
 obtain⟨bS,cm,gm,w,hw⟩:=Α.row id _ _ ο hb;have jc:i<l.length:=(cf.1 he).1;have L5:(i+1)*k<=N:=Nat.le_trans (Nat.mul_le_mul_right k jc) cm;have gΟ:i*k+k<=N:=by rw[Nat.add_mul] at L5;omega
 have GK:=(hw i e he).1
 have GL:∀c∈a.cells,θ.a' σ c=true:=List.all_eq_true.1 dY
 have b0:=θ.L3 (σ:=σ) (e:=e) (j:=j) (cs:=a.cells) (by rw[GK];exact ε) GL;refine⟨λx γ=>?_,λx γ=>?_,bS,?_⟩
 ·obtain⟨y,Ι⟩:=List.getElem?_of_mem γ;have aP:y<a.cells.length:=by rw[<-hlen];exact(cf.1 Ι).1
  obtain⟨dn,J,_,U⟩:=iI y _ (bg aP);rw[Array.getElem?_toList] at Ι;rw[Ι] at J;cases J;exact U
 ·obtain⟨u,hu⟩:=gm (i*k+j+x) R;exact⟨u,hu⟩
 ·refine Α.xn (r':=.cells t k (l.set i (e.sr j a.cells))) (bo':=some (b,N)) ο trivial hb (.inl ⟨_,rfl,η,rfl⟩) (λΨ e4 aQ=>.inl ⟨e4,aQ⟩) (λΨ J _=>?_) χ.GD (CE Α ο) (λkZ=>?_)
  ·have bA:Ψ≠b:=λaQ=>by subst aQ;exact J N rfl
   exact⟨λo=>by simp[χ.hB,bA],rfl,rfl⟩
  ·refine⟨bS,by simpa using cm,λo ω=>?_,λeO bK=>if eO=i/\j<=bK/\bK<j+a.cells.length then(v.cells[bK-j]?).getD undef else w eO bK,λeO aQ aD=>?_⟩
   ·simp only[χ.hB];split
    ·exact⟨_,rfl⟩
    ·exact gm o ω
   ·by_cases tM:eO=i
    ·subst tM;rw[List.getElem?_set_self jc] at aD;cases aD;rw[b0];refine⟨by simp;omega,λbK c δ=>?_⟩;by_cases br:j<=bK/\bK<j+a.cells.length
     ·have aX:a.cells[bK-j]?=some c:=by
       rw[List.append_assoc,h6 (by simp;omega)] at δ;simp only[List.length_take] at δ;rw[ev R] at δ;have:bK-min j e.cells.length=bK-j:=R;rw[this] at δ;exact δ
      obtain⟨x,J,U,μ⟩:=iI _ _ aX;simp only[br,and_self,if_true,J,Option.getD_some];refine⟨?_,U.later kZ,μ⟩;simp only[χ.hB,hlen];rw[if_pos ⟨trivial,R,R⟩];have:eO*k+bK-(eO*k+j)=bK-j:=R;rw[this,Array.getElem?_toList,J];rfl
     ·have aX:e.cells[bK]?=some c:=by
       by_cases iJ:bK<j
       ·rw[List.append_assoc,ev (by simp;omega),List.getElem?_take_of_lt iJ] at δ;exact δ
       ·rw[h6 (by simp;omega)] at δ;rw[List.getElem?_drop] at δ;have:j+a.cells.length+(bK-(e.cells.take j++a.cells).length)=bK:=by simp;omega
        rw[this] at δ;exact δ
      simp only[br,and_false,if_false];obtain⟨J,U,μ⟩:=(hw eO e he).2 bK c aX;refine⟨?_,U.later kZ,μ⟩;simp only[χ.hB,hlen];rw[if_neg (λx=>br ⟨R,R⟩)];exact J
    ·rw[List.getElem?_set_ne (Ne.symm tM)] at aD;obtain⟨J,U⟩:=hw eO aQ aD;refine⟨J,λbK c δ=>?_⟩;obtain⟨μ,Θ,av⟩:=U bK c δ;have oW:bK<k:=by rw[<-J];exact(cf.1 δ).1
     simp only[tM,false_and,if_false];refine⟨?_,Θ.later kZ,av⟩;simp only[χ.hB,hlen];rw[if_neg (λx=>L4 (lo:=j) (hi:=j+a.cells.length) oW ε tM ⟨x.2.1,R⟩)];exact μ
def CF (T:bb) (ty:TypeId) (σ:List Row) (p a:θ):df:=match p with
 | .ar id n i j=>match T ty,σ[id]? with
  | some k6,some (.cells t k l)=>match l[i]? with
   | some e=>if l.length=n/\a.cells.length=k6.size/\j+k6.size<=k/\a.cells.all (θ.a' σ)=true then .ok .cH (σ.set id (.cells t k (l.set i (e.sr j a.cells)))) else .bad
   | none=>.bad
  | _,_=>.bad
 | _=>.bad
theorem TQ (Κ:bV P T) (Α:Holds S B σ H) {ty:TypeId} {p a:θ} {u v:Value} (ψ:ay S B σ p u) (κ:ay S B σ a v):xq P (Instr.storeAt ty u v) S B H σ (CF T ty σ p a):=by
 unfold CF;split
 ·rename_i id n i j;split
  ·rename_i k6 t k l hi ο;split
   ·rename_i e he;split
    ·rename_i δ;obtain⟨Ζ,cv,oW,dY⟩:=δ;cases ψ with
     | ar J U μ=>
      rename_i b N;rw[ο] at J;cases J;intro K ζ;obtain⟨c1,c2,c3,c4⟩:=TP Α ο μ he κ dY (by omega:j+a.cells.length<=k);obtain⟨GM,_⟩:=κ.cells dY;refine π.bind' (π.pure' ?_);unfold storeVar;refine π.bind' (Κ.size hi ?_);rw[if_neg R];refine π.storeCells (G:=H) rfl ⟨t,N,c3⟩ v.cells.toList 0 H c1 (λx _ γ=>c2 x (by simp at γ;omega)) rfl ?_;exact⟨S,_,_,.cH,ζ,c4.2.1,c4.1,c4.2.2,.cH _⟩
     | jY v J U=>rw[ο] at J;cases J;simp only[Row.hh] at U;omega
    ·exact .bad
   ·exact .bad
  ·exact .bad
 ·exact .bad
end
section
variable {P:Program} {T:bb} {S:aJ} {B:aV} {H:χ} {σ:List Row}
def fZ (S:aJ) (B:aV) (σ:List Row) (c:Array Value) (k:Nat) (l:List θ):Prop:=
 l.length*k<=c.size/\∀(i:Nat) (e:θ),l[i]?=some e->e.cells.length=k/\∀(j:Nat) (a:θ),e.cells[j]?=some a->∃x,c[i*k+j]?=some x/\ay S B σ a x/\One x
theorem CG {a:θ} (h:a.a' []=true):a.a' σ=true:=by
 cases a<;>first|exact h|(simp[θ.a'] at h)
theorem xr {l:List θ} (h:l.all (θ.a' [])=true):l.all (θ.a' σ)=true:=by
 rw[List.all_eq_true] at *;exact λa κ=>CG (h a κ)
theorem fZ.put {c:Array Value} {k:Nat} {l:List θ} (h:fZ S B σ c k l) {i j:Nat} {e a:θ} {v:Value} (he:l[i]?=some e) (κ:ay S B σ a v) (dY:a.cells.all (θ.a' σ)=true) (ε:j+a.cells.length<=k) :
  let c':=v.cells.zipIdx.foldl (λcs (x:Value×Nat)=>cs.setIfInBounds (i*k+j+x.2) x.1) c
  c'.size=c.size/\fZ S B σ c' k (l.set i (e.sr j a.cells)):=by
 obtain⟨cv,iI⟩:=κ.cells dY;have jc:i<l.length:=(cf.1 he).1;have GK:=(h.2 i e he).1;have GL:∀c∈a.cells,θ.a' σ c=true:=List.all_eq_true.1 dY;have b0:=θ.L3 (σ:=σ) (e:=e) (j:=j) (cs:=a.cells) (by rw[GK];exact ε) GL;have key:∀(vs:List Value) (n:Nat) (c:Array Value),((vs.zipIdx n).foldl (λcs (x:Value×Nat)=>cs.setIfInBounds (i*k+j+x.2) x.1) c).size=c.size/\
   ∀p,((vs.zipIdx n).foldl (λcs (x:Value×Nat)=>cs.setIfInBounds (i*k+j+x.2) x.1) c)[p]?=if i*k+j+n<=p/\p<i*k+j+n+vs.length/\p<c.size then vs[p-(i*k+j+n)]? else c[p]?:=by
  intro vs
  induction vs with
  | nil=>intro n c;refine⟨rfl,λp=>?_⟩;rw[if_neg (by simp;omega)];rfl
  | cons v vs Β=>
   intro n c;obtain⟨J,U⟩:=Β (n+1) (c.setIfInBounds (i*k+j+n) v);simp only[List.zipIdx_cons,List.foldl_cons];refine⟨by rw[J];simp,λp=>?_⟩;rw[U p];simp only[Array.size_setIfInBounds,List.length_cons];by_cases ψ:p=i*k+j+n
   ·subst ψ;rw[if_neg R];by_cases aP:i*k+j+n<c.size
    ·rw[if_pos ⟨R,R,aP⟩,Array.getElem?_setIfInBounds_self_of_lt aP];simp
    ·rw[if_neg R,Array.getElem?_eq_none (by simp;omega),Array.getElem?_eq_none R]
   ·by_cases br:i*k+j+(n+1)<=p/\p<i*k+j+(n+1)+vs.length/\p<c.size
    ·rw[if_pos br,if_pos ⟨R,R,br.2.2⟩];have:p-(i*k+j+n)=(p-(i*k+j+(n+1)))+1:=R;rw[this,List.getElem?_cons_succ]
    ·rw[if_neg br,if_neg R,Array.getElem?_setIfInBounds_ne (Ne.symm ψ)]
 obtain⟨k1,cN⟩:=key v.cells.toList 0 c;have cl:v.cells.zipIdx.foldl (λcs (x:Value×Nat)=>cs.setIfInBounds (i*k+j+x.2) x.1) c=(v.cells.toList.zipIdx 0).foldl (λcs (x:Value×Nat)=>cs.setIfInBounds (i*k+j+x.2) x.1) c:=by
  rw[<-Array.foldl_toList];simp
 intro c';have aX:c'=(v.cells.toList.zipIdx 0).foldl (λcs (x:Value×Nat)=>cs.setIfInBounds (i*k+j+x.2) x.1) c:=cl;rw[aX];have hlen:v.cells.toList.length=a.cells.length:=by simpa using cv
 have L5:i*k+k<=c.size:=by
  have J:(i+1)*k<=l.length*k:=Nat.mul_le_mul_right k jc
  have U:=h.1;rw[Nat.add_mul] at J;omega
 refine⟨k1,by rw[k1];simpa using h.1,λeO aQ aD=>?_⟩;by_cases tM:eO=i
 ·subst tM;rw[List.getElem?_set_self jc] at aD;cases aD;rw[b0];refine⟨by simp;omega,λbK c2 δ=>?_⟩;rw[cN,hlen];by_cases br:j<=bK/\bK<j+a.cells.length
  ·have GN:a.cells[bK-j]?=some c2:=by
    rw[List.append_assoc,h6 (by simp;omega)] at δ;simp only[List.length_take] at δ;rw[ev R] at δ;have:bK-min j e.cells.length=bK-j:=R;rw[this] at δ;exact δ
   obtain⟨x,J,U,μ⟩:=iI _ _ GN;rw[if_pos ⟨R,R,R⟩];have:eO*k+bK-(eO*k+j+0)=bK-j:=R;rw[this,Array.getElem?_toList];exact⟨x,J,U,μ⟩
  ·have GN:e.cells[bK]?=some c2:=by
    by_cases iJ:bK<j
    ·rw[List.append_assoc,ev (by simp;omega),List.getElem?_take_of_lt iJ] at δ;exact δ
    ·rw[h6 (by simp;omega)] at δ;rw[List.getElem?_drop] at δ;have:j+a.cells.length+(bK-(e.cells.take j++a.cells).length)=bK:=by simp;omega
     rw[this] at δ;exact δ
   rw[if_neg (λx=>br ⟨R,R⟩)];exact(h.2 eO e he).2 bK c2 GN
 ·rw[List.getElem?_set_ne (Ne.symm tM)] at aD;obtain⟨J,U⟩:=h.2 eO aQ aD;refine⟨J,λbK c2 δ=>?_⟩;have oW:bK<k:=by rw[<-J];exact(cf.1 δ).1
  rw[cN,hlen,if_neg (λx=>L4 (lo:=j) (hi:=j+a.cells.length) oW ε tM ⟨R,R⟩)];exact U bK c2 δ
theorem fZ.L6 {z:Value} {a:θ} (κ:ay S B σ a z) (dY:a.cells.all (θ.a' σ)=true) {k n m:Nat} (ς:a.cells.length=k) (hm:n*k<=m) (gn:Array Value) (Τ:gn=z.cells) :
  fZ S B σ ((Array.range m).map (gn[· % gn.size]!)) k (List.replicate n a):=by
 obtain⟨cv,iI⟩:=κ.cells dY;subst Τ;refine⟨by simpa using hm,λi e hi=>?_⟩;obtain⟨J,U⟩:=cf.1 hi;simp at J U;subst U;refine⟨ς,λj c δ=>?_⟩;obtain⟨x,Δ,Γ,a2⟩:=iI j c δ;have ε:j<k:=by rw[<-ς];exact(cf.1 δ).1
 have aP:i*k+j<m:=by
  have:(i+1)*k<=n*k:=Nat.mul_le_mul_right k J;rw[Nat.add_mul] at this;omega
 refine⟨x,?_,Γ,a2⟩;rw[Array.getElem?_map,Array.getElem?_range,if_pos aP];simp only[Option.map_some];have:(i*k+j) % z.cells.size=j:=by
  rw[cv,ς,Nat.mul_comm,Nat.mul_add_mod];exact Nat.mod_eq_of_lt ε
 rw[this];have aH:j<z.cells.size:=R;rw[fq aH] at Δ;cases Δ;rw[getElem!_pos z.cells j aH]
theorem fZ.later {aE:aJ} {B':aV} {σ':List Row} (ο:b8 S aE B B' σ σ') {c:Array Value} {k:Nat} {l:List θ} (h:fZ S B σ c k l):fZ aE B' σ' c k l:=
 ⟨h.1,λi e hi=>⟨(h.2 i e hi).1,λj a ε=>by obtain⟨x,J,U,μ⟩:=(h.2 i e hi).2 j a ε;exact⟨x,J,U.later ο,μ⟩⟩⟩
theorem fZ.one {a:θ} {v:Value} (κ:ay S B σ a v) (dY:a.cells.all (θ.a' σ)=true):fZ S B σ v.cells a.cells.length [a]:=by
 obtain⟨cv,iI⟩:=κ.cells dY;refine⟨by simp[cv],λi e hi=>?_⟩
 match i with
 | 0=>
  simp at hi;subst hi;refine⟨rfl,λj c δ=>?_⟩;rw[Nat.zero_mul,Nat.zero_add];exact iI j c δ
 | i+1=>simp at hi
theorem zC (Α:Holds S B σ H) {c:Array Value} {k:Nat} {l:List θ} (δ:fZ S B σ c k l) (t:TypeId) {K:Nat->χ->Prop} {E:Value->χ->Prop}
  (h:∀r,H.fresh r->Holds S (B++[some (r,c.size)]) (σ++[.cells t k l]) (H.dL r c t)->Ext S B H S (B++[some (r,c.size)]) (H.dL r c t)->b8 S S B (B++[some (r,c.size)]) σ (σ++[.cells t k l])->K r (H.dL r c t)) :
  π P (newObj (.cells c t)) H K E:=by
 refine⟨rfl,λr ι=>?_⟩;have cF:∀b,(∀N,some (r,c.size)≠some (b,N))->kJ H (H.dL r c t) b:=λb hb=>by
  have bA:b≠r:=λe=>by subst e;exact hb _ rfl
  exact⟨λo=>by simp[χ.dL,bA],by simp[χ.dL,bA],rfl⟩
 have bS:b8 S S B (B++[some (r,c.size)]) σ (σ++[.cells t k l])->jZ S (B++[some (r,c.size)]) (σ++[.cells t k l]) (H.dL r c t) (.cells t k l) (some (r,c.size)):=λο=>by
  have aX:=δ.later ο;refine⟨by simp[χ.dL],δ.1,λo ω=>⟨c[o],by simp[χ.dL,ω]⟩,λi j=>(c[i*k+j]?).getD undef,λi e hi=>⟨(aX.2 i e hi).1,λj a ε=>?_⟩⟩;obtain⟨x,Δ,Γ,a2⟩:=(aX.2 i e hi).2 j a ε;simp only[Δ,Option.getD_some];exact⟨by simp[χ.dL,Δ],Γ,a2⟩
 obtain⟨J,U,μ⟩:=Α.push (λb N e=>by cases e;exact ι) cF bS;exact h r ι J U μ
theorem zD (Α:Holds S B σ H) (c:Array Value) (t:TypeId) {K:Nat->χ->Prop} {E:Value->χ->Prop}
  (h:∀r,Holds (S.lay r c) B σ (H.dL r c t)->Ext S B H (S.lay r c) B (H.dL r c t)->b8 S (S.lay r c) B B σ σ->K r (H.dL r c t)) :
  π P (newObj (.cells c t)) H K E:=by
 refine⟨rfl,λr ι=>?_⟩;obtain⟨J,U,μ⟩:=Α.lay (c:=c) (t:=t) ι;exact h r J U μ
theorem L7 {r:Nat} {c:Array Value} {a:θ} {k:Nat} (ο:b8 S (S.lay r c) B B σ σ) (δ:fZ S B σ c k [a]):ay (S.lay r c) B σ (.ao a.cells) (.pointer (some ⟨r,0,none⟩)):=by
 have aX:=δ.later ο;refine .ao r 0 (λj=>(c[j]?).getD undef) (λj x ε=>?_) (λj x ε=>?_)
 ·obtain⟨y,Δ,_⟩:=(aX.2 0 a rfl).2 j x ε;rw[Nat.zero_mul,Nat.zero_add] at Δ;simp[aJ.lay,Δ]
 ·obtain⟨y,Δ,Γ,_⟩:=(aX.2 0 a rfl).2 j x ε;rw[Nat.zero_mul,Nat.zero_add] at Δ;simp only[Δ,Option.getD_some];exact Γ
theorem CH {r:Nat} {c:Array Value} {k cap:Nat} {l:List θ} (ex:Bool) (ο:b8 S (S.lay r c) B B σ σ) (δ:fZ S B σ c k l) (xu:l.length<=cap) (hex:ex=true->cap=l.length):ay (S.lay r c) B σ (.sl ex k l) (.slice (some ⟨r,0,none⟩) l.length cap):=by
 have aX:=δ.later ο;refine .sl r 0 cap (λi j=>(c[i*k+j]?).getD undef) hex xu (λi e hi=>(aX.2 i e hi).1) (λi e hi j x ε=>?_) (λi e hi j x ε=>?_)
 ·obtain⟨y,Δ,_⟩:=(aX.2 i e hi).2 j x ε;simp[aJ.lay,Δ]
 ·obtain⟨y,Δ,Γ,_⟩:=(aX.2 i e hi).2 j x ε;simp only[Δ,Option.getD_some];exact Γ
end
end Go.TL
