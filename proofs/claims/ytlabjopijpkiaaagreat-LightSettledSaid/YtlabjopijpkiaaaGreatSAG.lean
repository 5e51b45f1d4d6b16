import Derived.Test.YtlabjopijpkiaaaGreatSAF
set_option maxHeartbeats 16000000
set_option maxRecDepth 20000
set_option linter.unusedSectionVars false
set_option linter.unusedSimpArgs false
set_option linter.unusedVariables false
namespace Go.TL
open Go.Conc
def sr (S:aB) (B:aR) (σ:List Row) (es:List (θ×θ)) (xs:Array MapEntry) (clock:Nat):Prop:=
 es.length=xs.size/\(∀(i:Nat) (e:θ×θ) (y:MapEntry),es[i]?=some e->xs[i]?=some y->ao S B σ e.1 y.key/\ao S B σ e.2 y.val/\y.born<clock)/\
 ∀(i j:Nat) (y z:MapEntry),xs[i]?=some y->xs[j]?=some z->i<j->y.born<z.born
def Cx (S:aB) (B:aR) (σ:List Row) (left:List (θ×θ)) (cur:Option (θ×θ)) (xs:Array MapEntry) (clock:Nat) (seen:Array Nat):Prop:=
 (∃b5:List MapEntry,b5=xs.toList.filter (λe=>!seen.contains e.born)/\left.length=b5.length/\∀(i:Nat) (e:θ×θ) (y:MapEntry),left[i]?=some e->b5[i]?=some y->ao S B σ e.1 y.key/\ao S B σ e.2 y.val)/\
 (∀y∈xs,y.born<clock)/\
 ∀e,cur=some e->∃G9 y,seen.back?=some G9/\xs.find? (·.born==G9)=some y/\ao S B σ e.1 y.key/\ao S B σ e.2 y.val
def jC (S:aB) (B:aR) (σ:List Row) (H:Α) (r:Row) (bo:Option (Nat×Nat)):Prop:=
 match r with
 | .cells t k l=>match bo with
  | none=>l=[]
  | some (b,N)=>H.row b=some (t,N)/\l.length*k<=N/\(∀o,o<N->∃w,H.aG b o=some (w,true))/\
   ∃w:Nat->Nat->Value,∀(i:Nat) (e:θ),l[i]?=some e->e.cells.length=k/\∀(j:Nat) (a:θ),e.cells[j]?=some a->H.aG b (i*k+j)=some (w i j,true)/\ao S B σ a (w i j)/\One (w i j)
 | .map es=>∃b N xs clock,bo=some (b,N)/\H.obj b=some (.map xs clock)/\sr S B σ es xs clock
 | .iter m left cur=>∃b N aT kN xs clock seen,bo=some (b,N)/\B[m]?=some (some (aT,kN))/\(∃es,σ[m]?=some (.map es))/\H.obj b=some (.mapIter (some aT) clock seen clock)/\H.obj aT=some (.map xs clock)/\Cx S B σ left cur xs clock seen
 | .dead=>True
def Row.live (r:Row):Prop:=match r with|.dead=>False|_=>True
structure Holds (S:aB) (B:aR) (σ:List Row) (H:Α):Prop where
 dd:∀b o v,S b o=some v->∃p,H.aG b o=some (v,p)
 len:B.length=σ.length
 row:∀(id:Nat) (r:Row) (bo:Option (Nat×Nat)),σ[id]?=some r->B[id]?=some bo->jC S B σ H r bo
 inj:∀(i j:Nat) (ec b':Row) (b gF gG:Nat),i≠j->σ[i]?=some ec->σ[j]?=some b'->ec.live->b'.live->B[i]?=some (some (b,gF))->B[j]?=some (some (b,gG))->False
 sep:∀(id:Nat) (r:Row) (b N:Nat),σ[id]?=some r->r.live->B[id]?=some (some (b,N))->∀o,S b o=none
def aR.has (B:aR) (b:Nat):Prop:=∃N,some (b,N)∈B
def nm (fb:aB) (dK H:Α) (b:Nat):Prop:=
 (∀o,H.aG b o=dK.aG b o\/∃v p,fb b o=some v/\dK.aG b o=some (v,p)/\H.aG b o=some (v,false))/\H.row b=dK.row b/\H.obj b=dK.obj b
theorem nm.of {fb:aB} {dK H:Α} {b:Nat} (h:(∀o,H.aG b o=dK.aG b o)/\H.row b=dK.row b/\H.obj b=dK.obj b):nm fb dK H b:=⟨λo=>.inl (h.1 o),h.2⟩
structure Ext (fb:aB) (ek:aR) (dK:Α) (S:aB) (B:aR) (H:Α):Prop where
 dd:∀b o v,fb b o=some v->S b o=some v
 fD:∀b,¬ek.has b->¬dK.fresh b->nm fb dK H b
 blocks:∀b,B.has b->ek.has b\/dK.fresh b
 q3:∀b o v,S b o=some v->fb b o=some v\/ek.has b\/dK.fresh b
 grow:∀b,H.fresh b->dK.fresh b
theorem Ext.refl (S:aB) (B:aR) (H:Α):Ext S B H S B H:=⟨λ_ _ _ h=>h,λ_ _ _=>nm.of ⟨λ_=>rfl,rfl,rfl⟩,λ_ h=>.inl h,λ_ _ _ h=>.inl h,λ_ h=>h⟩
theorem Ext.trans {fb bJ cT:aB} {ek bO e3:aR} {dK H1 bN:Α} (h:Ext fb ek dK bJ bO H1) (k:Ext bJ bO H1 cT e3 bN):Ext fb ek dK cT e3 bN:=by
 refine⟨λb o v x=>k.dd b o v (h.dd b o v x),λb hb Φ=>?_,λb hb=>?_,λb o v hv=>?_,λb x=>h.grow b (k.grow b x)⟩
 ·have Ζ:=h.fD b hb Φ
  have Cy:¬H1.fresh b:=λx=>Φ (h.grow b x)
  have j0:¬bO.has b:=λx=>(h.blocks b x).elim hb Φ
  have Ε:=k.fD b j0 Cy;refine⟨λo=>?_,Ε.2.1.trans Ζ.2.1,Ε.2.2.trans Ζ.2.2⟩;rcases Ε.1 o with x|⟨v,p,pT,kO,Cz⟩<;>rcases Ζ.1 o with y|⟨u,q,nn,ss,Ha⟩
  ·exact .inl (x.trans y)
  ·exact .inr ⟨u,q,nn,ss,x.trans Ha⟩
  ·rcases h.q3 b o v pT with z|z|z
   ·exact .inr ⟨v,p,z,by rw[<-y];exact kO,Cz⟩
   ·exact absurd z hb
   ·exact absurd z Φ
  ·have e:=h.dd b o u nn
   have:v=u:=by rw[pT] at e;exact Option.some.inj e
   subst this;exact .inr ⟨v,q,nn,ss,Cz⟩
 ·rcases k.blocks b hb with x|x
  ·exact h.blocks b x
  ·exact .inr (h.grow b x)
 ·rcases k.q3 b o v hv with x|x|x
  ·exact h.q3 b o v x
  ·exact .inr (h.blocks b x)
  ·exact .inr (.inr (h.grow b x))
abbrev aa:=List (Nat×θ)
def a3:aa->Nat->θ
 | [],_=>.cg
 |(j,a)::r,i=>if j=i then a else a3 r i
def de (S:aB) (B:aR) (σ:List Row) (env:aa) (t:Array Value):Prop:=∀i,ao S B σ (a3 env i) (t.getD i undef)
theorem de.later {S ax:aB} {B B':aR} {σ σ':List Row} {env:aa} {t:Array Value} (h:de S B σ env t) (ω:b3 S ax B B' σ σ'):de ax B' σ' env t:=λi=>(h i).later ω
theorem de.put {S:aB} {B:aR} {σ:List Row} {env:aa} {t:Array Value} (h:de S B σ env t) {d:Nat} (hd:d<t.size) {a:θ} {v:Value} (ξ:ao S B σ a v):de S B σ ((d,a)::env) (t.setIfInBounds d v):=by
 intro i;simp only[a3];split
 ·rename_i e;subst e;simpa[Array.getD_eq_getD_getElem?,hd] using ξ
 ·rename_i e;have:=h i;rw[Array.getD_eq_getD_getElem?] at this ⊢
  rwa [Array.getElem?_setIfInBounds_ne e]
theorem MY {S:aB} {B:aR} {σ:List Row} {H:Α} (Β:Holds S B σ H) {id:Nat} {r:Row} (h:σ[id]?=some r):∃bo,B[id]?=some bo:=by
 have:id<B.length:=by rw[Β.len];exact(b7.1 h).1
 exact⟨_,aW this⟩
def kP:TypeDesc->Bool
 | .struct _|.array _ _=>true
 | _=>false
section
variable {P:Program} {α β:Type} {G:Α} {E:Value->Α->Prop}
theorem υ.mono {K K':α->Α->Prop} {E':Value->Α->Prop} (I:∀a G,K a G->K' a G) (c9:∀v G,E v G->E' v G) (s:Sem α):∀{G:Α},υ P s G K E->υ P s G K' E':=by
 induction s with
 | pure a=>intro G h;exact I _ _ h
 | load m a k Δ=>intro G ⟨J,γ,v,p,π,Μ⟩;exact⟨J,γ,v,p,π,Δ v Μ⟩
 | store m a v k Δ=>intro G ⟨J,γ,π,Μ,aA,bc⟩;exact⟨J,γ,π,Μ,aA,Δ bc⟩
 | new o k Δ=>
  intro G h;cases o with
  | cells c t dI=>exact⟨h.1,λr μ=>Δ r (h.2 r μ)⟩
  | _=>exact λr μ=>Δ r (h r μ)
 | shape r k Δ=>intro G ⟨t,n,J,γ⟩;exact⟨t,n,J,Δ _ γ⟩
 | freeze a n k Δ=>intro G h;exact h.elim
 | frozen a k Δ=>intro G ⟨J,γ⟩;exact⟨J,Δ _ γ⟩
 | getObj r k Δ=>intro G ⟨o,J,γ,π⟩;exact⟨o,J,γ,Δ _ π⟩
 | setObj r o k Δ=>intro G ⟨J,γ,π,Μ⟩;exact⟨J,γ,π,Δ Μ⟩
 | choose q k Δ=>
  intro G h;simp only[υ] at h ⊢;split
  ·rw[if_pos ‹_›] at h;exact Δ _ h
  ·rw[if_neg ‹_›] at h;exact λn=>Δ _ (h n)
 | sys c k Δ=>intro G h;exact h.elim
 | program k Δ=>intro G h;exact Δ P h
 | mark m k Δ=>intro G ⟨J,γ⟩;exact⟨J,Δ γ⟩
 | halt x=>
  intro G h;cases x<;>first|exact h.elim|exact c9 _ _ h
theorem υ.bind {f:α->Sem β} {K:β->Α->Prop} (s:Sem α):∀{G:Α},υ P s G (λa G'=>υ P (f a) G' K E) E->υ P (s.bind f) G K E:=by
 induction s with
 | pure a=>intro G h;exact h
 | load m a k Δ=>intro G ⟨J,γ,v,p,π,Μ⟩;exact⟨J,γ,v,p,π,Δ v Μ⟩
 | store m a v k Δ=>intro G ⟨J,γ,π,Μ,aA,bc⟩;exact⟨J,γ,π,Μ,aA,Δ bc⟩
 | new o k Δ=>
  intro G h;cases o with
  | cells c t dI=>exact⟨h.1,λr μ=>Δ r (h.2 r μ)⟩
  | _=>exact λr μ=>Δ r (h r μ)
 | shape r k Δ=>intro G ⟨t,n,J,γ⟩;exact⟨t,n,J,Δ _ γ⟩
 | freeze a n k Δ=>intro G h;exact h.elim
 | frozen a k Δ=>intro G ⟨J,γ⟩;exact⟨J,Δ _ γ⟩
 | getObj r k Δ=>intro G ⟨o,J,γ,π⟩;exact⟨o,J,γ,Δ _ π⟩
 | setObj r o k Δ=>intro G ⟨J,γ,π,Μ⟩;exact⟨J,γ,π,Δ Μ⟩
 | choose q k Δ=>
  intro G h;simp only[υ] at h;simp only[Sem.bind,υ];split
  ·rw[if_pos ‹_›] at h;exact Δ _ h
  ·rw[if_neg ‹_›] at h;exact λn=>Δ _ (h n)
 | sys c k Δ=>intro G h;exact h.elim
 | program k Δ=>intro G h;exact Δ P h
 | mark m k Δ=>intro G ⟨J,γ⟩;exact⟨J,Δ γ⟩
 | halt x=>
  intro G h;cases x<;>first|exact h.elim|exact h
theorem υ.bind' {f:α->Sem β} {K:β->Α->Prop} {s:Sem α} (h:υ P s G (λa G'=>υ P (f a) G' K E) E):υ P (s >>= f) G K E:=υ.bind s h
theorem υ.pure' {a:α} {K:α->Α->Prop} (h:K a G):υ P (pure a) G K E:=h
theorem υ.underlying {t:TypeId} {d:TypeDesc} {K:TypeDesc->Α->Prop} (hd:P.underlying t=some d) (h:K d G):υ P (Go.underlying t) G K E:=by
 unfold Go.underlying;refine υ.bind' ?_;show υ P (match P.underlying t with|some d=>pure d|none=>_) G K E;rw[hd];exact h
theorem υ.typeInfo {t:TypeId} {i:TypeInfo} {K:TypeInfo->Α->Prop} (hi:P.info? t=some i) (h:K i G):υ P (Go.typeInfo t) G K E:=by
 unfold Go.typeInfo;refine υ.bind' ?_;show υ P (match P.info? t with|some i=>pure i|none=>_) G K E;have:P.info? t=some i:=hi;rw[this];exact h
theorem υ.sizeOf {t:TypeId} {i:TypeInfo} {K:Nat->Α->Prop} (hi:P.info? t=some i) (h:K i.size G):υ P (Go.sizeOf t) G K E:=by
 unfold Go.sizeOf;exact υ.bind' (υ.typeInfo hi (υ.pure' h))
theorem υ.isAgg {t:TypeId} {d:TypeDesc} {K:Bool->Α->Prop} (hd:P.underlying t=some d) (h:K (kP d) G):υ P (Go.isAgg t) G K E:=by
 unfold Go.isAgg;refine υ.bind' (υ.underlying hd ?_);cases d<;>exact h
theorem υ.zeroValue {t:TypeId} {i:TypeInfo} {v:Value} {K:Value->Α->Prop} (hi:P.info? t=some i) (Θ:i.zero=some v) (h:K v G):υ P (Go.zeroValue t) G K E:=by
 unfold Go.zeroValue;refine υ.bind' (υ.typeInfo hi ?_);rw[Θ];exact h
theorem υ.U8 {a:Addr} (w:Nat->Value) {K:Array Value->Α->Prop}:∀(n i:Nat) (acc:Array Value),a.spot=none->(∀j,i<=j->j<i+n->∃p,G.aG a.block (a.off+j)=some (w j,p))->K (acc++((List.range n).map λj=>w (i+j)).toArray) G->υ P (loadCellsFrom a i n acc) G K E:=by
 intro n
 induction n with
 | zero=>intro i acc _ _ h;simp at h;exact h
 | succ n Δ=>
  intro i acc ξ ζ h;unfold loadCellsFrom;refine υ.bind' ?_;obtain⟨p,ψ⟩:=ζ i (Nat.le_refl _) (by omega);have Ζ:(a.add i).spot=none:=by unfold Addr.add;split<;>simp[ξ]
  have Ε:(a.add i).block=a.block:=by unfold Addr.add;split<;>rfl
  have aY:(a.add i).off=a.off+i:=by unfold Addr.add;split<;>simp_all
  refine⟨rfl,Ζ,w i,p,by rw[Ε,aY];exact ψ,?_⟩;refine Δ (i+1) (acc.push (w i)) ξ (λj J γ=>ζ j (by omega) (by omega)) ?_;have:acc.push (w i)++((List.range n).map λj=>w (i+1+j)).toArray=acc++((List.range (n+1)).map λj=>w (i+j)).toArray:=by
   rw[List.range_succ_eq_map];apply Array.ext';simp[Function.comp_def,Nat.add_assoc,Nat.add_comm 1]
  rw[this];exact h
theorem υ.loadCells {a:Addr} (w:Nat->Value) {n:Nat} {K:Array Value->Α->Prop} (ξ:a.spot=none) (ζ:∀j,j<n->∃p,G.aG a.block (a.off+j)=some (w j,p)) (h:K ((List.range n).map w).toArray G):υ P (Go.loadCells a n) G K E:=by
 unfold Go.loadCells;exact υ.U8 w n 0 #[] ξ (λj _ ε=>ζ j (by omega)) (by simpa using h)
def Α.hk (G:Α) (b o:Nat) (vs:List Value):Α:={G with aG:=λΧ o'=>if Χ=b/\o<=o'/\o'<o+vs.length then some ((vs[o'-o]?).getD undef,true) else G.aG Χ o'}
theorem Α.Hb {H:Α} {b o:Nat} {vs:List Value}:∀r,(H.hk b o vs).fresh r->H.fresh r:=
 Α.G2 (λΧ o' h=>by
  simp only[Α.hk] at h;split at h
  ·cases h
  ·exact h) (λ_ h=>h) (λ_ h=>h)
theorem υ.storeCells {a:Addr} {K:Unit->Α->Prop} (ξ:a.spot=none) (bC:∃t n,G.row a.block=some (t,n)):∀(vs:List Value) (i:Nat) (G':Α),(∀v∈vs,One v)->(∀j,i<=j->j<i+vs.length->G'.owns a.block (a.off+j))->(G'.row=G.row)->K () (G'.hk a.block (a.off+i) vs)->υ P (Go.storeCells a vs i) G' K E:=by
 intro vs
 induction vs with
 | nil=>
  intro i G' _ _ _ h;have:G'.hk a.block (a.off+i) []=G':=by
   unfold Α.hk;have:∀Χ o',¬(Χ=a.block/\a.off+i<=o'/\o'<a.off+i+([]:List Value).length):=λΧ o' h=>by simp at h;omega
   simp only[this,if_false]
  rw[this] at h;exact h
 | cons v vs Δ=>
  intro i G' Cu fW μ h;unfold Go.storeCells;refine υ.bind' ?_;have Ζ:(a.add i).spot=none:=by unfold Addr.add;split<;>simp[ξ]
  have Ε:(a.add i).block=a.block:=by unfold Addr.add;split<;>rfl
  have aY:(a.add i).off=a.off+i:=by unfold Addr.add;split<;>simp_all
  refine⟨rfl,Ζ,by rw[Ε,aY];exact fW i (Nat.le_refl _) (by simp),by rw[Ε,μ];exact bC,Cu v (by simp),?_⟩;refine Δ (i+1) _ (λv hv=>Cu v (by simp[hv])) (λj J γ=>?_) μ ?_
  ·obtain⟨u,hu⟩:=fW j (by omega) (by simp;omega);refine⟨u,?_⟩;simp only[Α.vC,Ε,aY];rw[if_neg (by omega)];exact hu
  ·have:(G'.vC (a.add i) v).hk a.block (a.off+(i+1)) vs=G'.hk a.block (a.off+i) (v::vs):=by
    unfold Α.hk Α.vC;simp only[Ε,aY];congr 1
    funext Χ o'
    by_cases hb:Χ=a.block
    ·subst hb;by_cases J:o'=a.off+i
     ·subst J;rw[if_neg (by omega),if_pos ⟨rfl,rfl⟩,if_pos ⟨rfl,by omega,by simp⟩];simp
     ·by_cases γ:a.off+(i+1)<=o'/\o'<a.off+(i+1)+vs.length
      ·rw[if_pos ⟨rfl,γ⟩,if_pos ⟨rfl,by omega,by simp;omega⟩];have:o'-(a.off+i)=(o'-(a.off+(i+1)))+1:=by omega
       rw[this,List.getElem?_cons_succ]
      ·rw[if_neg (by intro x;exact γ x.2),if_neg (by intro x;exact J x.2),if_neg (by intro x;simp at x;omega)]
    ·rw[if_neg (λx=>hb x.1),if_neg (λx=>hb x.1),if_neg (λx=>hb x.1)]
   rw[this];exact h
end
def ks (H H':Α) (b:Nat):Prop:=(∀o,H'.aG b o=H.aG b o)/\H'.row b=H.row b/\H'.obj b=H.obj b
theorem nm.su {fb:aB} {dK H:Α} {b:Nat} (h:nm fb dK H b) (Η:∀o,fb b o=none):ks dK H b:=
 ⟨λo=>(h.1 o).elim id λ⟨v,p,J,_⟩=>(by rw[Η o] at J;cases J),h.2⟩
section
variable {S ax:aB} {B B':aR} {σ σ':List Row} {H H':Α}
theorem sr.later (ω:b3 S ax B B' σ σ') {es:List (θ×θ)} {xs:Array MapEntry} {clock:Nat} (h:sr S B σ es xs clock):sr ax B' σ' es xs clock:=
 ⟨h.1,λi e y J γ=>⟨(h.2.1 i e y J γ).1.later ω,(h.2.1 i e y J γ).2.1.later ω,(h.2.1 i e y J γ).2.2⟩,h.2.2⟩
theorem Cx.later (ω:b3 S ax B B' σ σ') {left:List (θ×θ)} {cur:Option (θ×θ)} {xs:Array MapEntry} {clock:Nat} {seen:Array Nat} (h:Cx S B σ left cur xs clock seen):Cx ax B' σ' left cur xs clock seen:=by
 obtain⟨⟨b5,J,γ,π⟩,Μ,aA⟩:=h;refine⟨⟨b5,J,γ,λi e y a b=>⟨(π i e y a b).1.later ω,(π i e y a b).2.later ω⟩⟩,Μ,λe he=>?_⟩;obtain⟨st,y,a,b,c,d⟩:=aA e he;exact⟨st,y,a,b,c.later ω,d.later ω⟩
theorem jC.later (ω:b3 S ax B B' σ σ') {r:Row} {bo:Option (Nat×Nat)} (h:jC S B σ H r bo) (ξ:∀b N,bo=some (b,N)->ks H H' b)
  (dk:∀m left cur,r=.iter m left cur->σ'[m]?=σ[m]?/\B'[m]?=B[m]?/\∀b N,B[m]?=some (some (b,N))->ks H H' b):jC ax B' σ' H' r bo:=by
 cases r with
 | cells t k l=>
  cases bo with
  | none=>exact h
  | some x=>
   obtain⟨b,N⟩:=x;obtain⟨a1,bl,_⟩:=ξ b N rfl;obtain⟨J,γ,π,w,Μ⟩:=h;refine⟨by rw[bl];exact J,γ,λo Γ=>by rw[a1];exact π o Γ,w,λi e hi=>⟨(Μ i e hi).1,λj a ε=>?_⟩⟩;obtain⟨c1,c2,c3⟩:=(Μ i e hi).2 j a ε;exact⟨by rw[a1];exact c1,c2.later ω,c3⟩
 | map es=>
  obtain⟨b,N,xs,clock,rfl,J,γ⟩:=h;exact⟨b,N,xs,clock,rfl,by rw[(ξ b N rfl).2.2];exact J,γ.later ω⟩
 | iter m left cur=>
  obtain⟨b,N,aT,kN,xs,clock,seen,rfl,J,γ,π,Μ,aA⟩:=h;obtain⟨i1,i2,i3⟩:=dk m left cur rfl;exact⟨b,N,aT,kN,xs,clock,seen,rfl,by rw[i2];exact J,by rw[i1];exact γ,by rw[(ξ b N rfl).2.2];exact π,by rw[(i3 aT kN J).2.2];exact Μ,aA.later ω⟩
 | dead=>trivial
theorem oY {id:Nat} {b N:Nat} (h:B[id]?=some (some (b,N))):B.has b:=⟨N,ck h⟩
theorem Holds.n6 (Β:Holds S B σ H) {id b N:Nat} {r:Row} (μ:σ[id]?=some r) (ω:r.live) (hb:B[id]?=some (some (b,N))):¬H.fresh b:=λΦ=>by
 have h:=Β.row id r _ μ hb;cases r with
 | cells t k l=>have:=h.1;rw[Φ.2.1] at this;cases this
 | map es=>
  obtain⟨Χ,eP,xs,clock,e,J,_⟩:=h;cases e;rw[Φ.2.2.1] at J;cases J
 | iter m left cur=>
  obtain⟨Χ,eP,aT,kN,xs,clock,seen,e,_,_,J,_⟩:=h;cases e;rw[Φ.2.2.1] at J;cases J
 | dead=>exact ω
theorem U9 {id:Nat} {r r':Row} {bo bo':Option (Nat×Nat)} (μ:σ[id]?=some r) (hb:B[id]?=some bo) (xA:r.to r' (some bo) (some bo')):b3 S S B (B.set id bo') σ (σ.set id r'):=by
 have bW:id<σ.length:=(b7.1 μ).1
 have oZ:id<B.length:=(b7.1 hb).1;refine⟨λ_ _ _ h=>h,λj b' ε=>?_⟩;by_cases e:id=j
 ·subst e;rw[μ] at ε;cases ε;refine⟨r',by rw[List.getElem?_set_self bW],?_⟩;rw[hb,List.getElem?_set_self oZ];exact xA
 ·exact⟨b',by rw[List.getElem?_set_ne e];exact ε,by rw[List.getElem?_set_ne e];exact b'.tN _⟩
theorem Holds.xB (Β:Holds S B σ H) {id:Nat} {r r':Row} {bo bo':Option (Nat×Nat)} (μ:σ[id]?=some r) (fc:r.live) (hb:B[id]?=some bo) (xA:r.to r' (some bo) (some bo'))
  (fW:∀b eP,bo'=some (b,eP)->(∃N,bo=some (b,N))\/H.fresh b) (cA:∀b,(∀N,bo≠some (b,N))->(∀N,bo'≠some (b,N))->ks H H' b) (tH:∀b,H'.fresh b->H.fresh b)
  (dk:∀(j:Nat) left cur,σ[j]?≠some (Row.iter id left cur)) (bC:b3 S S B (B.set id bo') σ (σ.set id r')->jC S (B.set id bo') (σ.set id r') H' r' bo') :
  Holds S (B.set id bo') (σ.set id r') H'/\Ext S B H S (B.set id bo') H'/\b3 S S B (B.set id bo') σ (σ.set id r'):=by
 have ω:=U9 (S:=S) μ hb xA
 have bW:id<σ.length:=(b7.1 μ).1
 have oZ:id<B.length:=(b7.1 hb).1
 have other:∀(j:Nat) (b':Row) (b N:Nat),j≠id->σ[j]?=some b'->b'.live->B[j]?=some (some (b,N))->ks H H' b:=λj b' b N ε zC d' cN=>by
  refine cA b (λeP e=>?_) (λeP e=>?_)
  ·exact Β.inj j id b' r b N eP ε zC μ d' fc cN (by rw[hb,e])
  ·rcases fW b eP e with⟨pU,γ⟩|γ
   ·exact Β.inj j id b' r b N pU ε zC μ d' fc cN (by rw[hb,γ])
   ·exact Β.n6 zC d' cN γ
 refine⟨⟨λb o v hv=>?_,by simp[Β.len],λj b' tO ε cN=>?_,λi j ec b' b gF gG e0 hi ε hl d' hn cN=>?_,λj b' b N ε d' cN o=>?_⟩,⟨λ_ _ _ h=>h,λb jA Φ=>?_,λb jA=>?_,λb o v hv=>.inl hv,tH⟩,ω⟩
 ·have ag:=Β.dd b o v hv
  have Η:∀N,bo≠some (b,N):=λN e=>by
   have:=Β.sep id r b N μ fc (by rw[hb,e]) o;rw[hv] at this;cases this
  have q4:∀N,bo'≠some (b,N):=λN e=>by
   rcases fW b N e with⟨pU,γ⟩|γ
   ·exact Η pU γ
   ·obtain⟨p,ψ⟩:=ag;rw[γ.1 o] at ψ;cases ψ
  rw[(cA b Η q4).1];exact ag
 ·by_cases e:id=j
  ·subst e;rw[List.getElem?_set_self bW] at ε;rw[List.getElem?_set_self oZ] at cN;cases ε;cases cN;exact bC ω
  ·rw[List.getElem?_set_ne e] at ε cN;by_cases d':b'.live
   ·refine(Β.row j b' tO ε cN).later ω (λb N iz=>other j b' b N (Ne.symm e) ε d' (by rw[cN,iz])) λm left cur eE=>?_;subst eE;have hm:id≠m:=λx=>by subst x;exact dk j left cur ε
    refine⟨by rw[List.getElem?_set_ne hm],by rw[List.getElem?_set_ne hm],λb N sw=>?_⟩;obtain⟨_,_,aT,kN,xs,clock,seen,_,J,⟨es,γ⟩,_⟩:=Β.row j _ tO ε cN;exact other m _ b N (Ne.symm hm) γ trivial sw
   ·cases b'<;>first|exact absurd trivial d'|trivial
 ·have key:∀(i:Nat) (ec:Row) (N:Nat),(σ.set id r')[i]?=some ec->ec.live->(B.set id bo')[i]?=some (some (b,N))->i≠id->(σ[i]?=some ec/\B[i]?=some (some (b,N))):=λi ec N J _ π bz=>by
   rw[List.getElem?_set_ne (Ne.symm bz)] at J π;exact⟨J,π⟩
  have zD:∀(i:Nat) (ec:Row) (N eP:Nat),i≠id->σ[i]?=some ec->ec.live->B[i]?=some (some (b,N))->bo'=some (b,eP)->False:=λi ec N eP bz J γ π Μ=>by
   rcases fW b eP Μ with⟨pU,aA⟩|aA
   ·exact Β.inj i id ec r b N pU bz J μ γ fc π (by rw[hb,aA])
   ·exact Β.n6 J γ π aA
  by_cases xn:i=id
  ·subst xn;rw[List.getElem?_set_self oZ] at hn;obtain⟨J,γ⟩:=key j b' gG ε d' cN (Ne.symm e0);exact zD j b' gG gF (Ne.symm e0) J d' γ (by simpa using hn)
  ·obtain⟨J,γ⟩:=key i ec gF hi hl hn xn;by_cases mA:j=id
   ·subst mA;rw[List.getElem?_set_self oZ] at cN;exact zD i ec gF gG e0 J hl γ (by simpa using cN)
   ·obtain⟨π,Μ⟩:=key j b' gG ε d' cN mA;exact Β.inj i j ec b' b gF gG e0 J π hl d' γ Μ
 ·by_cases e:id=j
  ·subst e;rw[List.getElem?_set_self oZ] at cN;have U':bo'=some (b,N):=by simpa using cN
   rcases fW b N U' with⟨pU,γ⟩|γ
   ·exact Β.sep id r b pU μ fc (by rw[hb,γ]) o
   ·cases hv:S b o with
    | none=>rfl
    | some v=>obtain⟨p,ψ⟩:=Β.dd b o v hv;rw[γ.1 o] at ψ;cases ψ
  ·rw[List.getElem?_set_ne e] at ε cN;exact Β.sep j b' b N ε d' cN o
 ·refine nm.of (cA b (λN e=>jA (oY (id:=id) (N:=N) (by rw[hb,e]))) λN e=>?_);rcases fW b N e with⟨pU,γ⟩|γ
  ·exact jA (oY (id:=id) (N:=pU) (by rw[hb,γ]))
  ·exact Φ γ
 ·obtain⟨N,b8⟩:=jA;obtain⟨j,ε⟩:=List.getElem?_of_mem b8;by_cases e:id=j
  ·subst e;rw[List.getElem?_set_self oZ] at ε;rcases fW b N (by simpa using ε) with⟨pU,γ⟩|γ
   ·exact .inl (oY (id:=id) (N:=pU) (by rw[hb,γ]))
   ·exact .inr γ
  ·rw[List.getElem?_set_ne e] at ε;exact .inl (oY ε)
theorem Va {r:Row} {bo:Option (Nat×Nat)} (hlen:B.length=σ.length):b3 S S B (B++[bo]) σ (σ++[r]):=by
 refine⟨λ_ _ _ h=>h,λj b' ε=>?_⟩;have aD:=(b7.1 ε).1;exact⟨b',by rw[dB aD];exact ε,by rw[dB (by omega)];exact b'.tN _⟩
theorem Holds.push (Β:Holds S B σ H) {r:Row} {bo:Option (Nat×Nat)} (fW:∀b N,bo=some (b,N)->H.fresh b) (cA:∀b,(∀N,bo≠some (b,N))->ks H H' b)
  (bC:b3 S S B (B++[bo]) σ (σ++[r])->jC S (B++[bo]) (σ++[r]) H' r bo) :
  Holds S (B++[bo]) (σ++[r]) H'/\Ext S B H S (B++[bo]) H'/\b3 S S B (B++[bo]) σ (σ++[r]):=by
 have ω:=Va (S:=S) (r:=r) (bo:=bo) Β.len
 have hlen:=Β.len
 have tH:∀b,H'.fresh b->H.fresh b:=by
  have key:∀b,((∀o,H'.aG b o=none)->∀o,H.aG b o=none)/\(H'.row b=none->H.row b=none)/\(H'.obj b=none->H.obj b=none):=λb=>by
   by_cases e:∀N,bo≠some (b,N)
   ·obtain⟨a1,bl,cz⟩:=cA b e;exact⟨λh o=>by rw[<-a1 o];exact h o,λh=>by rw[<-bl];exact h,λh=>by rw[<-cz];exact h⟩
   ·obtain⟨N,b8⟩:=Classical.not_forall.1 e;have Φ:=fW b N (Classical.not_not.1 b8);exact⟨λ_=>Φ.1,λ_=>Φ.2.1,λ_=>Φ.2.2.1⟩
  exact λb hb=>⟨(key b).1 hb.1,(key b).2.1 hb.2.1,(key b).2.2 hb.2.2.1,λΧ aD=>⟨(key Χ).1 (hb.2.2.2 Χ aD).1,(key Χ).2.1 (hb.2.2.2 Χ aD).2.1,(key Χ).2.2 (hb.2.2.2 Χ aD).2.2⟩⟩
 have other:∀(j:Nat) (b':Row) (b N:Nat),σ[j]?=some b'->b'.live->B[j]?=some (some (b,N))->ks H H' b:=λj b' b N zC d' cN=>
  cA b λeP e=>Β.n6 zC d' cN (fW b eP e)
 have old:∀{α:Type} (l:List α) (x:α) (j:Nat) (y:α),(l++[x])[j]?=some y->(j<l.length/\l[j]?=some y)\/(j=l.length/\x=y):=λl x j y h=>by
  by_cases ε:j<l.length
  ·rw[dB ε] at h;exact .inl ⟨ε,h⟩
  ·rw[fS (by omega)] at h;have:j-l.length=0:=by
    have:=(b7.1 h).1;simp at this;omega
   rw[this] at h;simp at h;exact .inr ⟨by omega,h⟩
 refine⟨⟨λb o v hv=>?_,by simp[hlen],λj b' tO ε cN=>?_,λi j ec b' b gF gG e0 hi ε hl d' hn cN=>?_,λj b' b N ε d' cN o=>?_⟩,⟨λ_ _ _ h=>h,λb jA Φ=>?_,λb jA=>?_,λb o v hv=>.inl hv,tH⟩,ω⟩
 ·obtain⟨p,ψ⟩:=Β.dd b o v hv;rw[(cA b λN e=>by have:=(fW b N e).1 o;rw[ψ] at this;cases this).1];exact⟨p,ψ⟩
 ·rcases old σ r j b' ε with⟨J,γ⟩|⟨J,rfl⟩
  ·rw[dB (by omega)] at cN;by_cases d':b'.live
   ·refine(Β.row j b' tO γ cN).later ω (λb N iz=>other j b' b N γ d' (by rw[cN,iz])) λm left cur eE=>?_;subst eE;obtain⟨_,_,aT,kN,xs,clock,seen,_,Ζ,⟨es,Ε⟩,_⟩:=Β.row j _ tO γ cN;have hm:=(b7.1 Ε).1;exact⟨by rw[dB hm],by rw[dB (by omega)],λb N sw=>other m _ b N Ε trivial sw⟩
   ·cases b'<;>first|exact absurd trivial d'|trivial
  ·rw[J,<-hlen] at cN;simp at cN;subst cN;exact bC ω
 ·rcases old σ r i ec hi with⟨J,γ⟩|⟨J,rfl⟩<;>rcases old σ r j b' ε with⟨π,Μ⟩|⟨π,rfl⟩
  ·rw[dB (by omega)] at hn cN;exact Β.inj i j ec b' b gF gG e0 γ Μ hl d' hn cN
  ·rw[dB (by omega)] at hn;rw[π,<-hlen] at cN;simp at cN;exact Β.n6 γ hl hn (fW b gG cN)
  ·rw[dB (by omega)] at cN;rw[J,<-hlen] at hn;simp at hn;exact Β.n6 Μ d' cN (fW b gF hn)
  ·omega
 ·rcases old σ r j b' ε with⟨J,γ⟩|⟨J,rfl⟩
  ·rw[dB (by omega)] at cN;exact Β.sep j b' b N γ d' cN o
  ·rw[J,<-hlen] at cN;simp at cN;cases hv:S b o with
   | none=>rfl
   | some v=>obtain⟨p,ψ⟩:=Β.dd b o v hv;rw[(fW b N cN).1 o] at ψ;cases ψ
 ·exact nm.of (cA b λN e=>Φ (fW b N e))
 ·obtain⟨N,b8⟩:=jA;rcases List.mem_append.1 b8 with h|h
  ·exact .inl ⟨N,h⟩
  ·simp at h;exact .inr (fW b N h.symm)
def aB.lay (S:aB) (r:Nat) (c:Array Value):aB:=λb o=>if b=r then c[o]? else S b o
theorem Holds.lay (Β:Holds S B σ H) {r:Nat} {c:Array Value} {t:TypeId} (Φ:H.fresh r) :
  Holds (S.lay r c) B σ (H.dv r c t)/\Ext S B H (S.lay r c) B (H.dv r c t)/\b3 S (S.lay r c) B B σ σ:=by
 have Η:∀o,S r o=none:=λo=>by
  cases hv:S r o with
  | none=>rfl
  | some v=>obtain⟨p,ψ⟩:=Β.dd r o v hv;rw[Φ.1 o] at ψ;cases ψ
 have cA:∀b o v,S b o=some v->S.lay r c b o=some v:=λb o v h=>by
  unfold aB.lay;rw[if_neg (λe=>by subst e;rw[Η] at h;cases h)];exact h
 have ω:b3 S (S.lay r c) B B σ σ:=⟨cA,λ_ b' h=>⟨b',h,b'.tN _⟩⟩
 have aS:∀b,b≠r->ks H (H.dv r c t) b:=λb hb=>⟨λo=>by simp[Α.dv,hb],by simp[Α.dv,hb],rfl⟩;refine⟨⟨λb o v hv=>?_,Β.len,λj b' tO ε cN=>?_,Β.inj,λj b' b N ε d' cN o=>?_⟩,⟨cA,λb _ o0=>nm.of (aS b λe=>o0 (e▸Φ)),λb hb=>.inl hb,λb o v hv=>?_,Α.MQ Φ c t⟩,ω⟩
 ·unfold aB.lay at hv;split at hv
  ·rename_i e;subst e;exact⟨true,by simp[Α.dv,hv]⟩
  ·rename_i e;rw[(aS b e).1];exact Β.dd b o v hv
 ·by_cases d':b'.live
  ·have CA:∀(j:Nat) (b':Row) (b N:Nat),σ[j]?=some b'->b'.live->B[j]?=some (some (b,N))->b≠r:=λj b' b N J γ π e=>Β.n6 J γ π (e▸Φ);refine(Β.row j b' tO ε cN).later ω (λb N iz=>aS b (CA j b' b N ε d' (by rw[cN,iz]))) λm left cur eE=>?_;subst eE;obtain⟨_,_,aT,kN,xs,clock,seen,_,Ζ,⟨es,Ε⟩,_⟩:=Β.row j _ tO ε cN;exact⟨rfl,rfl,λb N sw=>aS b (CA m _ b N Ε trivial sw)⟩
  ·cases b'<;>first|exact absurd trivial d'|trivial
 ·unfold aB.lay;rw[if_neg (λe:b=r=>Β.n6 ε d' cN (e▸Φ))];exact Β.sep j b' b N ε d' cN o
 ·unfold aB.lay at hv;split at hv
  ·rename_i e;subst e;exact .inr (.inr Φ)
  ·exact .inl hv
end
def zE:Value->θ
 | .slice none 0 0=>.sl true 0 []
 | v=>.z v
def ho:Value->θ
 | .agg vs=>.aS (vs.toList.map zE)
 | v=>zE v
def aQ (env:aa):Operand->θ
 | .tmp n=>a3 env n
 | .const v=>ho v
 | .global _=>.cg
 | .func f=>.fn (.func f) [] []
theorem MZ {S:aB} {B:aR} {σ:List Row} (v:Value):ao S B σ (zE v) v:=by
 unfold zE;split
 ·exact .iA none 0 λ_=>rfl
 ·exact .z v
theorem pV {S:aB} {B:aR} {σ:List Row} (v:Value):ao S B σ (ho v) v:=by
 unfold ho;split
 ·rename_i vs;refine .aS vs (by simp) λi a w J γ=>?_;rw[List.getElem?_map,Array.getElem?_toList,γ] at J;cases J;exact MZ w
 ·exact MZ _
theorem lJ {S:aB} {B:aR} {σ:List Row} {env:aa} {t:Array Value} (h:de S B σ env t) (o:Operand):ao S B σ (aQ env o) (bs t o):=by
 cases o with
 | tmp n=>exact h n
 | const v=>exact pV v
 | global g=>exact .cg _
 | func f=>exact .fn #[] #[] rfl rfl (λi a v hi=>by simp at hi) (λi a v hi=>by simp at hi)
inductive cZ where
 | ok (a:θ) (σ:List Row)
 | b4 (p:Prop) (r:cZ)
 | all (n:Nat) (f:Nat->cZ)
 | bad
def cZ.holds (K:θ->List Row->Prop):cZ->Prop
 | .ok a σ=>K a σ
 | .b4 p r=>p/\r.holds K
 | .all n f=>∀i,i<n->(f i).holds K
 | .bad=>False
def M0:Next->Option Value
 | .value v=>some v
 | .skip=>some undef
 | _=>none
def iX:TypeDesc->Bool
 | .int _|.string|.bool=>true
 | _=>false
def Hc (P:Program) (t:TypeId):Option (List (TypeDesc×Nat))->Prop
 | none=>True
 | some items=>P.eqGuardType P.depth t=false/\items.map (·.2)=List.range items.length/\
  ((∃c5,P.underlying t=some (.struct c5)/\P.stoodInHeld t=false/\items=c5.toList.map (λf=>((P.underlying f.type).getD .invalid,f.offset))/\∀f∈c5.toList,f.name≠ "_" /\ ∃d,P.underlying f.type=some d/\iX d=true)\/
   ∃n e d f,P.underlying t=some (.array n e)/\P.underlying e=some d/\iX d=true/\P.info? e=some f/\f.size=1/\items=(List.range n).map λi=>(d,i))
structure ia where
 size:Nat
 bD:TypeDesc
 zero:Value
 bytes:Nat
 eqs:Option (List (TypeDesc×Nat))
def ia.agg (i:ia):Bool:=kP i.bD
abbrev bd:=TypeId->Option ia
def bR (P:Program) (T:bd):Prop:=∀t i,T t=some i->(P.underlying t=some i.bD/\Hc P t i.eqs)/\∃f,P.info? t=some f/\f.size=i.size/\f.zero=some i.zero/\f.bytes=i.bytes
def iB (S:aB) (B:aR) (H:Α) (σ:List Row) (K:θ->List Row->Prop) (v:Value) (H':Α):Prop:=
 ∃ax B' σ' a,K a σ'/\Ext S B H ax B' H'/\Holds ax B' σ' H'/\b3 S ax B B' σ σ'/\ao ax B' σ' a v
def cF (P:Program) (s:Sem Value) (S:aB) (B:aR) (H:Α) (σ:List Row) (r:cZ):Prop:=
 ∀K:θ->List Row->Prop,r.holds K->υ P s H (iB S B H σ K) (λ_ _=>False)
def Does (P:Program) (s:Sem Next) (S:aB) (B:aR) (H:Α) (σ:List Row) (r:cZ):Prop:=
 ∀K:θ->List Row->Prop,r.holds K->υ P s H (λgv H'=>∃v,M0 gv=some v/\iB S B H σ K v H') (λ_ _=>False)
section
variable {P:Program} {T:bd} {S:aB} {B:aR} {H:Α} {σ:List Row} {env:aa} {t:Array Value}
theorem cF.next {s:Sem Value} {r:cZ} (h:cF P s S B H σ r):Does P (do pure (.value (<-s))) S B H σ r:=λK I=>
 υ.bind' (υ.mono (λv G hb=>υ.pure' ⟨v,rfl,hb⟩) (λ_ _ h=>h) _ (h K I))
theorem iB.same {K:θ->List Row->Prop} {a:θ} {v:Value} (Β:Holds S B σ H) (I:K a σ) (ξ:ao S B σ a v):iB S B H σ K v H:=⟨S,B,σ,a,I,.refl _ _ _,Β,.refl _ _ _,ξ⟩
theorem cF.pure {a:θ} {v:Value} (Β:Holds S B σ H) (ξ:ao S B σ a v):cF P (pure v) S B H σ (.ok a σ):=λK I=>
 υ.pure' (.same Β I ξ)
theorem cF.bad {s:Sem Value}:cF P s S B H σ .bad:=λK I=>I.elim
theorem cF.b4 {s:Sem Value} {p:Prop} {r:cZ} (h:p->cF P s S B H σ r):cF P s S B H σ (.b4 p r):=λK I=>h I.1 K I.2
theorem Does.val {a:θ} {v:Value} (Β:Holds S B σ H) (ξ:ao S B σ a v):Does P (pure (.value v)) S B H σ (.ok a σ):=λK I=>
 υ.pure' ⟨v,rfl,.same Β I ξ⟩
theorem Does.bad {s:Sem Next}:Does P s S B H σ .bad:=λK I=>I.elim
theorem bR.size (Κ:bR P T) {ty:TypeId} {i:ia} (h:T ty=some i) {G:Α} {K:Nat->Α->Prop} {E:Value->Α->Prop} (χ:K i.size G):υ P (sizeOf ty) G K E:=by
 obtain⟨_,f,J,γ,_⟩:=Κ ty i h;exact υ.sizeOf J (by rw[γ];exact χ)
theorem bR.bD (Κ:bR P T) {ty:TypeId} {i:ia} (h:T ty=some i) {G:Α} {K:TypeDesc->Α->Prop} {E:Value->Α->Prop} (χ:K i.bD G):υ P (underlying ty) G K E:=
 υ.underlying (Κ ty i h).1.1 χ
theorem bR.agg (Κ:bR P T) {ty:TypeId} {i:ia} (h:T ty=some i) {G:Α} {K:Bool->Α->Prop} {E:Value->Α->Prop} (χ:K i.agg G):υ P (isAgg ty) G K E:=
 υ.isAgg (Κ ty i h).1.1 χ
theorem bR.zero (Κ:bR P T) {ty:TypeId} {i:ia} (h:T ty=some i) {G:Α} {K:Value->Α->Prop} {E:Value->Α->Prop} (χ:K i.zero G):υ P (zeroValue ty) G K E:=by
 obtain⟨_,f,J,_,π,_⟩:=Κ ty i h;exact υ.zeroValue J π χ
theorem bR.info (Κ:bR P T) {ty:TypeId} {i:ia} (h:T ty=some i) {G:Α} {K:TypeInfo->Α->Prop} {E:Value->Α->Prop} (χ:∀f:TypeInfo,f.bytes=i.bytes->K f G):υ P (typeInfo ty) G K E:=by
 obtain⟨_,f,J,_,_,Μ⟩:=Κ ty i h;exact υ.typeInfo J (χ f Μ)
end
inductive cw where
 | ok (a:θ)
 | b4 (p:Prop) (r:cw)
 | bad
def cw.dq (σ:List Row):cw->cZ
 | .ok a=>.ok a σ
 | .b4 p r=>.b4 p (r.dq σ)
 | .bad=>.bad
section
variable {P:Program} {T:bd} {S:aB} {B:aR} {H:Α} {σ:List Row} {env:aa} {t:Array Value}
def eS (k:IntKind) (a b:Int):Int:=k.wrap (BitVec.ofInt k.bits a&&&BitVec.ofInt k.bits b).toNat
def q5 (k:IntKind) (a b:Int):Int:=k.wrap (BitVec.ofInt k.bits a|||BitVec.ofInt k.bits b).toNat
def zF (k:IntKind) (a b:Int):Int:=k.wrap (BitVec.ofInt k.bits a^^^BitVec.ofInt k.bits b).toNat
def kQ (k:IntKind) (a b:Int):Int:=k.wrap (BitVec.ofInt k.bits a&&&~~~BitVec.ofInt k.bits b).toNat
def CB (a b:ByteArray):Bool:=Op.bytesLess a.toList b.toList
def sx (a b:ByteArray):Bool:=Op.bytesLess a.toList b.toList||a.toList==b.toList
def sy (op:BinOp) (x y:Value):cw:=
 match op,x,y with
 | .shl,.int k a,.int _ b=>.b4 (0<=b) (.ok (.z (.int k (k.wrap (a*2 ^ (min b.toNat k.bits))))))
 | .shr,.int k a,.int _ b=>.b4 (0<=b) (.ok (.z (.int k (a.fdiv (2 ^ (min b.toNat k.bits))))))
 | .add,.int k a,.int ab b=>if k=ab then .ok (.z (.int k (k.wrap (a+b)))) else .bad
 | .sub,.int k a,.int ab b=>if k=ab then .ok (.z (.int k (k.wrap (a-b)))) else .bad
 | .mul,.int k a,.int ab b=>if k=ab then .ok (.z (.int k (k.wrap (a*b)))) else .bad
 | .quo,.int k a,.int ab b=>if k=ab then .b4 (b≠0) (.ok (.z (.int k (k.wrap (a.tdiv b))))) else .bad
 | .rem,.int k a,.int ab b=>if k=ab then .b4 (b≠0) (.ok (.z (.int k (a.tmod b)))) else .bad
 | .and,.int k a,.int ab b=>if k=ab then .ok (.z (.int k (eS k a b))) else .bad
 | .or,.int k a,.int ab b=>if k=ab then .ok (.z (.int k (q5 k a b))) else .bad
 | .xor,.int k a,.int ab b=>if k=ab then .ok (.z (.int k (zF k a b))) else .bad
 | .andNot,.int k a,.int ab b=>if k=ab then .ok (.z (.int k (kQ k a b))) else .bad
 | .eql,.int k a,.int ab b=>if k=ab then .ok (.z (.bool (a==b))) else .bad
 | .neq,.int k a,.int ab b=>if k=ab then .ok (.z (.bool (a != b))) else .bad
 | .lss,.int k a,.int ab b=>if k=ab then .ok (.z (.bool (decide (a<b)))) else .bad
 | .leq,.int k a,.int ab b=>if k=ab then .ok (.z (.bool (decide (a<=b)))) else .bad
 | .gtr,.int k a,.int ab b=>if k=ab then .ok (.z (.bool (decide (a > b)))) else .bad
 | .geq,.int k a,.int ab b=>if k=ab then .ok (.z (.bool (decide (a>=b)))) else .bad
 | .add,.string a,.string b=>.b4 (((a.size+b.size:Nat):Int)<=IntKind.i64.max) (.ok (.z (.string (a++b))))
 | .eql,.string a,.string b=>.ok (.z (.bool (a.toList==b.toList)))
 | .neq,.string a,.string b=>.ok (.z (.bool !(a.toList==b.toList)))
 | .lss,.string a,.string b=>.ok (.z (.bool (CB a b)))
 | .leq,.string a,.string b=>.ok (.z (.bool (sx a b)))
 | .gtr,.string a,.string b=>.ok (.z (.bool (!(sx a b))))
 | .geq,.string a,.string b=>.ok (.z (.bool (!(CB a b))))
 | _,_,_=>.bad
theorem Vb (Β:Holds S B σ H) (op:BinOp) (ty:TypeId) (p q:Operand) (x y:Value):cF P (do eqGuard op ty p q x y;binOp op ty x y) S B H σ ((sy op x y).dq σ):=by
 unfold sy;split
 case h_25=>exact .bad
 case h_1=>
  refine .b4 λh=>?_;have cJ:¬(_:Int)<0:=Int.not_lt.2 h;simp only[eqGuard,binOp,Op.shift,cJ,if_false];exact .pure Β (.z _)
 case h_2=>
  refine .b4 λh=>?_;have cJ:¬(_:Int)<0:=Int.not_lt.2 h;simp only[eqGuard,binOp,Op.shift,cJ,if_false];exact .pure Β (.z _)
 case h_6=>
  split
  ·rename_i e;subst e;exact .b4 λh=>by simp only[eqGuard,binOp,Op.intDiv,h,if_false,ne_eq,not_true_eq_false];exact .pure Β (.z _)
  ·exact .bad
 case h_7=>
  split
  ·rename_i e;subst e;exact .b4 λh=>by simp only[eqGuard,binOp,Op.intDiv,h,if_false,ne_eq,not_true_eq_false];exact .pure Β (.z _)
  ·exact .bad
 case h_18=>
  refine .b4 λh=>?_;have cJ:¬((_:Int) > IntKind.i64.max):=Int.not_lt.2 h;simp only[eqGuard,binOp,Op.stringOp,cJ,if_false];exact .pure Β (.z _)
 all_goals first
  | exact .pure Β (.z _)
  |(split
    ·rename_i e;subst e;simp only[eqGuard,binOp,Op.intArith,Op.intBits,Op.intCmp,ne_eq,not_true_eq_false,if_false];exact .pure Β (.z _)
    ·exact .bad)
def xC (op:UnOp):θ->cw
 | .z (.bool b)=>match op with|.not=>.ok (.z (.bool !b))|_=>.bad
 | .z (.int k n)=>match op with|.neg=>.ok (.z (.int k (k.wrap (0-n))))|_=>.bad
 | _=>.bad
theorem Vd (Β:Holds S B σ H) (op:UnOp) {a:θ} {v:Value} (ξ:ao S B σ a v):cF P (Op.unary op v) S B H σ ((xC op a).dq σ):=by
 unfold xC;split
 ·cases ξ;split
  ·exact .pure Β (.z _)
  ·exact .bad
 ·cases ξ;split
  ·exact .pure Β (.z _)
  ·exact .bad
 ·exact .bad
def CC (i:Nat):θ->cw
 | .bn l=>match l[i]? with|some a=>.ok a|none=>.bad
 | .z (.tuple vs)=>match vs[i]? with|some v=>.ok (ho v)|none=>.bad
 | _=>.bad
theorem Ve (Β:Holds S B σ H) (i:Nat) {a:θ} {v:Value} (ξ:ao S B σ a v):cF P (Instr.extract v i) S B H σ ((CC i a).dq σ):=by
 unfold CC;split
 ·rename_i l;cases ξ with
  | bn vs J γ=>
   cases ω:l[i]? with
   | none=>exact .bad
   | some a=>
    have aD:i<vs.size:=by rw[<-J];exact(b7.1 ω).1
    have hv:vs[i]?=some vs[i]:=e7 aD;simp only[Instr.extract,hv];exact .pure Β (γ i a _ ω hv)
 ·rename_i vs;cases ξ;cases hv:vs[i]? with
  | none=>exact .bad
  | some v=>simp only[Instr.extract,hv];exact .pure Β (pV v)
 ·exact .bad
def CD (T:bd) (ty:TypeId) (a:θ):cw:=match T ty with
 | some i=>match i.bD with|.interface _=>.bad|_=>.ok (.fF ty a)
 | none=>.bad
theorem Vf (Κ:bR P T) (Β:Holds S B σ H) (ty:TypeId) {a:θ} {v:Value} (ξ:ao S B σ a v):cF P (Instr.makeInterface ty v) S B H σ ((CD T ty a).dq σ):=by
 unfold CD;cases hi:T ty with
 | none=>exact .bad
 | some i=>
  intro K I;unfold Instr.makeInterface;refine υ.bind' (Κ.bD hi ?_);cases hu:i.bD<;>simp only[hu,cw.dq,cZ.holds] at I<;>first|exact I.elim|exact υ.pure' (.same Β I (.fF v ξ))
def vE (T:bd) (ty:TypeId) (ok:Bool) (a:θ):cw:=match T ty with
 | some i=>match i.bD with
  | .interface _=>.bad
  | _=>match a with
   | .fF t x=>if t=ty then .ok (if ok then .bn [x,.z (.bool true)] else x) else if ok then .ok (.bn [ho i.zero,.z (.bool false)]) else .bad
   | .z .nilIface=>if ok then .ok (.bn [ho i.zero,.z (.bool false)]) else .bad
   | _=>.bad
 | none=>.bad
theorem xD {a b:θ} {v w:Value} (h:ao S B σ a v) (k:ao S B σ b w):ao S B σ (.bn [a,b]) (.tuple #[v,w]):=by
 refine .bn _ rfl λi b1 e8 J γ=>?_
 match i with
 | 0=>simp at J γ;subst J;subst γ;exact h
 | 1=>simp at J γ;subst J;subst γ;exact k
 | i+2=>simp at J
theorem Vg (Κ:bR P T) (Β:Holds S B σ H) (Vh ty:TypeId) (ok:Bool) {a:θ} {v:Value} (ξ:ao S B σ a v):cF P (Instr.typeAssert v Vh ty ok) S B H σ ((vE T ty ok a).dq σ):=by
 unfold vE;cases hi:T ty with
 | none=>exact .bad
 | some i=>
  simp only;by_cases br:∃w,i.bD=.interface w
  ·obtain⟨w,hw⟩:=br;rw[hw];exact .bad
  have e:∀r:cw,(match i.bD with|.interface _=>cw.bad|_=>r)=r:=λr=>by
   cases hu:i.bD<;>first|rfl|exact absurd ⟨_,hu⟩ br
  rw[e];clear e;split
  ·rename_i t x;cases ξ with
   | fF w U=>
    split
    ·rename_i e;subst e;intro K I;unfold Instr.typeAssert;refine υ.bind' (Κ.bD hi ?_);generalize i.bD=d at br ⊢;cases d<;>first
      | exact absurd ⟨_,rfl⟩ br
      |(simp only[if_true]
        cases ok
        ·exact υ.pure' (.same Β I U)
        ·exact υ.pure' (.same Β I (xD U (.z _))))
    ·rename_i bz;split
     ·rename_i dG;subst dG;intro K I;unfold Instr.typeAssert;refine υ.bind' (Κ.bD hi ?_);generalize i.bD=d at br ⊢;cases d<;>first
       | exact absurd ⟨_,rfl⟩ br
       |(simp only[bz,if_false,if_true]
         exact υ.bind' (Κ.zero hi (υ.pure' (.same Β I (xD (pV _) (.z _))))))
     ·exact .bad
  ·cases ξ;split
   ·rename_i dG;subst dG;intro K I;unfold Instr.typeAssert;refine υ.bind' (Κ.bD hi ?_);generalize i.bD=d at br ⊢;cases d<;>first
     | exact absurd ⟨_,rfl⟩ br
     |(simp only[if_true]
       exact υ.bind' (Κ.zero hi (υ.pure' (.same Β I (xD (pV _) (.z _))))))
   ·exact .bad
  ·exact .bad
end
section
variable {P:Program} {T:bd} {S:aB} {B:aR} {H:Α} {σ:List Row}
def tP (i:ia) (l:List θ):cw:=
 if i.agg then(if i.size<=l.length then .ok (.aS (l.take i.size)) else .bad)
 else match l with
  | a::_=>.ok a
  | []=>.bad
def CE (T:bd) (ty:TypeId):θ->cw
 | .Ψ cells=>match T ty with|some i=>tP i cells|none=>.bad
 | _=>.bad
def vF (T:bd) (ty:TypeId) (σ:List Row):θ->cZ
 | .al id n i j=>match T ty,σ[id]? with
  | some kL,some (.cells _ _ l)=>if l.length=n then match l[i]? with
   | some e=>(tP kL (e.cells.drop j)).dq σ
   | none=>.bad else .bad
  | _,_=>.bad
 | _=>.bad
theorem CF (Κ:bR P T) (Β:Holds S B σ H) {ty:TypeId} {i:ia} (hi:T ty=some i) {b o:Nat} {l:List θ} (w:Nat->Value) (ζ:∀(j:Nat) (a:θ),l[j]?=some a->∃p,H.aG b (o+j)=some (w j,p)) (μ:∀(j:Nat) (a:θ),l[j]?=some a->ao S B σ a (w j)) :
  cF P (loadVar ty ⟨b,o,none⟩) S B H σ ((tP i l).dq σ):=by
 intro K I;unfold tP at I;unfold loadVar;refine υ.bind' (Κ.agg hi ?_);cases tQ:i.agg with
 | true=>
  rw[tQ] at I;simp only[if_true] at I ⊢;split at I
  ·rename_i hle;refine υ.bind' (Κ.size hi (υ.bind' (υ.loadCells w rfl (λj ε=>?_) ?_)))
   ·have:l[j]?=some l[j]:=aW (by omega);exact ζ j _ this
   ·refine υ.pure' (.same Β I (.aS _ (by simp;omega) λj a v J γ=>?_));have ε:j<i.size:=by have:=(b7.1 J).1;simp at this;omega
    rw[List.getElem?_take_of_lt ε] at J;simp[ε] at γ;subst γ;exact μ j a J
  ·exact I.elim
 | false=>
  rw[tQ] at I;simp only[Bool.false_eq_true,if_false] at I ⊢;cases l with
  | nil=>exact I.elim
  | cons a l=>
   obtain⟨p,ψ⟩:=ζ 0 a rfl;exact⟨rfl,rfl,w 0,p,ψ,iB.same Β I (μ 0 a rfl)⟩
theorem Vi (Κ:bR P T) (Β:Holds S B σ H) {ty:TypeId} {a:θ} {v:Value} (ξ:ao S B σ a v):cF P (Instr.loadAt ty v) S B H σ ((CE T ty a).dq σ):=by
 unfold CE;split
 ·rename_i cells;cases hi:T ty with
  | none=>exact .bad
  | some i=>
   cases ξ with
   | Ψ b o w J γ=>exact CF Κ Β hi w (λj a ε=>Β.dd _ _ _ (J j a ε)) γ
 ·exact .bad
theorem M1 (Β:Holds S B σ H) {id k i b N:Nat} {t:TypeId} {l:List θ} {e:θ} (ω:σ[id]?=some (.cells t k l)) (hb:B[id]?=some (some (b,N))) (he:l[i]?=some e) :
  e.cells.length=k/\∃w:Nat->Value,∀(j:Nat) (a:θ),e.cells[j]?=some a->H.aG b (i*k+j)=some (w j,true)/\ao S B σ a (w j)/\One (w j):=by
 obtain⟨_,_,_,w,hw⟩:=Β.row id _ _ ω hb;exact⟨(hw i e he).1,w i,(hw i e he).2⟩
theorem Vj (Κ:bR P T) (Β:Holds S B σ H) {ty:TypeId} {a:θ} {v:Value} (ξ:ao S B σ a v):cF P (Instr.loadAt ty v) S B H σ (vF T ty σ a):=by
 unfold vF;split
 ·rename_i id n i j;split
  ·rename_i kL t k l hi ω;split
   ·rename_i Η;cases he:l[i]? with
    | none=>exact .bad
    | some e=>
     cases ξ with
     | al J γ π=>
      rw[ω] at J;cases J;obtain⟨χ,w,hw⟩:=M1 Β ω π he;refine CF Κ Β hi (λx=>w (j+x)) (λx a U=>⟨true,?_⟩) (λx a U=>?_)
      ·rw[List.getElem?_drop] at U;rw[Nat.add_assoc];exact(hw _ a U).1
      ·rw[List.getElem?_drop] at U;exact(hw _ a U).2.1
     | jB v J γ=>rw[ω] at J;cases J;simp only[Row.g4] at γ;omega
   ·exact .bad
  ·exact .bad
 ·exact .bad
def fG (T:bd) (ty:TypeId) (f:Nat):Option (Nat×TypeId):=match T ty with
 | some i=>match i.bD with
  | .struct c5=>match c5[f]? with
   | some x=>match T x.type with
    | some bZ=>if bZ.size=0 then none else some (x.offset,x.type)
    | none=>none
   | none=>none
  | _=>none
 | none=>none
def CG (T:bd) (ty:TypeId) (f:Nat):θ->cw
 | .Ψ cells=>match fG T ty f with|some (o,_)=>.ok (.Ψ (cells.drop o))|none=>.bad
 | .z (.pointer (some ⟨b,o',none⟩))=>match fG T ty f with|some (o,_)=>.ok (.z (.pointer (some ⟨b,o'+o,none⟩)))|none=>.bad
 | _=>.bad
def vG (T:bd) (ty:TypeId) (f:Nat) (σ:List Row):θ->cZ
 | .al id n i j=>match fG T ty f,σ[id]? with
  | some (o,_),some (.cells _ _ l)=>if l.length=n then .ok (.al id n i (j+o)) σ else .bad
  | _,_=>.bad
 | _=>.bad
theorem tR (b o n:Nat):(⟨b,o,none⟩:Addr).add n=⟨b,o+n,none⟩:=by
 unfold Addr.add;split
 ·simp_all
 ·rfl
theorem M3 {cells:List θ} {b o:Nat} (h:ao S B σ (.Ψ cells) (.pointer (some ⟨b,o,none⟩))) (n:Nat):ao S B σ (.Ψ (cells.drop n)) (.pointer (some ⟨b,o+n,none⟩)):=by
 cases h with
 | Ψ b o w J γ=>
  refine .Ψ b (o+n) (λj=>w (n+j)) (λj a ε=>?_) (λj a ε=>?_)
  ·rw[List.getElem?_drop] at ε;rw[Nat.add_assoc];exact J _ a ε
  ·rw[List.getElem?_drop] at ε;exact γ _ a ε
theorem Hd (Κ:bR P T) {ty:TypeId} {f o:Nat} {zG:TypeId} (Φ:fG T ty f=some (o,zG)) {b o':Nat} {K:Value->Α->Prop} {E:Value->Α->Prop} (h:K (.pointer (some ⟨b,o'+o,none⟩)) H) :
  υ P (Instr.fieldAt ty (.pointer (some ⟨b,o',none⟩)) f) H K E:=by
 unfold fG at Φ;split at Φ<;>try cases Φ
 rename_i i hi;split at Φ<;>try cases Φ
 rename_i c5 hu;split at Φ<;>try cases Φ
 rename_i x U;split at Φ<;>try cases Φ
 rename_i bZ o1;split at Φ<;>try cases Φ
 rename_i hj;unfold Instr.fieldAt;refine υ.bind' (Κ.bD hi ?_);rw[hu];simp only[U];refine υ.bind' ?_;unfold fieldPlace;refine υ.bind' (υ.bind' (Κ.size o1 ?_));rw[if_neg hj,tR];exact υ.pure' (υ.pure' h)
theorem Vk (Κ:bR P T) (Β:Holds S B σ H) {ty:TypeId} {f:Nat} {a:θ} {v:Value} (ξ:ao S B σ a v):cF P (Instr.fieldAt ty v f) S B H σ ((CG T ty f a).dq σ):=by
 unfold CG;split
 ·rename_i cells;cases Φ:fG T ty f with
  | none=>exact .bad
  | some x=>
   obtain⟨o,zG⟩:=x;cases ξ with
   | Ψ b o' w J γ=>exact λK I=>Hd Κ Φ (iB.same Β I (M3 (.Ψ b o' w J γ) o))
 ·rename_i b o';cases Φ:fG T ty f with
  | none=>exact .bad
  | some x=>
   obtain⟨o,zG⟩:=x;cases ξ;exact λK I=>Hd Κ Φ (iB.same Β I (.z _))
 ·exact .bad
theorem Vl (Κ:bR P T) (Β:Holds S B σ H) {ty:TypeId} {f:Nat} {a:θ} {v:Value} (ξ:ao S B σ a v):cF P (Instr.fieldAt ty v f) S B H σ (vG T ty f σ a):=by
 unfold vG;split
 ·rename_i id n i j;split
  ·rename_i o zG t k l Φ ω;split
   ·rename_i Η;cases ξ with
    | al J γ π=>
     rw[ω] at J;cases J;refine λK I=>Hd Κ Φ (iB.same Β I ?_);rw[Nat.add_assoc];exact .al ω Η π
    | jB v J γ=>rw[ω] at J;cases J;simp only[Row.g4] at γ;omega
   ·exact .bad
  ·exact .bad
 ·exact .bad
theorem q6 {ex:Bool} {k:Nat} {l:List θ} {v:Value} (h:ao S B σ (.sl ex k l) v):∃base cap,v=.slice base l.length cap/\l.length<=cap/\(ex=true->cap=l.length)/\(l≠[]->∃(b o:Nat) (w:Nat->Nat->Value),base=some ⟨b,o,none⟩/\(∀(i:Nat) (e:θ),l[i]?=some e->e.cells.length=k)/\
  (∀(i:Nat) (e:θ),l[i]?=some e->∀(j:Nat) (c:θ),e.cells[j]?=some c->S b (o+i*k+j)=some (w i j))/\(∀(i:Nat) (e:θ),l[i]?=some e->∀(j:Nat) (c:θ),e.cells[j]?=some c->ao S B σ c (w i j))):=by
 cases h with
 | iA base cap h=>exact⟨base,cap,rfl,Nat.zero_le _,h,λx=>absurd rfl x⟩
 | sl b o cap w J γ π Μ aA=>exact⟨_,cap,rfl,γ,J,λ_=>⟨b,o,w,rfl,π,Μ,aA⟩⟩
theorem Vm {ex:Bool} {k:Nat} {l:List θ} {base:Option Addr} {len cap i:Nat} {e:θ} (h:ao S B σ (.sl ex k l) (.slice base len cap)) (he:l[i]?=some e):∃b o,base=some ⟨b,o,none⟩/\ao S B σ (.Ψ e.cells) (.pointer (some ⟨b,o+i*k,none⟩)):=by
 obtain⟨Vn,He,hv,_,_,J⟩:=q6 h;cases hv;obtain⟨b,o,w,rfl,γ,π,Μ⟩:=J (by rintro rfl;simp at he);exact⟨b,o,rfl,.Ψ b (o+i*k) (w i) (π i e he) (Μ i e he)⟩
def hp (T:bd) (ty:TypeId):Option (TypeId×Nat×Option Nat):=match T ty with
 | some i=>match i.bD with
  | .slice e=>match T e with|some bX=>some (e,bX.size,none)|none=>none
  | .array n e=>match T e with|some bX=>some (e,bX.size,some n)|none=>none
  | _=>none
 | none=>none
theorem CH {ty e:TypeId} {k:Nat} (h:hp T ty=some (e,k,none)):∃i bX,T ty=some i/\i.bD=.slice e/\T e=some bX/\bX.size=k:=by
 unfold hp at h;split at h
 ·rename_i i hi;split at h
  ·rename_i aJ hu;split at h
   ·rename_i bX he;cases h;exact⟨i,bX,hi,hu,he,rfl⟩
   ·cases h
  ·split at h<;>cases h
  ·cases h
 ·cases h
theorem Vo {ty e:TypeId} {k n:Nat} (h:hp T ty=some (e,k,some n)):∃i bX,T ty=some i/\i.bD=.array n e/\T e=some bX/\bX.size=k:=by
 unfold hp at h;split at h
 ·rename_i i hi;split at h
  ·split at h<;>cases h
  ·rename_i aJ iN hu;split at h
   ·rename_i bX he;cases h;exact⟨i,bX,hi,hu,he,rfl⟩
   ·cases h
  ·cases h
 ·cases h
def CI (T:bd) (ty:TypeId) (a bZ:θ):cw:=
 match hp T ty,bZ with
 | some (_,pW,none),.z (.int _ n)=>match a with
  | .sl _ k l=>if k=pW then .b4 (0<=n/\n<l.length) (.ok (.Ψ (l.getD n.toNat .cg).cells)) else .bad
  | _=>.bad
 | some (_,pW,some m),.z (.int _ n)=>match a with
  | .Ψ cells=>.b4 (0<=n/\n<m) (.ok (.Ψ (cells.drop (n.toNat*pW))))
  | _=>.bad
 | _,_=>.bad
def vH (T:bd) (ty:TypeId) (σ:List Row) (a bZ:θ):cZ:=
 match hp T ty,bZ with
 | some (_,pW,none),.z (.int _ n)=>match a with
  | .ms id m i len=>match σ[id]? with
   | some (.cells _ k l)=>if k=pW/\l.length=m then .b4 (0<=n/\n<len) (.ok (.al id m (i+n.toNat) 0) σ) else .bad
   | _=>.bad
  | _=>.bad
 | some (_,pW,some len),.z (.int _ n)=>match a with
  | .al id m i j=>match σ[id]? with
   | some (.cells _ _ l)=>if l.length=m then .b4 (0<=n/\n<len) (.ok (.al id m i (j+n.toNat*pW)) σ) else .bad
   | _=>.bad
  | _=>.bad
 | _,_=>.bad
theorem M4 (Κ:bR P T) {ty e:TypeId} {k:Nat} (he:hp T ty=some (e,k,none)) {b o len cap:Nat} {kk:IntKind} {n:Int} (Η:0<=n/\n<len) {K:Value->Α->Prop} {E:Value->Α->Prop}
  (h:K (.pointer (some ⟨b,o+n.toNat*k,none⟩)) H):υ P (Instr.indexAt ty (.slice (some ⟨b,o,none⟩) len cap) (.int kk n)) H K E:=by
 obtain⟨i,bX,hi,hu,Hf,rfl⟩:=CH he;unfold Instr.indexAt;refine υ.bind' ?_;refine υ.bind' (Κ.bD hi ?_);rw[hu];refine υ.bind' (υ.pure' ?_);refine υ.bind' (Κ.bD hi ?_);rw[hu];simp only[Η,and_self,if_true];refine υ.bind' (Κ.size Hf ?_);rw[tR];exact h
theorem M5 (Κ:bR P T) {ty e:TypeId} {k m:Nat} (he:hp T ty=some (e,k,some m)) {b o:Nat} {kk:IntKind} {n:Int} (Η:0<=n/\n<m) {K:Value->Α->Prop} {E:Value->Α->Prop}
  (h:K (.pointer (some ⟨b,o+n.toNat*k,none⟩)) H):υ P (Instr.indexAt ty (.pointer (some ⟨b,o,none⟩)) (.int kk n)) H K E:=by
 obtain⟨i,bX,hi,hu,Hf,rfl⟩:=Vo he;unfold Instr.indexAt;refine υ.bind' ?_;refine υ.bind' (Κ.bD hi ?_);rw[hu];refine υ.bind' (υ.bind' (υ.pure' ?_));refine υ.bind' (Κ.bD hi ?_);rw[hu];simp only[Η,and_self,if_true];refine υ.bind' (Κ.size Hf ?_);rw[tR];exact h
theorem Vp (Κ:bR P T) (Β:Holds S B σ H) {ty:TypeId} {a bZ:θ} {v w:Value} (ξ:ao S B σ a v) (U:ao S B σ bZ w):cF P (Instr.indexAt ty v w) S B H σ ((CI T ty a bZ).dq σ):=by
 unfold CI;split
 ·rename_i e pW kk n he;cases U;split
  ·rename_i ex k l;split
   ·rename_i χ;subst χ;refine .b4 λΗ=>?_;obtain⟨base,cap,rfl,_⟩:=q6 ξ;have aD:n.toNat<l.length:=by omega
    have np:l[n.toNat]?=some l[n.toNat]:=aW aD;obtain⟨b,o,rfl,μ⟩:=Vm ξ np;refine λK I=>M4 Κ he Η (iB.same Β I ?_);rw[List.getD_eq_getElem?_getD,np];exact μ
   ·exact .bad
  ·exact .bad
 ·rename_i e pW m kk n he;cases U;split
  ·rename_i cells;refine .b4 λΗ=>?_;cases ξ with
   | Ψ b o w J γ=>exact λK I=>M5 Κ he Η (iB.same Β I (M3 (.Ψ b o w J γ) _))
  ·exact .bad
 ·exact .bad
theorem Vq (Κ:bR P T) (Β:Holds S B σ H) {ty:TypeId} {a bZ:θ} {v w:Value} (ξ:ao S B σ a v) (U:ao S B σ bZ w):cF P (Instr.indexAt ty v w) S B H σ (vH T ty σ a bZ):=by
 unfold vH;split
 ·rename_i e pW kk n he;cases U;split
  ·rename_i id m i len;split
   ·rename_i t k l ω;split
    ·rename_i χ;obtain⟨rfl,hm⟩:=χ;refine .b4 λΗ=>?_;cases ξ with
     | ms cap J γ π Μ aA bc=>
      rw[ω] at J;cases J;rcases bc with bc|⟨b,N,rfl,rfl,bc⟩
      ·omega
      ·refine λK I=>M4 Κ he Η (iB.same Β I ?_);have:i*k+n.toNat*k=(i+n.toNat)*k+0:=by rw[Nat.add_mul];rfl
       rw[this];exact .al ω hm π
     | iW v J γ=>rw[ω] at J;cases J;simp only[Row.g4] at γ;omega
    ·exact .bad
   ·exact .bad
  ·exact .bad
 ·rename_i e pW len kk n he;cases U;split
  ·rename_i id m i j;split
   ·rename_i t k l ω;split
    ·rename_i hm;refine .b4 λΗ=>?_;cases ξ with
     | al J γ π=>
      rw[ω] at J;cases J;refine λK I=>M5 Κ he Η (iB.same Β I ?_);rw[Nat.add_assoc];exact .al ω hm π
     | jB v J γ=>rw[ω] at J;cases J;simp only[Row.g4] at γ;omega
    ·exact .bad
   ·exact .bad
  ·exact .bad
 ·exact .bad
end
def θ.a7 (σ:List Row):θ->Bool
 | .z v=>match v with|.agg _|.tuple _=>false|_=>true
 | .aS _|.bn _|.cg=>false
 | .al id n _ _|.ms id n _ _=>match σ[id]? with|some (.cells _ _ l)=>decide (l.length<=n)|_=>false
 | .mp id=>match σ[id]? with|some (.map _)=>true|_=>false
 | .it id=>match σ[id]? with|some (.iter ..)=>true|_=>false
 | _=>true
def θ.sz:θ->Nat->List θ->θ
 | .aS l,j,cs=>.aS (l.take j++cs++l.drop (j+cs.length))
 | _,0,[c]=>c
 | e,_,_=>e
theorem θ.Hg {σ:List Row} {a:θ} (h:a.a7 σ=true):a.cells=[a]:=by
 cases a<;>first|rfl|cases h
theorem θ.M6 {σ:List Row} {e:θ} {j:Nat} {cs:List θ} (hle:j+cs.length<=e.cells.length) (dG:∀c∈cs,θ.a7 σ c=true):(e.sz j cs).cells=e.cells.take j++cs++e.cells.drop (j+cs.length):=by
 by_cases he:∃l,e=.aS l
 ·obtain⟨l,rfl⟩:=he;rfl
 ·have J:e.cells=[e]:=by cases e<;>first|rfl|exact absurd ⟨_,rfl⟩ he
  rw[J] at hle ⊢;cases cs with
  | nil=>
   have:e.sz j []=e:=by cases e<;>cases j<;>first|rfl|exact absurd ⟨_,rfl⟩ he
   rw[this,J]
   match j with
   | 0=>rfl
   | j+1=>simp
  | cons c cs=>
   simp at hle;have ε:j=0:=by omega
   have hR:cs=[]:=by cases cs<;>simp at hle ⊢;omega
   subst ε;subst hR;have:e.sz 0 [c]=c:=by cases e<;>first|rfl|exact absurd ⟨_,rfl⟩ he
   rw[this,θ.Hg (dG c (by simp))];simp
section
variable {P:Program} {T:bd} {S:aB} {B:aR} {H:Α} {σ:List Row}
theorem ao.zH {a:θ} {v:Value} (h:ao S B σ a v) (Γ:a.a7 σ=true):One v:=by
 cases h with
 | z v=>cases v<;>first|trivial|cases Γ
 | jB v J γ=>
  simp only[θ.a7,J] at Γ;split at Γ
  ·rename_i e;cases e;simp only[Row.g4] at γ;simp at Γ;omega
  ·cases Γ
 | iW v J γ=>
  simp only[θ.a7,J] at Γ;split at Γ
  ·rename_i e;cases e;simp only[Row.g4] at γ;simp at Γ;omega
  ·cases Γ
 | lI v J=>simp[θ.a7,J] at Γ
 | nk v J=>simp[θ.a7,J] at Γ
 | aS|bn|cg=>cases Γ
 | _=>trivial
theorem One.cells {v:Value} (h:One v):v.cells=#[v]:=by cases v<;>first|rfl|exact h.elim
theorem ao.cells {a:θ} {v:Value} (h:ao S B σ a v) (ξ:a.cells.all (θ.a7 σ)=true):v.cells.size=a.cells.length/\∀(j:Nat) (c:θ),a.cells[j]?=some c->∃x,v.cells[j]?=some x/\ao S B σ c x/\One x:=by
 have single:a.cells=[a]->v.cells.size=a.cells.length/\∀(j:Nat) (c:θ),a.cells[j]?=some c->∃x,v.cells[j]?=some x/\ao S B σ c x/\One x:=λe=>by
  rw[e] at ξ ⊢;simp at ξ;have Γ:=h.zH ξ;rw[Γ.cells];refine⟨rfl,λj c ε=>?_⟩
  match j with
  | 0=>simp at ε;subst ε;exact⟨v,rfl,h,Γ⟩
  | j+1=>simp at ε
 cases h with
 | aS vs J γ=>
  refine⟨J.symm,λj c ε=>?_⟩;have aD:j<vs.size:=by rw[<-J];exact(b7.1 ε).1
  have hv:vs[j]?=some vs[j]:=e7 aD
  have μ:=γ j c _ ε hv;exact⟨_,hv,μ,μ.zH (List.all_eq_true.1 ξ c (ck ε))⟩
 | _=>exact single rfl
theorem CJ (Β:Holds S B σ H) {id k:Nat} {t:TypeId} {l:List θ} (h:σ[id]?=some (.cells t k l)):∀(j:Nat) left cur,σ[j]?≠some (Row.iter id left cur):=λj left cur ε=>by
 obtain⟨bo,hb⟩:=MY Β ε;obtain⟨_,_,_,_,_,_,_,_,_,⟨es,γ⟩,_⟩:=Β.row j _ bo ε hb;rw[h] at γ;cases γ
theorem M7 {i ey k bH lo hi:Nat} (ε:bH<k) (o2:hi<=k) (h:ey≠i):¬(i*k+lo<=ey*k+bH/\ey*k+bH<i*k+hi):=by
 rintro⟨J,γ⟩;rcases Nat.lt_or_gt_of_ne h with h|h
 ·have:(ey+1)*k<=i*k:=Nat.mul_le_mul_right k h;rw[Nat.add_mul] at this;omega
 ·have:(i+1)*k<=ey*k:=Nat.mul_le_mul_right k h;rw[Nat.add_mul] at this;omega
def xE (P:Program) (s:Sem Unit) (S:aB) (B:aR) (H:Α) (σ:List Row) (r:cZ):Prop:=
 ∀K:θ->List Row->Prop,r.holds K->υ P s H (λ_ H'=>iB S B H σ K undef H') (λ_ _=>False)
theorem xE.next {s:Sem Unit} {r:cZ} (h:xE P s S B H σ r):Does P (do s;pure .skip) S B H σ r:=λK I=>
 υ.bind' (υ.mono (λ_ G hb=>υ.pure' ⟨undef,rfl,hb⟩) (λ_ _ h=>h) _ (h K I))
theorem xE.bad {s:Sem Unit}:xE P s S B H σ .bad:=λK I=>I.elim
theorem Vr (Β:Holds S B σ H) {id k i j b N:Nat} {t:TypeId} {l:List θ} {e a:θ} {v:Value} (ω:σ[id]?=some (.cells t k l)) (hb:B[id]?=some (some (b,N))) (he:l[i]?=some e) (ξ:ao S B σ a v) (dG:a.cells.all (θ.a7 σ)=true)
  (ε:j+a.cells.length<=k) :
  (∀x∈v.cells.toList,One x)/\(∀x,x<a.cells.length->H.owns b (i*k+j+x))/\H.row b=some (t,N)/\
  (let σ':=σ.set id (.cells t k (l.set i (e.sz j a.cells)));Holds S (B.set id (some (b,N))) σ' (H.hk b (i*k+j) v.cells.toList)/\Ext S B H S (B.set id (some (b,N))) (H.hk b (i*k+j) v.cells.toList)/\b3 S S B (B.set id (some (b,N))) σ σ'):=by
 obtain⟨cm,hR⟩:=ξ.cells dG;have hlen:v.cells.toList.length=a.cells.length:=by simpa using cm
 obtain⟨bC,b8,fW,w,hw⟩:=Β.row id _ _ ω hb;have iC:i<l.length:=(b7.1 he).1;have M8:(i+1)*k<=N:=Nat.le_trans (Nat.mul_le_mul_right k iC) b8;have jΓ:i*k+k<=N:=by rw[Nat.add_mul] at M8;omega
 have Hh:=(hw i e he).1
 have Hi:∀c∈a.cells,θ.a7 σ c=true:=List.all_eq_true.1 dG
 have bU:=θ.M6 (σ:=σ) (e:=e) (j:=j) (cs:=a.cells) (by rw[Hh];exact ε) Hi;refine⟨λx U=>?_,λx U=>?_,bC,?_⟩
 ·obtain⟨y,Ξ⟩:=List.getElem?_of_mem U;have aD:y<a.cells.length:=by rw[<-hlen];exact(b7.1 Ξ).1
  obtain⟨c8,J,_,γ⟩:=hR y _ (aW aD);rw[Array.getElem?_toList] at Ξ;rw[Ξ] at J;cases J;exact γ
 ·obtain⟨u,hu⟩:=fW (i*k+j+x) (by omega);exact⟨u,hu⟩
 ·refine Β.xB (r':=.cells t k (l.set i (e.sz j a.cells))) (bo':=some (b,N)) ω trivial hb (.inl ⟨_,rfl,by simp,rfl⟩) (λΧ eP aJ=>.inl ⟨eP,aJ⟩) (λΧ J _=>?_) Α.Hb (CJ Β ω) (λkG=>?_)
  ·have bz:Χ≠b:=λaJ=>by subst aJ;exact J N rfl
   exact⟨λo=>by simp[Α.hk,bz],rfl,rfl⟩
  ·refine⟨bC,by simpa using b8,λo Γ=>?_,λey bH=>if ey=i/\j<=bH/\bH<j+a.cells.length then(v.cells[bH-j]?).getD undef else w ey bH,λey aJ a9=>?_⟩
   ·simp only[Α.hk];split
    ·exact⟨_,rfl⟩
    ·exact fW o Γ
   ·by_cases tS:ey=i
    ·subst tS;rw[List.getElem?_set_self iC] at a9;cases a9;rw[bU];refine⟨by simp;omega,λbH c ζ=>?_⟩;by_cases br:j<=bH/\bH<j+a.cells.length
     ·have a5:a.cells[bH-j]?=some c:=by
       rw[List.append_assoc,fS (by simp;omega)] at ζ;simp only[List.length_take] at ζ;rw[dB (by omega)] at ζ;have:bH-min j e.cells.length=bH-j:=by omega
       rw[this] at ζ;exact ζ
      obtain⟨x,J,γ,π⟩:=hR _ _ a5;simp only[br,and_self,if_true,J,Option.getD_some];refine⟨?_,γ.later kG,π⟩;simp only[Α.hk,hlen];rw[if_pos ⟨trivial,by omega,by omega⟩];have:ey*k+bH-(ey*k+j)=bH-j:=by omega
      rw[this,Array.getElem?_toList,J];rfl
     ·have a5:e.cells[bH]?=some c:=by
       by_cases kR:bH<j
       ·rw[List.append_assoc,dB (by simp;omega),List.getElem?_take_of_lt kR] at ζ;exact ζ
       ·rw[fS (by simp;omega)] at ζ;rw[List.getElem?_drop] at ζ;have:j+a.cells.length+(bH-(e.cells.take j++a.cells).length)=bH:=by simp;omega
        rw[this] at ζ;exact ζ
      simp only[br,and_false,if_false];obtain⟨J,γ,π⟩:=(hw ey e he).2 bH c a5;refine⟨?_,γ.later kG,π⟩;simp only[Α.hk,hlen];rw[if_neg (λx=>br ⟨by omega,by omega⟩)];exact J
    ·rw[List.getElem?_set_ne (Ne.symm tS)] at a9;obtain⟨J,γ⟩:=hw ey aJ a9;refine⟨J,λbH c ζ=>?_⟩;obtain⟨π,Μ,aA⟩:=γ bH c ζ;have o3:bH<k:=by rw[<-J];exact(b7.1 ζ).1
     simp only[tS,false_and,if_false];refine⟨?_,Μ.later kG,aA⟩;simp only[Α.hk,hlen];rw[if_neg (λx=>M7 (lo:=j) (hi:=j+a.cells.length) o3 ε tS ⟨x.2.1,by omega⟩)];exact π
def CK (T:bd) (ty:TypeId) (σ:List Row) (p a:θ):cZ:=match p with
 | .al id n i j=>match T ty,σ[id]? with
  | some kL,some (.cells t k l)=>match l[i]? with
   | some e=>if l.length=n/\a.cells.length=kL.size/\j+kL.size<=k/\a.cells.all (θ.a7 σ)=true then .ok .cg (σ.set id (.cells t k (l.set i (e.sz j a.cells)))) else .bad
   | none=>.bad
  | _,_=>.bad
 | _=>.bad
theorem Vs (Κ:bR P T) (Β:Holds S B σ H) {ty:TypeId} {p a:θ} {u v:Value} (ψ:ao S B σ p u) (ξ:ao S B σ a v):xE P (Instr.storeAt ty u v) S B H σ (CK T ty σ p a):=by
 unfold CK;split
 ·rename_i id n i j;split
  ·rename_i kL t k l hi ω;split
   ·rename_i e he;split
    ·rename_i ζ;obtain⟨Η,cm,o3,dG⟩:=ζ;cases ψ with
     | al J γ π=>
      rename_i b N;rw[ω] at J;cases J;intro K I;obtain⟨c1,c2,c3,c4⟩:=Vr Β ω π he ξ dG (by omega:j+a.cells.length<=k);obtain⟨Hj,_⟩:=ξ.cells dG;refine υ.bind' (υ.pure' ?_);unfold storeVar;refine υ.bind' (Κ.size hi ?_);rw[if_neg (by omega)];refine υ.storeCells (G:=H) rfl ⟨t,N,c3⟩ v.cells.toList 0 H c1 (λx _ U=>c2 x (by simp at U;omega)) rfl ?_;exact⟨S,_,_,.cg,I,c4.2.1,c4.1,c4.2.2,.cg _⟩
     | jB v J γ=>rw[ω] at J;cases J;simp only[Row.g4] at γ;omega
    ·exact .bad
   ·exact .bad
  ·exact .bad
 ·exact .bad
end
end Go.TL
