import Derived.Test.YtlabjopijpkiaaaGreatQAF
set_option maxHeartbeats 16000000
set_option maxRecDepth 20000
set_option linter.unusedSectionVars false
set_option linter.unusedSimpArgs false
set_option linter.unusedVariables false
namespace Go.TL
open Go.Conc
def sd (S:aC) (B:aP) (σ:List Row) (es:List (θ×θ)) (xs:Array MapEntry) (clock:Nat):Prop:=
 es.length=xs.size/\(∀(i:Nat) (e:θ×θ) (y:MapEntry),es[i]?=some e->xs[i]?=some y->ar S B σ e.1 y.key/\ar S B σ e.2 y.val/\y.born<clock)/\
 ∀(i j:Nat) (y z:MapEntry),xs[i]?=some y->xs[j]?=some z->i<j->y.born<z.born
def CK (S:aC) (B:aP) (σ:List Row) (left:List (θ×θ)) (cur:Option (θ×θ)) (xs:Array MapEntry) (clock:Nat) (seen:Array Nat):Prop:=
 (∃cA:List MapEntry,cA=xs.toList.filter (λe=>!seen.contains e.born)/\left.length=cA.length/\∀(i:Nat) (e:θ×θ) (y:MapEntry),left[i]?=some e->cA[i]?=some y->ar S B σ e.1 y.key/\ar S B σ e.2 y.val)/\
 (∀y∈xs,y.born<clock)/\
 ∀e,cur=some e->∃GY y,seen.back?=some GY/\xs.find? (·.born==GY)=some y/\ar S B σ e.1 y.key/\ar S B σ e.2 y.val
def jC (S:aC) (B:aP) (σ:List Row) (H:ψ) (r:Row) (bo:Option (Nat×Nat)):Prop:=
 match r with
 | .cells t k l=>match bo with
  | none=>l=[]
  | some (b,N)=>H.row b=some (t,N)/\l.length*k<=N/\(∀o,o<N->∃w,H.aG b o=some (w,true))/\
   ∃w:Nat->Nat->Value,∀(i:Nat) (e:θ),l[i]?=some e->e.cells.length=k/\∀(j:Nat) (a:θ),e.cells[j]?=some a->H.aG b (i*k+j)=some (w i j,true)/\ar S B σ a (w i j)/\One (w i j)
 | .map es=>∃b N xs clock,bo=some (b,N)/\H.obj b=some (.map xs clock)/\sd S B σ es xs clock
 | .iter m left cur=>∃b N aT kI xs clock seen,bo=some (b,N)/\B[m]?=some (some (aT,kI))/\(∃es,σ[m]?=some (.map es))/\H.obj b=some (.mapIter (some aT) clock seen clock)/\H.obj aT=some (.map xs clock)/\CK S B σ left cur xs clock seen
 | .dead=>True
def Row.live (r:Row):Prop:=match r with|.dead=>False|_=>True
structure Holds (S:aC) (B:aP) (σ:List Row) (H:ψ):Prop where
 dg:∀b o v,S b o=some v->∃p,H.aG b o=some (v,p)
 len:B.length=σ.length
 row:∀(id:Nat) (r:Row) (bo:Option (Nat×Nat)),σ[id]?=some r->B[id]?=some bo->jC S B σ H r bo
 inj:∀(i j:Nat) (ej b':Row) (b gM gN:Nat),i≠j->σ[i]?=some ej->σ[j]?=some b'->ej.live->b'.live->B[i]?=some (some (b,gM))->B[j]?=some (some (b,gN))->False
 sep:∀(id:Nat) (r:Row) (b N:Nat),σ[id]?=some r->r.live->B[id]?=some (some (b,N))->∀o,S b o=none
def aP.has (B:aP) (b:Nat):Prop:=∃N,some (b,N)∈B
def m8 (ee:aC) (dh H:ψ) (b:Nat):Prop:=
 (∀o,H.aG b o=dh.aG b o\/∃v p,ee b o=some v/\dh.aG b o=some (v,p)/\H.aG b o=some (v,false))/\H.row b=dh.row b/\H.obj b=dh.obj b
theorem m8.of {ee:aC} {dh H:ψ} {b:Nat} (h:(∀o,H.aG b o=dh.aG b o)/\H.row b=dh.row b/\H.obj b=dh.obj b):m8 ee dh H b:=⟨λo=>.inl (h.1 o),h.2⟩
structure Ext (ee:aC) (ef:aP) (dh:ψ) (S:aC) (B:aP) (H:ψ):Prop where
 dg:∀b o v,ee b o=some v->S b o=some v
 fF:∀b,¬ef.has b->¬dh.fresh b->m8 ee dh H b
 blocks:∀b,B.has b->ef.has b\/dh.fresh b
 qP:∀b o v,S b o=some v->ee b o=some v\/ef.has b\/dh.fresh b
 grow:∀b,H.fresh b->dh.fresh b
theorem Ext.refl (S:aC) (B:aP) (H:ψ):Ext S B H S B H:=⟨λ_ _ _ h=>h,λ_ _ _=>m8.of ⟨λ_=>rfl,rfl,rfl⟩,λ_ h=>.inl h,λ_ _ _ h=>.inl h,λ_ h=>h⟩
theorem Ext.trans {ee bB cU:aC} {ef bG e5:aP} {dh H1 bO:ψ} (h:Ext ee ef dh bB bG H1) (k:Ext bB bG H1 cU e5 bO):Ext ee ef dh cU e5 bO:=by
 refine⟨λb o v x=>k.dg b o v (h.dg b o v x),λb hb Τ=>?_,λb hb=>?_,λb o v hv=>?_,λb x=>h.grow b (k.grow b x)⟩
 ·have Ε:=h.fF b hb Τ
  have TN:¬H1.fresh b:=λx=>Τ (h.grow b x)
  have kH:¬bG.has b:=λx=>(h.blocks b x).elim hb Τ
  have Ζ:=k.fF b kH TN;refine⟨λo=>?_,Ζ.2.1.trans Ε.2.1,Ζ.2.2.trans Ε.2.2⟩;rcases Ζ.1 o with x|⟨v,p,vx,nR,qQ⟩<;>rcases Ε.1 o with y|⟨u,q,lx,pD,zJ⟩
  ·exact .inl (x.trans y)
  ·exact .inr ⟨u,q,lx,pD,x.trans zJ⟩
  ·rcases h.qP b o v vx with z|z|z
   ·exact .inr ⟨v,p,z,by rw[<-y];exact nR,qQ⟩
   ·exact absurd z hb
   ·exact absurd z Τ
  ·have e:=h.dg b o u lx
   have:v=u:=by rw[vx] at e;exact Option.some.inj e
   subst this;exact .inr ⟨v,q,lx,pD,qQ⟩
 ·rcases k.blocks b hb with x|x
  ·exact h.blocks b x
  ·exact .inr (h.grow b x)
 ·rcases k.qP b o v hv with x|x|x
  ·exact h.qP b o v x
  ·exact .inr (h.blocks b x)
  ·exact .inr (.inr (h.grow b x))
abbrev Ω:=List (Nat×θ)
def a5:Ω->Nat->θ
 | [],_=>.cz
 |(j,a)::r,i=>if j=i then a else a5 r i
def cY (S:aC) (B:aP) (σ:List Row) (env:Ω) (t:Array Value):Prop:=∀i,ar S B σ (a5 env i) (t.getD i undef)
theorem cY.later {S ay:aC} {B B':aP} {σ σ':List Row} {env:Ω} {t:Array Value} (h:cY S B σ env t) (Α:bZ S ay B B' σ σ'):cY ay B' σ' env t:=λi=>(h i).later Α
theorem cY.put {S:aC} {B:aP} {σ:List Row} {env:Ω} {t:Array Value} (h:cY S B σ env t) {d:Nat} (hd:d<t.size) {a:θ} {v:Value} (ν:ar S B σ a v):cY S B σ ((d,a)::env) (t.setIfInBounds d v):=by
 intro i;simp only[a5];split
 ·rename_i e;subst e;simpa[Array.getD_eq_getD_getElem?,hd] using ν
 ·rename_i e;have:=h i;rw[Array.getD_eq_getD_getElem?] at this ⊢
  rwa [Array.getElem?_setIfInBounds_ne e]
theorem Mj {S:aC} {B:aP} {σ:List Row} {H:ψ} (Β:Holds S B σ H) {id:Nat} {r:Row} (h:σ[id]?=some r):∃bo,B[id]?=some bo:=by
 have:id<B.length:=by rw[Β.len];exact(b7.1 h).1
 exact⟨_,a2 this⟩
def ly:TypeDesc->Bool
 | .struct _|.array _ _=>true
 | _=>false
section
variable {P:Program} {α β:Type} {G:ψ} {E:Value->ψ->Prop}
theorem υ.mono {K K':α->ψ->Prop} {E':Value->ψ->Prop} (I:∀a G,K a G->K' a G) (de:∀v G,E v G->E' v G) (s:Sem α):∀{G:ψ},υ P s G K E->υ P s G K' E':=by
 induction s with
 | pure a=>intro G h;exact I _ _ h
 | load m a k Δ=>intro G ⟨J,γ,v,p,π,Μ⟩;exact⟨J,γ,v,p,π,Δ v Μ⟩
 | store m a v k Δ=>intro G ⟨J,γ,π,Μ,aB,bc⟩;exact⟨J,γ,π,Μ,aB,Δ bc⟩
 | new o k Δ=>
  intro G h;cases o with
  | cells c t dR=>exact⟨h.1,λr μ=>Δ r (h.2 r μ)⟩
  | _=>exact λr μ=>Δ r (h r μ)
 | shape r k Δ=>intro G ⟨t,n,J,γ⟩;exact⟨t,n,J,Δ _ γ⟩
 | freeze a n k Δ=>intro G h;exact h.elim
 | frozen a k Δ=>intro G ⟨J,γ⟩;exact⟨J,Δ _ γ⟩
 | getObj r k Δ=>intro G ⟨o,J,γ,π⟩;exact⟨o,J,γ,Δ _ π⟩
 | setObj r o k Δ=>intro G ⟨J,γ,π,Μ⟩;exact⟨J,γ,π,Δ Μ⟩
 | choose q k Δ=>
  intro G h;simp only[υ] at h ⊢;split
  ·rw[if_pos ‹_›] at h;exact Δ _ h
  ·rw[if_neg ‹_›] at h;exact λn=>Δ _ (h n)
 | sys c k Δ=>intro G h;exact h.elim
 | program k Δ=>intro G h;exact Δ P h
 | mark m k Δ=>intro G ⟨J,γ⟩;exact⟨J,Δ γ⟩
 | halt x=>
  intro G h;cases x<;>first|exact h.elim|exact de _ _ h
theorem υ.bind {f:α->Sem β} {K:β->ψ->Prop} (s:Sem α):∀{G:ψ},υ P s G (λa G'=>υ P (f a) G' K E) E->υ P (s.bind f) G K E:=by
 induction s with
 | pure a=>intro G h;exact h
 | load m a k Δ=>intro G ⟨J,γ,v,p,π,Μ⟩;exact⟨J,γ,v,p,π,Δ v Μ⟩
 | store m a v k Δ=>intro G ⟨J,γ,π,Μ,aB,bc⟩;exact⟨J,γ,π,Μ,aB,Δ bc⟩
 | new o k Δ=>
  intro G h;cases o with
  | cells c t dR=>exact⟨h.1,λr μ=>Δ r (h.2 r μ)⟩
  | _=>exact λr μ=>Δ r (h r μ)
 | shape r k Δ=>intro G ⟨t,n,J,γ⟩;exact⟨t,n,J,Δ _ γ⟩
 | freeze a n k Δ=>intro G h;exact h.elim
 | frozen a k Δ=>intro G ⟨J,γ⟩;exact⟨J,Δ _ γ⟩
 | getObj r k Δ=>intro G ⟨o,J,γ,π⟩;exact⟨o,J,γ,Δ _ π⟩
 | setObj r o k Δ=>intro G ⟨J,γ,π,Μ⟩;exact⟨J,γ,π,Δ Μ⟩
 | choose q k Δ=>
  intro G h;simp only[υ] at h;simp only[Sem.bind,υ];split
  ·rw[if_pos ‹_›] at h;exact Δ _ h
  ·rw[if_neg ‹_›] at h;exact λn=>Δ _ (h n)
 | sys c k Δ=>intro G h;exact h.elim
 | program k Δ=>intro G h;exact Δ P h
 | mark m k Δ=>intro G ⟨J,γ⟩;exact⟨J,Δ γ⟩
 | halt x=>
  intro G h;cases x<;>first|exact h.elim|exact h
theorem υ.bind' {f:α->Sem β} {K:β->ψ->Prop} {s:Sem α} (h:υ P s G (λa G'=>υ P (f a) G' K E) E):υ P (s >>= f) G K E:=υ.bind s h
theorem υ.pure' {a:α} {K:α->ψ->Prop} (h:K a G):υ P (pure a) G K E:=h
theorem υ.underlying {t:TypeId} {d:TypeDesc} {K:TypeDesc->ψ->Prop} (hd:P.underlying t=some d) (h:K d G):υ P (Go.underlying t) G K E:=by
 unfold Go.underlying;refine υ.bind' ?_;show υ P (match P.underlying t with|some d=>pure d|none=>_) G K E;rw[hd];exact h
theorem υ.typeInfo {t:TypeId} {i:TypeInfo} {K:TypeInfo->ψ->Prop} (hi:P.info? t=some i) (h:K i G):υ P (Go.typeInfo t) G K E:=by
 unfold Go.typeInfo;refine υ.bind' ?_;show υ P (match P.info? t with|some i=>pure i|none=>_) G K E;have:P.info? t=some i:=hi;rw[this];exact h
theorem υ.sizeOf {t:TypeId} {i:TypeInfo} {K:Nat->ψ->Prop} (hi:P.info? t=some i) (h:K i.size G):υ P (Go.sizeOf t) G K E:=by
 unfold Go.sizeOf;exact υ.bind' (υ.typeInfo hi (υ.pure' h))
theorem υ.isAgg {t:TypeId} {d:TypeDesc} {K:Bool->ψ->Prop} (hd:P.underlying t=some d) (h:K (ly d) G):υ P (Go.isAgg t) G K E:=by
 unfold Go.isAgg;refine υ.bind' (υ.underlying hd ?_);cases d<;>exact h
theorem υ.zeroValue {t:TypeId} {i:TypeInfo} {v:Value} {K:Value->ψ->Prop} (hi:P.info? t=some i) (Η:i.zero=some v) (h:K v G):υ P (Go.zeroValue t) G K E:=by
 unfold Go.zeroValue;refine υ.bind' (υ.typeInfo hi ?_);rw[Η];exact h
theorem υ.TO {a:Addr} (w:Nat->Value) {K:Array Value->ψ->Prop}:∀(n i:Nat) (acc:Array Value),a.spot=none->(∀j,i<=j->j<i+n->∃p,G.aG a.block (a.off+j)=some (w j,p))->K (acc++((List.range n).map λj=>w (i+j)).toArray) G->υ P (loadCellsFrom a i n acc) G K E:=by
 intro n
 induction n with
 | zero=>intro i acc _ _ h;simp at h;exact h
 | succ n Δ=>
  intro i acc ν ζ h;unfold loadCellsFrom;refine υ.bind' ?_;obtain⟨p,ω⟩:=ζ i (Nat.le_refl _) (by omega);have Ε:(a.add i).spot=none:=by unfold Addr.add;split<;>simp[ν]
  have Ζ:(a.add i).block=a.block:=by unfold Addr.add;split<;>rfl
  have a6:(a.add i).off=a.off+i:=by unfold Addr.add;split<;>simp_all
  refine⟨rfl,Ε,w i,p,by rw[Ζ,a6];exact ω,?_⟩;refine Δ (i+1) (acc.push (w i)) ν (λj J γ=>ζ j (by omega) (by omega)) ?_;have:acc.push (w i)++((List.range n).map λj=>w (i+1+j)).toArray=acc++((List.range (n+1)).map λj=>w (i+j)).toArray:=by
   rw[List.range_succ_eq_map];apply Array.ext';simp[Function.comp_def,Nat.add_assoc,Nat.add_comm 1]
  rw[this];exact h
theorem υ.loadCells {a:Addr} (w:Nat->Value) {n:Nat} {K:Array Value->ψ->Prop} (ν:a.spot=none) (ζ:∀j,j<n->∃p,G.aG a.block (a.off+j)=some (w j,p)) (h:K ((List.range n).map w).toArray G):υ P (Go.loadCells a n) G K E:=by
 unfold Go.loadCells;exact υ.TO w n 0 #[] ν (λj _ ε=>ζ j (by omega)) (by simpa using h)
def ψ.ht (G:ψ) (b o:Nat) (vs:List Value):ψ:={G with aG:=λΦ o'=>if Φ=b/\o<=o'/\o'<o+vs.length then some ((vs[o'-o]?).getD undef,true) else G.aG Φ o'}
theorem ψ.GZ {H:ψ} {b o:Nat} {vs:List Value}:∀r,(H.ht b o vs).fresh r->H.fresh r:=
 ψ.GP (λΦ o' h=>by
  simp only[ψ.ht] at h;split at h
  ·cases h
  ·exact h) (λ_ h=>h) (λ_ h=>h)
theorem υ.storeCells {a:Addr} {K:Unit->ψ->Prop} (ν:a.spot=none) (bL:∃t n,G.row a.block=some (t,n)):∀(vs:List Value) (i:Nat) (G':ψ),(∀v∈vs,One v)->(∀j,i<=j->j<i+vs.length->G'.owns a.block (a.off+j))->(G'.row=G.row)->K () (G'.ht a.block (a.off+i) vs)->υ P (Go.storeCells a vs i) G' K E:=by
 intro vs
 induction vs with
 | nil=>
  intro i G' _ _ _ h;have:G'.ht a.block (a.off+i) []=G':=by
   unfold ψ.ht;have:∀Φ o',¬(Φ=a.block/\a.off+i<=o'/\o'<a.off+i+([]:List Value).length):=λΦ o' h=>by simp at h;omega
   simp only[this,if_false]
  rw[this] at h;exact h
 | cons v vs Δ=>
  intro i G' CH fQ μ h;unfold Go.storeCells;refine υ.bind' ?_;have Ε:(a.add i).spot=none:=by unfold Addr.add;split<;>simp[ν]
  have Ζ:(a.add i).block=a.block:=by unfold Addr.add;split<;>rfl
  have a6:(a.add i).off=a.off+i:=by unfold Addr.add;split<;>simp_all
  refine⟨rfl,Ε,by rw[Ζ,a6];exact fQ i (Nat.le_refl _) (by simp),by rw[Ζ,μ];exact bL,CH v (by simp),?_⟩;refine Δ (i+1) _ (λv hv=>CH v (by simp[hv])) (λj J γ=>?_) μ ?_
  ·obtain⟨u,hu⟩:=fQ j (by omega) (by simp;omega);refine⟨u,?_⟩;simp only[ψ.vv,Ζ,a6];rw[if_neg (by omega)];exact hu
  ·have:(G'.vv (a.add i) v).ht a.block (a.off+(i+1)) vs=G'.ht a.block (a.off+i) (v::vs):=by
    unfold ψ.ht ψ.vv;simp only[Ζ,a6];congr 1
    funext Φ o'
    by_cases hb:Φ=a.block
    ·subst hb;by_cases J:o'=a.off+i
     ·subst J;rw[if_neg (by omega),if_pos ⟨rfl,rfl⟩,if_pos ⟨rfl,by omega,by simp⟩];simp
     ·by_cases γ:a.off+(i+1)<=o'/\o'<a.off+(i+1)+vs.length
      ·rw[if_pos ⟨rfl,γ⟩,if_pos ⟨rfl,by omega,by simp;omega⟩];have:o'-(a.off+i)=(o'-(a.off+(i+1)))+1:=by omega
       rw[this,List.getElem?_cons_succ]
      ·rw[if_neg (by intro x;exact γ x.2),if_neg (by intro x;exact J x.2),if_neg (by intro x;simp at x;omega)]
    ·rw[if_neg (λx=>hb x.1),if_neg (λx=>hb x.1),if_neg (λx=>hb x.1)]
   rw[this];exact h
end
def kn (H H':ψ) (b:Nat):Prop:=(∀o,H'.aG b o=H.aG b o)/\H'.row b=H.row b/\H'.obj b=H.obj b
theorem m8.pE {ee:aC} {dh H:ψ} {b:Nat} (h:m8 ee dh H b) (Ι:∀o,ee b o=none):kn dh H b:=
 ⟨λo=>(h.1 o).elim id λ⟨v,p,J,_⟩=>(by rw[Ι o] at J;cases J),h.2⟩
section
variable {S ay:aC} {B B':aP} {σ σ':List Row} {H H':ψ}
theorem sd.later (Α:bZ S ay B B' σ σ') {es:List (θ×θ)} {xs:Array MapEntry} {clock:Nat} (h:sd S B σ es xs clock):sd ay B' σ' es xs clock:=
 ⟨h.1,λi e y J γ=>⟨(h.2.1 i e y J γ).1.later Α,(h.2.1 i e y J γ).2.1.later Α,(h.2.1 i e y J γ).2.2⟩,h.2.2⟩
theorem CK.later (Α:bZ S ay B B' σ σ') {left:List (θ×θ)} {cur:Option (θ×θ)} {xs:Array MapEntry} {clock:Nat} {seen:Array Nat} (h:CK S B σ left cur xs clock seen):CK ay B' σ' left cur xs clock seen:=by
 obtain⟨⟨cA,J,γ,π⟩,Μ,aB⟩:=h;refine⟨⟨cA,J,γ,λi e y a b=>⟨(π i e y a b).1.later Α,(π i e y a b).2.later Α⟩⟩,Μ,λe he=>?_⟩;obtain⟨st,y,a,b,c,d⟩:=aB e he;exact⟨st,y,a,b,c.later Α,d.later Α⟩
theorem jC.later (Α:bZ S ay B B' σ σ') {r:Row} {bo:Option (Nat×Nat)} (h:jC S B σ H r bo) (ν:∀b N,bo=some (b,N)->kn H H' b)
  (dq:∀m left cur,r=.iter m left cur->σ'[m]?=σ[m]?/\B'[m]?=B[m]?/\∀b N,B[m]?=some (some (b,N))->kn H H' b):jC ay B' σ' H' r bo:=by
 cases r with
 | cells t k l=>
  cases bo with
  | none=>exact h
  | some x=>
   obtain⟨b,N⟩:=x;obtain⟨a1,ba,_⟩:=ν b N rfl;obtain⟨J,γ,π,w,Μ⟩:=h;refine⟨by rw[ba];exact J,γ,λo Γ=>by rw[a1];exact π o Γ,w,λi e hi=>⟨(Μ i e hi).1,λj a ε=>?_⟩⟩;obtain⟨c1,c2,c3⟩:=(Μ i e hi).2 j a ε;exact⟨by rw[a1];exact c1,c2.later Α,c3⟩
 | map es=>
  obtain⟨b,N,xs,clock,rfl,J,γ⟩:=h;exact⟨b,N,xs,clock,rfl,by rw[(ν b N rfl).2.2];exact J,γ.later Α⟩
 | iter m left cur=>
  obtain⟨b,N,aT,kI,xs,clock,seen,rfl,J,γ,π,Μ,aB⟩:=h;obtain⟨i1,i2,i3⟩:=dq m left cur rfl;exact⟨b,N,aT,kI,xs,clock,seen,rfl,by rw[i2];exact J,by rw[i1];exact γ,by rw[(ν b N rfl).2.2];exact π,by rw[(i3 aT kI J).2.2];exact Μ,aB.later Α⟩
 | dead=>trivial
theorem oF {id:Nat} {b N:Nat} (h:B[id]?=some (some (b,N))):B.has b:=⟨N,cv h⟩
theorem Holds.nS (Β:Holds S B σ H) {id b N:Nat} {r:Row} (μ:σ[id]?=some r) (Α:r.live) (hb:B[id]?=some (some (b,N))):¬H.fresh b:=λΤ=>by
 have h:=Β.row id r _ μ hb;cases r with
 | cells t k l=>have:=h.1;rw[Τ.2.1] at this;cases this
 | map es=>
  obtain⟨Φ,eV,xs,clock,e,J,_⟩:=h;cases e;rw[Τ.2.2.1] at J;cases J
 | iter m left cur=>
  obtain⟨Φ,eV,aT,kI,xs,clock,seen,e,_,_,J,_⟩:=h;cases e;rw[Τ.2.2.1] at J;cases J
 | dead=>exact Α
theorem TP {id:Nat} {r r':Row} {bo bo':Option (Nat×Nat)} (μ:σ[id]?=some r) (hb:B[id]?=some bo) (xG:r.to r' (some bo) (some bo')):bZ S S B (B.set id bo') σ (σ.set id r'):=by
 have bS:id<σ.length:=(b7.1 μ).1
 have oG:id<B.length:=(b7.1 hb).1;refine⟨λ_ _ _ h=>h,λj b' ε=>?_⟩;by_cases e:id=j
 ·subst e;rw[μ] at ε;cases ε;refine⟨r',by rw[List.getElem?_set_self bS],?_⟩;rw[hb,List.getElem?_set_self oG];exact xG
 ·exact⟨b',by rw[List.getElem?_set_ne e];exact ε,by rw[List.getElem?_set_ne e];exact b'.tI _⟩
theorem Holds.xH (Β:Holds S B σ H) {id:Nat} {r r':Row} {bo bo':Option (Nat×Nat)} (μ:σ[id]?=some r) (fe:r.live) (hb:B[id]?=some bo) (xG:r.to r' (some bo) (some bo'))
  (fQ:∀b eV,bo'=some (b,eV)->(∃N,bo=some (b,N))\/H.fresh b) (cE:∀b,(∀N,bo≠some (b,N))->(∀N,bo'≠some (b,N))->kn H H' b) (tC:∀b,H'.fresh b->H.fresh b)
  (dq:∀(j:Nat) left cur,σ[j]?≠some (Row.iter id left cur)) (bL:bZ S S B (B.set id bo') σ (σ.set id r')->jC S (B.set id bo') (σ.set id r') H' r' bo') :
  Holds S (B.set id bo') (σ.set id r') H'/\Ext S B H S (B.set id bo') H'/\bZ S S B (B.set id bo') σ (σ.set id r'):=by
 have Α:=TP (S:=S) μ hb xG
 have bS:id<σ.length:=(b7.1 μ).1
 have oG:id<B.length:=(b7.1 hb).1
 have other:∀(j:Nat) (b':Row) (b N:Nat),j≠id->σ[j]?=some b'->b'.live->B[j]?=some (some (b,N))->kn H H' b:=λj b' b N ε zK ec cO=>by
  refine cE b (λeV e=>?_) (λeV e=>?_)
  ·exact Β.inj j id b' r b N eV ε zK μ ec fe cO (by rw[hb,e])
  ·rcases fQ b eV e with⟨pF,γ⟩|γ
   ·exact Β.inj j id b' r b N pF ε zK μ ec fe cO (by rw[hb,γ])
   ·exact Β.nS zK ec cO γ
 refine⟨⟨λb o v hv=>?_,by simp[Β.len],λj b' tJ ε cO=>?_,λi j ej b' b gM gN fE hi ε ik ec hx cO=>?_,λj b' b N ε ec cO o=>?_⟩,⟨λ_ _ _ h=>h,λb jA Τ=>?_,λb jA=>?_,λb o v hv=>.inl hv,tC⟩,Α⟩
 ·have ah:=Β.dg b o v hv
  have Ι:∀N,bo≠some (b,N):=λN e=>by
   have:=Β.sep id r b N μ fe (by rw[hb,e]) o;rw[hv] at this;cases this
  have qR:∀N,bo'≠some (b,N):=λN e=>by
   rcases fQ b N e with⟨pF,γ⟩|γ
   ·exact Ι pF γ
   ·obtain⟨p,ω⟩:=ah;rw[γ.1 o] at ω;cases ω
  rw[(cE b Ι qR).1];exact ah
 ·by_cases e:id=j
  ·subst e;rw[List.getElem?_set_self bS] at ε;rw[List.getElem?_set_self oG] at cO;cases ε;cases cO;exact bL Α
  ·rw[List.getElem?_set_ne e] at ε cO;by_cases ec:b'.live
   ·refine(Β.row j b' tJ ε cO).later Α (λb N iH=>other j b' b N (Ne.symm e) ε ec (by rw[cO,iH])) λm left cur fz=>?_;subst fz;have hm:id≠m:=λx=>by subst x;exact dq j left cur ε
    refine⟨by rw[List.getElem?_set_ne hm],by rw[List.getElem?_set_ne hm],λb N se=>?_⟩;obtain⟨_,_,aT,kI,xs,clock,seen,_,J,⟨es,γ⟩,_⟩:=Β.row j _ tJ ε cO;exact other m _ b N (Ne.symm hm) γ trivial se
   ·cases b'<;>first|exact absurd trivial ec|trivial
 ·have key:∀(i:Nat) (ej:Row) (N:Nat),(σ.set id r')[i]?=some ej->ej.live->(B.set id bo')[i]?=some (some (b,N))->i≠id->(σ[i]?=some ej/\B[i]?=some (some (b,N))):=λi ej N J _ π bw=>by
   rw[List.getElem?_set_ne (Ne.symm bw)] at J π;exact⟨J,π⟩
  have zL:∀(i:Nat) (ej:Row) (N eV:Nat),i≠id->σ[i]?=some ej->ej.live->B[i]?=some (some (b,N))->bo'=some (b,eV)->False:=λi ej N eV bw J γ π Μ=>by
   rcases fQ b eV Μ with⟨pF,aB⟩|aB
   ·exact Β.inj i id ej r b N pF bw J μ γ fe π (by rw[hb,aB])
   ·exact Β.nS J γ π aB
  by_cases xw:i=id
  ·subst xw;rw[List.getElem?_set_self oG] at hx;obtain⟨J,γ⟩:=key j b' gN ε ec cO (Ne.symm fE);exact zL j b' gN gM (Ne.symm fE) J ec γ (by simpa using hx)
  ·obtain⟨J,γ⟩:=key i ej gM hi ik hx xw;by_cases mj:j=id
   ·subst mj;rw[List.getElem?_set_self oG] at cO;exact zL i ej gM gN fE J ik γ (by simpa using cO)
   ·obtain⟨π,Μ⟩:=key j b' gN ε ec cO mj;exact Β.inj i j ej b' b gM gN fE J π ik ec γ Μ
 ·by_cases e:id=j
  ·subst e;rw[List.getElem?_set_self oG] at cO;have TQ:bo'=some (b,N):=by simpa using cO
   rcases fQ b N TQ with⟨pF,γ⟩|γ
   ·exact Β.sep id r b pF μ fe (by rw[hb,γ]) o
   ·cases hv:S b o with
    | none=>rfl
    | some v=>obtain⟨p,ω⟩:=Β.dg b o v hv;rw[γ.1 o] at ω;cases ω
  ·rw[List.getElem?_set_ne e] at ε cO;exact Β.sep j b' b N ε ec cO o
 ·refine m8.of (cE b (λN e=>jA (oF (id:=id) (N:=N) (by rw[hb,e]))) λN e=>?_);rcases fQ b N e with⟨pF,γ⟩|γ
  ·exact jA (oF (id:=id) (N:=pF) (by rw[hb,γ]))
  ·exact Τ γ
 ·obtain⟨N,ck⟩:=jA;obtain⟨j,ε⟩:=List.getElem?_of_mem ck;by_cases e:id=j
  ·subst e;rw[List.getElem?_set_self oG] at ε;rcases fQ b N (by simpa using ε) with⟨pF,γ⟩|γ
   ·exact .inl (oF (id:=id) (N:=pF) (by rw[hb,γ]))
   ·exact .inr γ
  ·rw[List.getElem?_set_ne e] at ε;exact .inl (oF ε)
theorem TR {r:Row} {bo:Option (Nat×Nat)} (hlen:B.length=σ.length):bZ S S B (B++[bo]) σ (σ++[r]):=by
 refine⟨λ_ _ _ h=>h,λj b' ε=>?_⟩;have aH:=(b7.1 ε).1;exact⟨b',by rw[ea aH];exact ε,by rw[ea (by omega)];exact b'.tI _⟩
theorem Holds.push (Β:Holds S B σ H) {r:Row} {bo:Option (Nat×Nat)} (fQ:∀b N,bo=some (b,N)->H.fresh b) (cE:∀b,(∀N,bo≠some (b,N))->kn H H' b)
  (bL:bZ S S B (B++[bo]) σ (σ++[r])->jC S (B++[bo]) (σ++[r]) H' r bo) :
  Holds S (B++[bo]) (σ++[r]) H'/\Ext S B H S (B++[bo]) H'/\bZ S S B (B++[bo]) σ (σ++[r]):=by
 have Α:=TR (S:=S) (r:=r) (bo:=bo) Β.len
 have hlen:=Β.len
 have tC:∀b,H'.fresh b->H.fresh b:=by
  have key:∀b,((∀o,H'.aG b o=none)->∀o,H.aG b o=none)/\(H'.row b=none->H.row b=none)/\(H'.obj b=none->H.obj b=none):=λb=>by
   by_cases e:∀N,bo≠some (b,N)
   ·obtain⟨a1,ba,cm⟩:=cE b e;exact⟨λh o=>by rw[<-a1 o];exact h o,λh=>by rw[<-ba];exact h,λh=>by rw[<-cm];exact h⟩
   ·obtain⟨N,ck⟩:=Classical.not_forall.1 e;have Τ:=fQ b N (Classical.not_not.1 ck);exact⟨λ_=>Τ.1,λ_=>Τ.2.1,λ_=>Τ.2.2.1⟩
  exact λb hb=>⟨(key b).1 hb.1,(key b).2.1 hb.2.1,(key b).2.2 hb.2.2.1,λΦ aH=>⟨(key Φ).1 (hb.2.2.2 Φ aH).1,(key Φ).2.1 (hb.2.2.2 Φ aH).2.1,(key Φ).2.2 (hb.2.2.2 Φ aH).2.2⟩⟩
 have other:∀(j:Nat) (b':Row) (b N:Nat),σ[j]?=some b'->b'.live->B[j]?=some (some (b,N))->kn H H' b:=λj b' b N zK ec cO=>
  cE b λeV e=>Β.nS zK ec cO (fQ b eV e)
 have old:∀{α:Type} (l:List α) (x:α) (j:Nat) (y:α),(l++[x])[j]?=some y->(j<l.length/\l[j]?=some y)\/(j=l.length/\x=y):=λl x j y h=>by
  by_cases ε:j<l.length
  ·rw[ea ε] at h;exact .inl ⟨ε,h⟩
  ·rw[hE (by omega)] at h;have:j-l.length=0:=by
    have:=(b7.1 h).1;simp at this;omega
   rw[this] at h;simp at h;exact .inr ⟨by omega,h⟩
 refine⟨⟨λb o v hv=>?_,by simp[hlen],λj b' tJ ε cO=>?_,λi j ej b' b gM gN fE hi ε ik ec hx cO=>?_,λj b' b N ε ec cO o=>?_⟩,⟨λ_ _ _ h=>h,λb jA Τ=>?_,λb jA=>?_,λb o v hv=>.inl hv,tC⟩,Α⟩
 ·obtain⟨p,ω⟩:=Β.dg b o v hv;rw[(cE b λN e=>by have:=(fQ b N e).1 o;rw[ω] at this;cases this).1];exact⟨p,ω⟩
 ·rcases old σ r j b' ε with⟨J,γ⟩|⟨J,rfl⟩
  ·rw[ea (by omega)] at cO;by_cases ec:b'.live
   ·refine(Β.row j b' tJ γ cO).later Α (λb N iH=>other j b' b N γ ec (by rw[cO,iH])) λm left cur fz=>?_;subst fz;obtain⟨_,_,aT,kI,xs,clock,seen,_,Ε,⟨es,Ζ⟩,_⟩:=Β.row j _ tJ γ cO;have hm:=(b7.1 Ζ).1;exact⟨by rw[ea hm],by rw[ea (by omega)],λb N se=>other m _ b N Ζ trivial se⟩
   ·cases b'<;>first|exact absurd trivial ec|trivial
  ·rw[J,<-hlen] at cO;simp at cO;subst cO;exact bL Α
 ·rcases old σ r i ej hi with⟨J,γ⟩|⟨J,rfl⟩<;>rcases old σ r j b' ε with⟨π,Μ⟩|⟨π,rfl⟩
  ·rw[ea (by omega)] at hx cO;exact Β.inj i j ej b' b gM gN fE γ Μ ik ec hx cO
  ·rw[ea (by omega)] at hx;rw[π,<-hlen] at cO;simp at cO;exact Β.nS γ ik hx (fQ b gN cO)
  ·rw[ea (by omega)] at cO;rw[J,<-hlen] at hx;simp at hx;exact Β.nS Μ ec cO (fQ b gM hx)
  ·omega
 ·rcases old σ r j b' ε with⟨J,γ⟩|⟨J,rfl⟩
  ·rw[ea (by omega)] at cO;exact Β.sep j b' b N γ ec cO o
  ·rw[J,<-hlen] at cO;simp at cO;cases hv:S b o with
   | none=>rfl
   | some v=>obtain⟨p,ω⟩:=Β.dg b o v hv;rw[(fQ b N cO).1 o] at ω;cases ω
 ·exact m8.of (cE b λN e=>Τ (fQ b N e))
 ·obtain⟨N,ck⟩:=jA;rcases List.mem_append.1 ck with h|h
  ·exact .inl ⟨N,h⟩
  ·simp at h;exact .inr (fQ b N h.symm)
def aC.lay (S:aC) (r:Nat) (c:Array Value):aC:=λb o=>if b=r then c[o]? else S b o
theorem Holds.lay (Β:Holds S B σ H) {r:Nat} {c:Array Value} {t:TypeId} (Τ:H.fresh r) :
  Holds (S.lay r c) B σ (H.dz r c t)/\Ext S B H (S.lay r c) B (H.dz r c t)/\bZ S (S.lay r c) B B σ σ:=by
 have Ι:∀o,S r o=none:=λo=>by
  cases hv:S r o with
  | none=>rfl
  | some v=>obtain⟨p,ω⟩:=Β.dg r o v hv;rw[Τ.1 o] at ω;cases ω
 have cE:∀b o v,S b o=some v->S.lay r c b o=some v:=λb o v h=>by
  unfold aC.lay;rw[if_neg (λe=>by subst e;rw[Ι] at h;cases h)];exact h
 have Α:bZ S (S.lay r c) B B σ σ:=⟨cE,λ_ b' h=>⟨b',h,b'.tI _⟩⟩
 have aW:∀b,b≠r->kn H (H.dz r c t) b:=λb hb=>⟨λo=>by simp[ψ.dz,hb],by simp[ψ.dz,hb],rfl⟩;refine⟨⟨λb o v hv=>?_,Β.len,λj b' tJ ε cO=>?_,Β.inj,λj b' b N ε ec cO o=>?_⟩,⟨cE,λb _ oH=>m8.of (aW b λe=>oH (e▸Τ)),λb hb=>.inl hb,λb o v hv=>?_,ψ.Mb Τ c t⟩,Α⟩
 ·unfold aC.lay at hv;split at hv
  ·rename_i e;subst e;exact⟨true,by simp[ψ.dz,hv]⟩
  ·rename_i e;rw[(aW b e).1];exact Β.dg b o v hv
 ·by_cases ec:b'.live
  ·have CL:∀(j:Nat) (b':Row) (b N:Nat),σ[j]?=some b'->b'.live->B[j]?=some (some (b,N))->b≠r:=λj b' b N J γ π e=>Β.nS J γ π (e▸Τ);refine(Β.row j b' tJ ε cO).later Α (λb N iH=>aW b (CL j b' b N ε ec (by rw[cO,iH]))) λm left cur fz=>?_;subst fz;obtain⟨_,_,aT,kI,xs,clock,seen,_,Ε,⟨es,Ζ⟩,_⟩:=Β.row j _ tJ ε cO;exact⟨rfl,rfl,λb N se=>aW b (CL m _ b N Ζ trivial se)⟩
  ·cases b'<;>first|exact absurd trivial ec|trivial
 ·unfold aC.lay;rw[if_neg (λe:b=r=>Β.nS ε ec cO (e▸Τ))];exact Β.sep j b' b N ε ec cO o
 ·unfold aC.lay at hv;split at hv
  ·rename_i e;subst e;exact .inr (.inr Τ)
  ·exact .inl hv
end
def zM:Value->θ
 | .slice none 0 0=>.sl true 0 []
 | v=>.z v
def hy:Value->θ
 | .agg vs=>.aW (vs.toList.map zM)
 | v=>zM v
def aO (env:Ω):Operand->θ
 | .tmp n=>a5 env n
 | .const v=>hy v
 | .global _=>.cz
 | .func f=>.fn (.func f) [] []
theorem Mk {S:aC} {B:aP} {σ:List Row} (v:Value):ar S B σ (zM v) v:=by
 unfold zM;split
 ·exact .iI none 0 λ_=>rfl
 ·exact .z v
theorem pG {S:aC} {B:aP} {σ:List Row} (v:Value):ar S B σ (hy v) v:=by
 unfold hy;split
 ·rename_i vs;refine .aW vs (by simp) λi a w J γ=>?_;rw[List.getElem?_map,Array.getElem?_toList,γ] at J;cases J;exact Mk w
 ·exact Mk _
theorem lz {S:aC} {B:aP} {σ:List Row} {env:Ω} {t:Array Value} (h:cY S B σ env t) (o:Operand):ar S B σ (aO env o) (br t o):=by
 cases o with
 | tmp n=>exact h n
 | const v=>exact pG v
 | global g=>exact .cz _
 | func f=>exact .fn #[] #[] rfl rfl (λi a v hi=>by simp at hi) (λi a v hi=>by simp at hi)
inductive c6 where
 | ok (a:θ) (σ:List Row)
 | b5 (p:Prop) (r:c6)
 | all (n:Nat) (f:Nat->c6)
 | bad
def c6.holds (K:θ->List Row->Prop):c6->Prop
 | .ok a σ=>K a σ
 | .b5 p r=>p/\r.holds K
 | .all n f=>∀i,i<n->(f i).holds K
 | .bad=>False
def Ml:Next->Option Value
 | .value v=>some v
 | .skip=>some undef
 | _=>none
def jb:TypeDesc->Bool
 | .int _|.string|.bool=>true
 | _=>false
def G1 (P:Program) (t:TypeId):Option (List (TypeDesc×Nat))->Prop
 | none=>True
 | some items=>P.eqGuardType P.depth t=false/\items.map (·.2)=List.range items.length/\
  ((∃c9,P.underlying t=some (.struct c9)/\P.stoodInHeld t=false/\items=c9.toList.map (λf=>((P.underlying f.type).getD .invalid,f.offset))/\∀f∈c9.toList,f.name≠ "_" /\ ∃d,P.underlying f.type=some d/\jb d=true)\/
   ∃n e d f,P.underlying t=some (.array n e)/\P.underlying e=some d/\jb d=true/\P.info? e=some f/\f.size=1/\items=(List.range n).map λi=>(d,i))
structure il where
 size:Nat
 bI:TypeDesc
 zero:Value
 bytes:Nat
 eqs:Option (List (TypeDesc×Nat))
def il.agg (i:il):Bool:=ly i.bI
abbrev bd:=TypeId->Option il
def bT (P:Program) (T:bd):Prop:=∀t i,T t=some i->(P.underlying t=some i.bI/\G1 P t i.eqs)/\∃f,P.info? t=some f/\f.size=i.size/\f.zero=some i.zero/\f.bytes=i.bytes
def iJ (S:aC) (B:aP) (H:ψ) (σ:List Row) (K:θ->List Row->Prop) (v:Value) (H':ψ):Prop:=
 ∃ay B' σ' a,K a σ'/\Ext S B H ay B' H'/\Holds ay B' σ' H'/\bZ S ay B B' σ σ'/\ar ay B' σ' a v
def cJ (P:Program) (s:Sem Value) (S:aC) (B:aP) (H:ψ) (σ:List Row) (r:c6):Prop:=
 ∀K:θ->List Row->Prop,r.holds K->υ P s H (iJ S B H σ K) (λ_ _=>False)
def Does (P:Program) (s:Sem Next) (S:aC) (B:aP) (H:ψ) (σ:List Row) (r:c6):Prop:=
 ∀K:θ->List Row->Prop,r.holds K->υ P s H (λgy H'=>∃v,Ml gy=some v/\iJ S B H σ K v H') (λ_ _=>False)
section
variable {P:Program} {T:bd} {S:aC} {B:aP} {H:ψ} {σ:List Row} {env:Ω} {t:Array Value}
theorem cJ.next {s:Sem Value} {r:c6} (h:cJ P s S B H σ r):Does P (do pure (.value (<-s))) S B H σ r:=λK I=>
 υ.bind' (υ.mono (λv G hb=>υ.pure' ⟨v,rfl,hb⟩) (λ_ _ h=>h) _ (h K I))
theorem iJ.same {K:θ->List Row->Prop} {a:θ} {v:Value} (Β:Holds S B σ H) (I:K a σ) (ν:ar S B σ a v):iJ S B H σ K v H:=⟨S,B,σ,a,I,.refl _ _ _,Β,.refl _ _ _,ν⟩
theorem cJ.pure {a:θ} {v:Value} (Β:Holds S B σ H) (ν:ar S B σ a v):cJ P (pure v) S B H σ (.ok a σ):=λK I=>
 υ.pure' (.same Β I ν)
theorem cJ.bad {s:Sem Value}:cJ P s S B H σ .bad:=λK I=>I.elim
theorem cJ.b5 {s:Sem Value} {p:Prop} {r:c6} (h:p->cJ P s S B H σ r):cJ P s S B H σ (.b5 p r):=λK I=>h I.1 K I.2
theorem Does.val {a:θ} {v:Value} (Β:Holds S B σ H) (ν:ar S B σ a v):Does P (pure (.value v)) S B H σ (.ok a σ):=λK I=>
 υ.pure' ⟨v,rfl,.same Β I ν⟩
theorem Does.bad {s:Sem Next}:Does P s S B H σ .bad:=λK I=>I.elim
theorem bT.size (Θ:bT P T) {ty:TypeId} {i:il} (h:T ty=some i) {G:ψ} {K:Nat->ψ->Prop} {E:Value->ψ->Prop} (χ:K i.size G):υ P (sizeOf ty) G K E:=by
 obtain⟨_,f,J,γ,_⟩:=Θ ty i h;exact υ.sizeOf J (by rw[γ];exact χ)
theorem bT.bI (Θ:bT P T) {ty:TypeId} {i:il} (h:T ty=some i) {G:ψ} {K:TypeDesc->ψ->Prop} {E:Value->ψ->Prop} (χ:K i.bI G):υ P (underlying ty) G K E:=
 υ.underlying (Θ ty i h).1.1 χ
theorem bT.agg (Θ:bT P T) {ty:TypeId} {i:il} (h:T ty=some i) {G:ψ} {K:Bool->ψ->Prop} {E:Value->ψ->Prop} (χ:K i.agg G):υ P (isAgg ty) G K E:=
 υ.isAgg (Θ ty i h).1.1 χ
theorem bT.zero (Θ:bT P T) {ty:TypeId} {i:il} (h:T ty=some i) {G:ψ} {K:Value->ψ->Prop} {E:Value->ψ->Prop} (χ:K i.zero G):υ P (zeroValue ty) G K E:=by
 obtain⟨_,f,J,_,π,_⟩:=Θ ty i h;exact υ.zeroValue J π χ
theorem bT.info (Θ:bT P T) {ty:TypeId} {i:il} (h:T ty=some i) {G:ψ} {K:TypeInfo->ψ->Prop} {E:Value->ψ->Prop} (χ:∀f:TypeInfo,f.bytes=i.bytes->K f G):υ P (typeInfo ty) G K E:=by
 obtain⟨_,f,J,_,_,Μ⟩:=Θ ty i h;exact υ.typeInfo J (χ f Μ)
end
inductive cB where
 | ok (a:θ)
 | b5 (p:Prop) (r:cB)
 | bad
def cB.du (σ:List Row):cB->c6
 | .ok a=>.ok a σ
 | .b5 p r=>.b5 p (r.du σ)
 | .bad=>.bad
section
variable {P:Program} {T:bd} {S:aC} {B:aP} {H:ψ} {σ:List Row} {env:Ω} {t:Array Value}
def gz (k:IntKind) (a b:Int):Int:=k.wrap (BitVec.ofInt k.bits a&&&BitVec.ofInt k.bits b).toNat
def xI (k:IntKind) (a b:Int):Int:=k.wrap (BitVec.ofInt k.bits a|||BitVec.ofInt k.bits b).toNat
def zN (k:IntKind) (a b:Int):Int:=k.wrap (BitVec.ofInt k.bits a^^^BitVec.ofInt k.bits b).toNat
def qS (k:IntKind) (a b:Int):Int:=k.wrap (BitVec.ofInt k.bits a&&&~~~BitVec.ofInt k.bits b).toNat
def CM (a b:ByteArray):Bool:=Op.bytesLess a.toList b.toList
def sf (a b:ByteArray):Bool:=Op.bytesLess a.toList b.toList||a.toList==b.toList
def sg (op:BinOp) (x y:Value):cB:=
 match op,x,y with
 | .shl,.int k a,.int _ b=>.b5 (0<=b) (.ok (.z (.int k (k.wrap (a*2 ^ (min b.toNat k.bits))))))
 | .shr,.int k a,.int _ b=>.b5 (0<=b) (.ok (.z (.int k (a.fdiv (2 ^ (min b.toNat k.bits))))))
 | .add,.int k a,.int ab b=>if k=ab then .ok (.z (.int k (k.wrap (a+b)))) else .bad
 | .sub,.int k a,.int ab b=>if k=ab then .ok (.z (.int k (k.wrap (a-b)))) else .bad
 | .mul,.int k a,.int ab b=>if k=ab then .ok (.z (.int k (k.wrap (a*b)))) else .bad
 | .quo,.int k a,.int ab b=>if k=ab then .b5 (b≠0) (.ok (.z (.int k (k.wrap (a.tdiv b))))) else .bad
 | .rem,.int k a,.int ab b=>if k=ab then .b5 (b≠0) (.ok (.z (.int k (a.tmod b)))) else .bad
 | .and,.int k a,.int ab b=>if k=ab then .ok (.z (.int k (gz k a b))) else .bad
 | .or,.int k a,.int ab b=>if k=ab then .ok (.z (.int k (xI k a b))) else .bad
 | .xor,.int k a,.int ab b=>if k=ab then .ok (.z (.int k (zN k a b))) else .bad
 | .andNot,.int k a,.int ab b=>if k=ab then .ok (.z (.int k (qS k a b))) else .bad
 | .eql,.int k a,.int ab b=>if k=ab then .ok (.z (.bool (a==b))) else .bad
 | .neq,.int k a,.int ab b=>if k=ab then .ok (.z (.bool (a != b))) else .bad
 | .lss,.int k a,.int ab b=>if k=ab then .ok (.z (.bool (decide (a<b)))) else .bad
 | .leq,.int k a,.int ab b=>if k=ab then .ok (.z (.bool (decide (a<=b)))) else .bad
 | .gtr,.int k a,.int ab b=>if k=ab then .ok (.z (.bool (decide (a > b)))) else .bad
 | .geq,.int k a,.int ab b=>if k=ab then .ok (.z (.bool (decide (a>=b)))) else .bad
 | .add,.string a,.string b=>.b5 (((a.size+b.size:Nat):Int)<=IntKind.i64.max) (.ok (.z (.string (a++b))))
 | .eql,.string a,.string b=>.ok (.z (.bool (a.toList==b.toList)))
 | .neq,.string a,.string b=>.ok (.z (.bool !(a.toList==b.toList)))
 | .lss,.string a,.string b=>.ok (.z (.bool (CM a b)))
 | .leq,.string a,.string b=>.ok (.z (.bool (sf a b)))
 | .gtr,.string a,.string b=>.ok (.z (.bool (!(sf a b))))
 | .geq,.string a,.string b=>.ok (.z (.bool (!(CM a b))))
 | _,_,_=>.bad
theorem TS (Β:Holds S B σ H) (op:BinOp) (ty:TypeId) (p q:Operand) (x y:Value):cJ P (do eqGuard op ty p q x y;binOp op ty x y) S B H σ ((sg op x y).du σ):=by
 unfold sg;split
 case h_25=>exact .bad
 case h_1=>
  refine .b5 λh=>?_;have cW:¬(_:Int)<0:=Int.not_lt.2 h;simp only[eqGuard,binOp,Op.shift,cW,if_false];exact .pure Β (.z _)
 case h_2=>
  refine .b5 λh=>?_;have cW:¬(_:Int)<0:=Int.not_lt.2 h;simp only[eqGuard,binOp,Op.shift,cW,if_false];exact .pure Β (.z _)
 case h_6=>
  split
  ·rename_i e;subst e;exact .b5 λh=>by simp only[eqGuard,binOp,Op.intDiv,h,if_false,ne_eq,not_true_eq_false];exact .pure Β (.z _)
  ·exact .bad
 case h_7=>
  split
  ·rename_i e;subst e;exact .b5 λh=>by simp only[eqGuard,binOp,Op.intDiv,h,if_false,ne_eq,not_true_eq_false];exact .pure Β (.z _)
  ·exact .bad
 case h_18=>
  refine .b5 λh=>?_;have cW:¬((_:Int) > IntKind.i64.max):=Int.not_lt.2 h;simp only[eqGuard,binOp,Op.stringOp,cW,if_false];exact .pure Β (.z _)
 all_goals first
  | exact .pure Β (.z _)
  |(split
    ·rename_i e;subst e;simp only[eqGuard,binOp,Op.intArith,Op.intBits,Op.intCmp,ne_eq,not_true_eq_false,if_false];exact .pure Β (.z _)
    ·exact .bad)
def xJ (op:UnOp):θ->cB
 | .z (.bool b)=>match op with|.not=>.ok (.z (.bool !b))|_=>.bad
 | .z (.int k n)=>match op with|.neg=>.ok (.z (.int k (k.wrap (0-n))))|_=>.bad
 | _=>.bad
theorem TT (Β:Holds S B σ H) (op:UnOp) {a:θ} {v:Value} (ν:ar S B σ a v):cJ P (Op.unary op v) S B H σ ((xJ op a).du σ):=by
 unfold xJ;split
 ·cases ν;split
  ·exact .pure Β (.z _)
  ·exact .bad
 ·cases ν;split
  ·exact .pure Β (.z _)
  ·exact .bad
 ·exact .bad
def CN (i:Nat):θ->cB
 | .bu l=>match l[i]? with|some a=>.ok a|none=>.bad
 | .z (.tuple vs)=>match vs[i]? with|some v=>.ok (hy v)|none=>.bad
 | _=>.bad
theorem TU (Β:Holds S B σ H) (i:Nat) {a:θ} {v:Value} (ν:ar S B σ a v):cJ P (Instr.extract v i) S B H σ ((CN i a).du σ):=by
 unfold CN;split
 ·rename_i l;cases ν with
  | bu vs J γ=>
   cases Α:l[i]? with
   | none=>exact .bad
   | some a=>
    have aH:i<vs.size:=by rw[<-J];exact(b7.1 Α).1
    have hv:vs[i]?=some vs[i]:=e9 aH;simp only[Instr.extract,hv];exact .pure Β (γ i a _ Α hv)
 ·rename_i vs;cases ν;cases hv:vs[i]? with
  | none=>exact .bad
  | some v=>simp only[Instr.extract,hv];exact .pure Β (pG v)
 ·exact .bad
def CO (T:bd) (ty:TypeId) (a:θ):cB:=match T ty with
 | some i=>match i.bI with|.interface _=>.bad|_=>.ok (.fH ty a)
 | none=>.bad
theorem TV (Θ:bT P T) (Β:Holds S B σ H) (ty:TypeId) {a:θ} {v:Value} (ν:ar S B σ a v):cJ P (Instr.makeInterface ty v) S B H σ ((CO T ty a).du σ):=by
 unfold CO;cases hi:T ty with
 | none=>exact .bad
 | some i=>
  intro K I;unfold Instr.makeInterface;refine υ.bind' (Θ.bI hi ?_);cases hu:i.bI<;>simp only[hu,cB.du,c6.holds] at I<;>first|exact I.elim|exact υ.pure' (.same Β I (.fH v ν))
def vy (T:bd) (ty:TypeId) (ok:Bool) (a:θ):cB:=match T ty with
 | some i=>match i.bI with
  | .interface _=>.bad
  | _=>match a with
   | .fH t x=>if t=ty then .ok (if ok then .bu [x,.z (.bool true)] else x) else if ok then .ok (.bu [hy i.zero,.z (.bool false)]) else .bad
   | .z .nilIface=>if ok then .ok (.bu [hy i.zero,.z (.bool false)]) else .bad
   | _=>.bad
 | none=>.bad
theorem xK {a b:θ} {v w:Value} (h:ar S B σ a v) (k:ar S B σ b w):ar S B σ (.bu [a,b]) (.tuple #[v,w]):=by
 refine .bu _ rfl λi b9 e' J γ=>?_
 match i with
 | 0=>simp at J γ;subst J;subst γ;exact h
 | 1=>simp at J γ;subst J;subst γ;exact k
 | i+2=>simp at J
theorem TW (Θ:bT P T) (Β:Holds S B σ H) (TX ty:TypeId) (ok:Bool) {a:θ} {v:Value} (ν:ar S B σ a v):cJ P (Instr.typeAssert v TX ty ok) S B H σ ((vy T ty ok a).du σ):=by
 unfold vy;cases hi:T ty with
 | none=>exact .bad
 | some i=>
  simp only;by_cases bb:∃w,i.bI=.interface w
  ·obtain⟨w,hw⟩:=bb;rw[hw];exact .bad
  have e:∀r:cB,(match i.bI with|.interface _=>cB.bad|_=>r)=r:=λr=>by
   cases hu:i.bI<;>first|rfl|exact absurd ⟨_,hu⟩ bb
  rw[e];clear e;split
  ·rename_i t x;cases ν with
   | fH w U=>
    split
    ·rename_i e;subst e;intro K I;unfold Instr.typeAssert;refine υ.bind' (Θ.bI hi ?_);generalize i.bI=d at bb ⊢;cases d<;>first
      | exact absurd ⟨_,rfl⟩ bb
      |(simp only[if_true]
        cases ok
        ·exact υ.pure' (.same Β I U)
        ·exact υ.pure' (.same Β I (xK U (.z _))))
    ·rename_i bw;split
     ·rename_i dO;subst dO;intro K I;unfold Instr.typeAssert;refine υ.bind' (Θ.bI hi ?_);generalize i.bI=d at bb ⊢;cases d<;>first
       | exact absurd ⟨_,rfl⟩ bb
       |(simp only[bw,if_false,if_true]
         exact υ.bind' (Θ.zero hi (υ.pure' (.same Β I (xK (pG _) (.z _))))))
     ·exact .bad
  ·cases ν;split
   ·rename_i dO;subst dO;intro K I;unfold Instr.typeAssert;refine υ.bind' (Θ.bI hi ?_);generalize i.bI=d at bb ⊢;cases d<;>first
     | exact absurd ⟨_,rfl⟩ bb
     |(simp only[if_true]
       exact υ.bind' (Θ.zero hi (υ.pure' (.same Β I (xK (pG _) (.z _))))))
   ·exact .bad
  ·exact .bad
end
section
variable {P:Program} {T:bd} {S:aC} {B:aP} {H:ψ} {σ:List Row}
def tK (i:il) (l:List θ):cB:=
 if i.agg then(if i.size<=l.length then .ok (.aW (l.take i.size)) else .bad)
 else match l with
  | a::_=>.ok a
  | []=>.bad
def CP (T:bd) (ty:TypeId):θ->cB
 | .ad cells=>match T ty with|some i=>tK i cells|none=>.bad
 | _=>.bad
def vz (T:bd) (ty:TypeId) (σ:List Row):θ->c6
 | .Ψ id n i j=>match T ty,σ[id]? with
  | some kE,some (.cells _ _ l)=>if l.length=n then match l[i]? with
   | some e=>(tK kE (e.cells.drop j)).du σ
   | none=>.bad else .bad
  | _,_=>.bad
 | _=>.bad
theorem CQ (Θ:bT P T) (Β:Holds S B σ H) {ty:TypeId} {i:il} (hi:T ty=some i) {b o:Nat} {l:List θ} (w:Nat->Value) (ζ:∀(j:Nat) (a:θ),l[j]?=some a->∃p,H.aG b (o+j)=some (w j,p)) (μ:∀(j:Nat) (a:θ),l[j]?=some a->ar S B σ a (w j)) :
  cJ P (loadVar ty ⟨b,o,none⟩) S B H σ ((tK i l).du σ):=by
 intro K I;unfold tK at I;unfold loadVar;refine υ.bind' (Θ.agg hi ?_);cases zO:i.agg with
 | true=>
  rw[zO] at I;simp only[if_true] at I ⊢;split at I
  ·rename_i hle;refine υ.bind' (Θ.size hi (υ.bind' (υ.loadCells w rfl (λj ε=>?_) ?_)))
   ·have:l[j]?=some l[j]:=a2 (by omega);exact ζ j _ this
   ·refine υ.pure' (.same Β I (.aW _ (by simp;omega) λj a v J γ=>?_));have ε:j<i.size:=by have:=(b7.1 J).1;simp at this;omega
    rw[List.getElem?_take_of_lt ε] at J;simp[ε] at γ;subst γ;exact μ j a J
  ·exact I.elim
 | false=>
  rw[zO] at I;simp only[Bool.false_eq_true,if_false] at I ⊢;cases l with
  | nil=>exact I.elim
  | cons a l=>
   obtain⟨p,ω⟩:=ζ 0 a rfl;exact⟨rfl,rfl,w 0,p,ω,iJ.same Β I (μ 0 a rfl)⟩
theorem TY (Θ:bT P T) (Β:Holds S B σ H) {ty:TypeId} {a:θ} {v:Value} (ν:ar S B σ a v):cJ P (Instr.loadAt ty v) S B H σ ((CP T ty a).du σ):=by
 unfold CP;split
 ·rename_i cells;cases hi:T ty with
  | none=>exact .bad
  | some i=>
   cases ν with
   | ad b o w J γ=>exact CQ Θ Β hi w (λj a ε=>Β.dg _ _ _ (J j a ε)) γ
 ·exact .bad
theorem Mm (Β:Holds S B σ H) {id k i b N:Nat} {t:TypeId} {l:List θ} {e:θ} (Α:σ[id]?=some (.cells t k l)) (hb:B[id]?=some (some (b,N))) (he:l[i]?=some e) :
  e.cells.length=k/\∃w:Nat->Value,∀(j:Nat) (a:θ),e.cells[j]?=some a->H.aG b (i*k+j)=some (w j,true)/\ar S B σ a (w j)/\One (w j):=by
 obtain⟨_,_,_,w,hw⟩:=Β.row id _ _ Α hb;exact⟨(hw i e he).1,w i,(hw i e he).2⟩
theorem TZ (Θ:bT P T) (Β:Holds S B σ H) {ty:TypeId} {a:θ} {v:Value} (ν:ar S B σ a v):cJ P (Instr.loadAt ty v) S B H σ (vz T ty σ a):=by
 unfold vz;split
 ·rename_i id n i j;split
  ·rename_i kE t k l hi Α;split
   ·rename_i Ι;cases he:l[i]? with
    | none=>exact .bad
    | some e=>
     cases ν with
     | Ψ J γ π=>
      rw[Α] at J;cases J;obtain⟨χ,w,hw⟩:=Mm Β Α π he;refine CQ Θ Β hi (λx=>w (j+x)) (λx a U=>⟨true,?_⟩) (λx a U=>?_)
      ·rw[List.getElem?_drop] at U;rw[Nat.add_assoc];exact(hw _ a U).1
      ·rw[List.getElem?_drop] at U;exact(hw _ a U).2.1
     | jB v J γ=>rw[Α] at J;cases J;simp only[Row.g9] at γ;omega
   ·exact .bad
  ·exact .bad
 ·exact .bad
def gh (T:bd) (ty:TypeId) (f:Nat):Option (Nat×TypeId):=match T ty with
 | some i=>match i.bI with
  | .struct c9=>match c9[f]? with
   | some x=>match T x.type with
    | some cg=>if cg.size=0 then none else some (x.offset,x.type)
    | none=>none
   | none=>none
  | _=>none
 | none=>none
def CR (T:bd) (ty:TypeId) (f:Nat):θ->cB
 | .ad cells=>match gh T ty f with|some (o,_)=>.ok (.ad (cells.drop o))|none=>.bad
 | .z (.pointer (some ⟨b,o',none⟩))=>match gh T ty f with|some (o,_)=>.ok (.z (.pointer (some ⟨b,o'+o,none⟩)))|none=>.bad
 | _=>.bad
def vA (T:bd) (ty:TypeId) (f:Nat) (σ:List Row):θ->c6
 | .Ψ id n i j=>match gh T ty f,σ[id]? with
  | some (o,_),some (.cells _ _ l)=>if l.length=n then .ok (.Ψ id n i (j+o)) σ else .bad
  | _,_=>.bad
 | _=>.bad
theorem tL (b o n:Nat):(⟨b,o,none⟩:Addr).add n=⟨b,o+n,none⟩:=by
 unfold Addr.add;split
 ·simp_all
 ·rfl
theorem Mn {cells:List θ} {b o:Nat} (h:ar S B σ (.ad cells) (.pointer (some ⟨b,o,none⟩))) (n:Nat):ar S B σ (.ad (cells.drop n)) (.pointer (some ⟨b,o+n,none⟩)):=by
 cases h with
 | ad b o w J γ=>
  refine .ad b (o+n) (λj=>w (n+j)) (λj a ε=>?_) (λj a ε=>?_)
  ·rw[List.getElem?_drop] at ε;rw[Nat.add_assoc];exact J _ a ε
  ·rw[List.getElem?_drop] at ε;exact γ _ a ε
theorem G2 (Θ:bT P T) {ty:TypeId} {f o:Nat} {zP:TypeId} (Τ:gh T ty f=some (o,zP)) {b o':Nat} {K:Value->ψ->Prop} {E:Value->ψ->Prop} (h:K (.pointer (some ⟨b,o'+o,none⟩)) H) :
  υ P (Instr.fieldAt ty (.pointer (some ⟨b,o',none⟩)) f) H K E:=by
 unfold gh at Τ;split at Τ<;>try cases Τ
 rename_i i hi;split at Τ<;>try cases Τ
 rename_i c9 hu;split at Τ<;>try cases Τ
 rename_i x U;split at Τ<;>try cases Τ
 rename_i cg oI;split at Τ<;>try cases Τ
 rename_i kj;unfold Instr.fieldAt;refine υ.bind' (Θ.bI hi ?_);rw[hu];simp only[U];refine υ.bind' ?_;unfold fieldPlace;refine υ.bind' (υ.bind' (Θ.size oI ?_));rw[if_neg kj,tL];exact υ.pure' (υ.pure' h)
theorem T0 (Θ:bT P T) (Β:Holds S B σ H) {ty:TypeId} {f:Nat} {a:θ} {v:Value} (ν:ar S B σ a v):cJ P (Instr.fieldAt ty v f) S B H σ ((CR T ty f a).du σ):=by
 unfold CR;split
 ·rename_i cells;cases Τ:gh T ty f with
  | none=>exact .bad
  | some x=>
   obtain⟨o,zP⟩:=x;cases ν with
   | ad b o' w J γ=>exact λK I=>G2 Θ Τ (iJ.same Β I (Mn (.ad b o' w J γ) o))
 ·rename_i b o';cases Τ:gh T ty f with
  | none=>exact .bad
  | some x=>
   obtain⟨o,zP⟩:=x;cases ν;exact λK I=>G2 Θ Τ (iJ.same Β I (.z _))
 ·exact .bad
theorem T1 (Θ:bT P T) (Β:Holds S B σ H) {ty:TypeId} {f:Nat} {a:θ} {v:Value} (ν:ar S B σ a v):cJ P (Instr.fieldAt ty v f) S B H σ (vA T ty f σ a):=by
 unfold vA;split
 ·rename_i id n i j;split
  ·rename_i o zP t k l Τ Α;split
   ·rename_i Ι;cases ν with
    | Ψ J γ π=>
     rw[Α] at J;cases J;refine λK I=>G2 Θ Τ (iJ.same Β I ?_);rw[Nat.add_assoc];exact .Ψ Α Ι π
    | jB v J γ=>rw[Α] at J;cases J;simp only[Row.g9] at γ;omega
   ·exact .bad
  ·exact .bad
 ·exact .bad
theorem qT {ex:Bool} {k:Nat} {l:List θ} {v:Value} (h:ar S B σ (.sl ex k l) v):∃base cap,v=.slice base l.length cap/\l.length<=cap/\(ex=true->cap=l.length)/\(l≠[]->∃(b o:Nat) (w:Nat->Nat->Value),base=some ⟨b,o,none⟩/\(∀(i:Nat) (e:θ),l[i]?=some e->e.cells.length=k)/\
  (∀(i:Nat) (e:θ),l[i]?=some e->∀(j:Nat) (c:θ),e.cells[j]?=some c->S b (o+i*k+j)=some (w i j))/\(∀(i:Nat) (e:θ),l[i]?=some e->∀(j:Nat) (c:θ),e.cells[j]?=some c->ar S B σ c (w i j))):=by
 cases h with
 | iI base cap h=>exact⟨base,cap,rfl,Nat.zero_le _,h,λx=>absurd rfl x⟩
 | sl b o cap w J γ π Μ aB=>exact⟨_,cap,rfl,γ,J,λ_=>⟨b,o,w,rfl,π,Μ,aB⟩⟩
theorem T2 {ex:Bool} {k:Nat} {l:List θ} {base:Option Addr} {len cap i:Nat} {e:θ} (h:ar S B σ (.sl ex k l) (.slice base len cap)) (he:l[i]?=some e):∃b o,base=some ⟨b,o,none⟩/\ar S B σ (.ad e.cells) (.pointer (some ⟨b,o+i*k,none⟩)):=by
 obtain⟨T3,G3,hv,_,_,J⟩:=qT h;cases hv;obtain⟨b,o,w,rfl,γ,π,Μ⟩:=J (by rintro rfl;simp at he);exact⟨b,o,rfl,.ad b (o+i*k) (w i) (π i e he) (Μ i e he)⟩
def hY (T:bd) (ty:TypeId):Option (TypeId×Nat×Option Nat):=match T ty with
 | some i=>match i.bI with
  | .slice e=>match T e with|some b0=>some (e,b0.size,none)|none=>none
  | .array n e=>match T e with|some b0=>some (e,b0.size,some n)|none=>none
  | _=>none
 | none=>none
theorem CS {ty e:TypeId} {k:Nat} (h:hY T ty=some (e,k,none)):∃i b0,T ty=some i/\i.bI=.slice e/\T e=some b0/\b0.size=k:=by
 unfold hY at h;split at h
 ·rename_i i hi;split at h
  ·rename_i aJ hu;split at h
   ·rename_i b0 he;cases h;exact⟨i,b0,hi,hu,he,rfl⟩
   ·cases h
  ·split at h<;>cases h
  ·cases h
 ·cases h
theorem T4 {ty e:TypeId} {k n:Nat} (h:hY T ty=some (e,k,some n)):∃i b0,T ty=some i/\i.bI=.array n e/\T e=some b0/\b0.size=k:=by
 unfold hY at h;split at h
 ·rename_i i hi;split at h
  ·split at h<;>cases h
  ·rename_i aJ iT hu;split at h
   ·rename_i b0 he;cases h;exact⟨i,b0,hi,hu,he,rfl⟩
   ·cases h
  ·cases h
 ·cases h
def CU (T:bd) (ty:TypeId) (a cg:θ):cB:=
 match hY T ty,cg with
 | some (_,pH,none),.z (.int _ n)=>match a with
  | .sl _ k l=>if k=pH then .b5 (0<=n/\n<l.length) (.ok (.ad (l.getD n.toNat .cz).cells)) else .bad
  | _=>.bad
 | some (_,pH,some m),.z (.int _ n)=>match a with
  | .ad cells=>.b5 (0<=n/\n<m) (.ok (.ad (cells.drop (n.toNat*pH))))
  | _=>.bad
 | _,_=>.bad
def vB (T:bd) (ty:TypeId) (σ:List Row) (a cg:θ):c6:=
 match hY T ty,cg with
 | some (_,pH,none),.z (.int _ n)=>match a with
  | .ms id m i len=>match σ[id]? with
   | some (.cells _ k l)=>if k=pH/\l.length=m then .b5 (0<=n/\n<len) (.ok (.Ψ id m (i+n.toNat) 0) σ) else .bad
   | _=>.bad
  | _=>.bad
 | some (_,pH,some len),.z (.int _ n)=>match a with
  | .Ψ id m i j=>match σ[id]? with
   | some (.cells _ _ l)=>if l.length=m then .b5 (0<=n/\n<len) (.ok (.Ψ id m i (j+n.toNat*pH)) σ) else .bad
   | _=>.bad
  | _=>.bad
 | _,_=>.bad
theorem Mo (Θ:bT P T) {ty e:TypeId} {k:Nat} (he:hY T ty=some (e,k,none)) {b o len cap:Nat} {kk:IntKind} {n:Int} (Ι:0<=n/\n<len) {K:Value->ψ->Prop} {E:Value->ψ->Prop}
  (h:K (.pointer (some ⟨b,o+n.toNat*k,none⟩)) H):υ P (Instr.indexAt ty (.slice (some ⟨b,o,none⟩) len cap) (.int kk n)) H K E:=by
 obtain⟨i,b0,hi,hu,G4,rfl⟩:=CS he;unfold Instr.indexAt;refine υ.bind' ?_;refine υ.bind' (Θ.bI hi ?_);rw[hu];refine υ.bind' (υ.pure' ?_);refine υ.bind' (Θ.bI hi ?_);rw[hu];simp only[Ι,and_self,if_true];refine υ.bind' (Θ.size G4 ?_);rw[tL];exact h
theorem Mp (Θ:bT P T) {ty e:TypeId} {k m:Nat} (he:hY T ty=some (e,k,some m)) {b o:Nat} {kk:IntKind} {n:Int} (Ι:0<=n/\n<m) {K:Value->ψ->Prop} {E:Value->ψ->Prop}
  (h:K (.pointer (some ⟨b,o+n.toNat*k,none⟩)) H):υ P (Instr.indexAt ty (.pointer (some ⟨b,o,none⟩)) (.int kk n)) H K E:=by
 obtain⟨i,b0,hi,hu,G4,rfl⟩:=T4 he;unfold Instr.indexAt;refine υ.bind' ?_;refine υ.bind' (Θ.bI hi ?_);rw[hu];refine υ.bind' (υ.bind' (υ.pure' ?_));refine υ.bind' (Θ.bI hi ?_);rw[hu];simp only[Ι,and_self,if_true];refine υ.bind' (Θ.size G4 ?_);rw[tL];exact h
theorem T5 (Θ:bT P T) (Β:Holds S B σ H) {ty:TypeId} {a cg:θ} {v w:Value} (ν:ar S B σ a v) (U:ar S B σ cg w):cJ P (Instr.indexAt ty v w) S B H σ ((CU T ty a cg).du σ):=by
 unfold CU;split
 ·rename_i e pH kk n he;cases U;split
  ·rename_i ex k l;split
   ·rename_i χ;subst χ;refine .b5 λΙ=>?_;obtain⟨base,cap,rfl,_⟩:=qT ν;have aH:n.toNat<l.length:=by omega
    have m9:l[n.toNat]?=some l[n.toNat]:=a2 aH;obtain⟨b,o,rfl,μ⟩:=T2 ν m9;refine λK I=>Mo Θ he Ι (iJ.same Β I ?_);rw[List.getD_eq_getElem?_getD,m9];exact μ
   ·exact .bad
  ·exact .bad
 ·rename_i e pH m kk n he;cases U;split
  ·rename_i cells;refine .b5 λΙ=>?_;cases ν with
   | ad b o w J γ=>exact λK I=>Mp Θ he Ι (iJ.same Β I (Mn (.ad b o w J γ) _))
  ·exact .bad
 ·exact .bad
theorem T6 (Θ:bT P T) (Β:Holds S B σ H) {ty:TypeId} {a cg:θ} {v w:Value} (ν:ar S B σ a v) (U:ar S B σ cg w):cJ P (Instr.indexAt ty v w) S B H σ (vB T ty σ a cg):=by
 unfold vB;split
 ·rename_i e pH kk n he;cases U;split
  ·rename_i id m i len;split
   ·rename_i t k l Α;split
    ·rename_i χ;obtain⟨rfl,hm⟩:=χ;refine .b5 λΙ=>?_;cases ν with
     | ms cap J γ π Μ aB bc=>
      rw[Α] at J;cases J;rcases bc with bc|⟨b,N,rfl,rfl,bc⟩
      ·omega
      ·refine λK I=>Mo Θ he Ι (iJ.same Β I ?_);have:i*k+n.toNat*k=(i+n.toNat)*k+0:=by rw[Nat.add_mul];rfl
       rw[this];exact .Ψ Α hm π
     | ja v J γ=>rw[Α] at J;cases J;simp only[Row.g9] at γ;omega
    ·exact .bad
   ·exact .bad
  ·exact .bad
 ·rename_i e pH len kk n he;cases U;split
  ·rename_i id m i j;split
   ·rename_i t k l Α;split
    ·rename_i hm;refine .b5 λΙ=>?_;cases ν with
     | Ψ J γ π=>
      rw[Α] at J;cases J;refine λK I=>Mp Θ he Ι (iJ.same Β I ?_);rw[Nat.add_assoc];exact .Ψ Α hm π
     | jB v J γ=>rw[Α] at J;cases J;simp only[Row.g9] at γ;omega
    ·exact .bad
   ·exact .bad
  ·exact .bad
 ·exact .bad
end
def θ.a8 (σ:List Row):θ->Bool
 | .z v=>match v with|.agg _|.tuple _=>false|_=>true
 | .aW _|.bu _|.cz=>false
 | .Ψ id n _ _|.ms id n _ _=>match σ[id]? with|some (.cells _ _ l)=>decide (l.length<=n)|_=>false
 | .mp id=>match σ[id]? with|some (.map _)=>true|_=>false
 | .it id=>match σ[id]? with|some (.iter ..)=>true|_=>false
 | _=>true
def θ.sh:θ->Nat->List θ->θ
 | .aW l,j,cs=>.aW (l.take j++cs++l.drop (j+cs.length))
 | _,0,[c]=>c
 | e,_,_=>e
theorem θ.G5 {σ:List Row} {a:θ} (h:a.a8 σ=true):a.cells=[a]:=by
 cases a<;>first|rfl|cases h
theorem θ.Mq {σ:List Row} {e:θ} {j:Nat} {cs:List θ} (hle:j+cs.length<=e.cells.length) (dO:∀c∈cs,θ.a8 σ c=true):(e.sh j cs).cells=e.cells.take j++cs++e.cells.drop (j+cs.length):=by
 by_cases he:∃l,e=.aW l
 ·obtain⟨l,rfl⟩:=he;rfl
 ·have J:e.cells=[e]:=by cases e<;>first|rfl|exact absurd ⟨_,rfl⟩ he
  rw[J] at hle ⊢;cases cs with
  | nil=>
   have:e.sh j []=e:=by cases e<;>cases j<;>first|rfl|exact absurd ⟨_,rfl⟩ he
   rw[this,J]
   match j with
   | 0=>rfl
   | j+1=>simp
  | cons c cs=>
   simp at hle;have ε:j=0:=by omega
   have im:cs=[]:=by cases cs<;>simp at hle ⊢;omega
   subst ε;subst im;have:e.sh 0 [c]=c:=by cases e<;>first|rfl|exact absurd ⟨_,rfl⟩ he
   rw[this,θ.G5 (dO c (by simp))];simp
section
variable {P:Program} {T:bd} {S:aC} {B:aP} {H:ψ} {σ:List Row}
theorem ar.zQ {a:θ} {v:Value} (h:ar S B σ a v) (Γ:a.a8 σ=true):One v:=by
 cases h with
 | z v=>cases v<;>first|trivial|cases Γ
 | jB v J γ=>
  simp only[θ.a8,J] at Γ;split at Γ
  ·rename_i e;cases e;simp only[Row.g9] at γ;simp at Γ;omega
  ·cases Γ
 | ja v J γ=>
  simp only[θ.a8,J] at Γ;split at Γ
  ·rename_i e;cases e;simp only[Row.g9] at γ;simp at Γ;omega
  ·cases Γ
 | lu v J=>simp[θ.a8,J] at Γ
 | m7 v J=>simp[θ.a8,J] at Γ
 | aW|bu|cz=>cases Γ
 | _=>trivial
theorem One.cells {v:Value} (h:One v):v.cells=#[v]:=by cases v<;>first|rfl|exact h.elim
theorem ar.cells {a:θ} {v:Value} (h:ar S B σ a v) (ν:a.cells.all (θ.a8 σ)=true):v.cells.size=a.cells.length/\∀(j:Nat) (c:θ),a.cells[j]?=some c->∃x,v.cells[j]?=some x/\ar S B σ c x/\One x:=by
 have single:a.cells=[a]->v.cells.size=a.cells.length/\∀(j:Nat) (c:θ),a.cells[j]?=some c->∃x,v.cells[j]?=some x/\ar S B σ c x/\One x:=λe=>by
  rw[e] at ν ⊢;simp at ν;have Γ:=h.zQ ν;rw[Γ.cells];refine⟨rfl,λj c ε=>?_⟩
  match j with
  | 0=>simp at ε;subst ε;exact⟨v,rfl,h,Γ⟩
  | j+1=>simp at ε
 cases h with
 | aW vs J γ=>
  refine⟨J.symm,λj c ε=>?_⟩;have aH:j<vs.size:=by rw[<-J];exact(b7.1 ε).1
  have hv:vs[j]?=some vs[j]:=e9 aH
  have μ:=γ j c _ ε hv;exact⟨_,hv,μ,μ.zQ (List.all_eq_true.1 ν c (cv ε))⟩
 | _=>exact single rfl
theorem CV (Β:Holds S B σ H) {id k:Nat} {t:TypeId} {l:List θ} (h:σ[id]?=some (.cells t k l)):∀(j:Nat) left cur,σ[j]?≠some (Row.iter id left cur):=λj left cur ε=>by
 obtain⟨bo,hb⟩:=Mj Β ε;obtain⟨_,_,_,_,_,_,_,_,_,⟨es,γ⟩,_⟩:=Β.row j _ bo ε hb;rw[h] at γ;cases γ
theorem Mr {i eD k bK lo hi:Nat} (ε:bK<k) (oJ:hi<=k) (h:eD≠i):¬(i*k+lo<=eD*k+bK/\eD*k+bK<i*k+hi):=by
 rintro⟨J,γ⟩;rcases Nat.lt_or_gt_of_ne h with h|h
 ·have:(eD+1)*k<=i*k:=Nat.mul_le_mul_right k h;rw[Nat.add_mul] at this;omega
 ·have:(i+1)*k<=eD*k:=Nat.mul_le_mul_right k h;rw[Nat.add_mul] at this;omega
def xL (P:Program) (s:Sem Unit) (S:aC) (B:aP) (H:ψ) (σ:List Row) (r:c6):Prop:=
 ∀K:θ->List Row->Prop,r.holds K->υ P s H (λ_ H'=>iJ S B H σ K undef H') (λ_ _=>False)
theorem xL.next {s:Sem Unit} {r:c6} (h:xL P s S B H σ r):Does P (do s;pure .skip) S B H σ r:=λK I=>
 υ.bind' (υ.mono (λ_ G hb=>υ.pure' ⟨undef,rfl,hb⟩) (λ_ _ h=>h) _ (h K I))
theorem xL.bad {s:Sem Unit}:xL P s S B H σ .bad:=λK I=>I.elim
theorem T7 (Β:Holds S B σ H) {id k i j b N:Nat} {t:TypeId} {l:List θ} {e a:θ} {v:Value} (Α:σ[id]?=some (.cells t k l)) (hb:B[id]?=some (some (b,N))) (he:l[i]?=some e) (ν:ar S B σ a v) (dO:a.cells.all (θ.a8 σ)=true)
  (ε:j+a.cells.length<=k) :
  (∀x∈v.cells.toList,One x)/\(∀x,x<a.cells.length->H.owns b (i*k+j+x))/\H.row b=some (t,N)/\
  (let σ':=σ.set id (.cells t k (l.set i (e.sh j a.cells)));Holds S (B.set id (some (b,N))) σ' (H.ht b (i*k+j) v.cells.toList)/\Ext S B H S (B.set id (some (b,N))) (H.ht b (i*k+j) v.cells.toList)/\bZ S S B (B.set id (some (b,N))) σ σ'):=by
 obtain⟨cp,im⟩:=ν.cells dO;have hlen:v.cells.toList.length=a.cells.length:=by simpa using cp
 obtain⟨bL,ck,fQ,w,hw⟩:=Β.row id _ _ Α hb;have iK:i<l.length:=(b7.1 he).1;have Ms:(i+1)*k<=N:=Nat.le_trans (Nat.mul_le_mul_right k iK) ck;have hβ:i*k+k<=N:=by rw[Nat.add_mul] at Ms;omega
 have G6:=(hw i e he).1
 have G7:∀c∈a.cells,θ.a8 σ c=true:=List.all_eq_true.1 dO
 have bX:=θ.Mq (σ:=σ) (e:=e) (j:=j) (cs:=a.cells) (by rw[G6];exact ε) G7;refine⟨λx U=>?_,λx U=>?_,bL,?_⟩
 ·obtain⟨y,Ο⟩:=List.getElem?_of_mem U;have aH:y<a.cells.length:=by rw[<-hlen];exact(b7.1 Ο).1
  obtain⟨dd,J,_,γ⟩:=im y _ (a2 aH);rw[Array.getElem?_toList] at Ο;rw[Ο] at J;cases J;exact γ
 ·obtain⟨u,hu⟩:=fQ (i*k+j+x) (by omega);exact⟨u,hu⟩
 ·refine Β.xH (r':=.cells t k (l.set i (e.sh j a.cells))) (bo':=some (b,N)) Α trivial hb (.inl ⟨_,rfl,by simp,rfl⟩) (λΦ eV aJ=>.inl ⟨eV,aJ⟩) (λΦ J _=>?_) ψ.GZ (CV Β Α) (λkA=>?_)
  ·have bw:Φ≠b:=λaJ=>by subst aJ;exact J N rfl
   exact⟨λo=>by simp[ψ.ht,bw],rfl,rfl⟩
  ·refine⟨bL,by simpa using ck,λo Γ=>?_,λeD bK=>if eD=i/\j<=bK/\bK<j+a.cells.length then(v.cells[bK-j]?).getD undef else w eD bK,λeD aJ a9=>?_⟩
   ·simp only[ψ.ht];split
    ·exact⟨_,rfl⟩
    ·exact fQ o Γ
   ·by_cases tM:eD=i
    ·subst tM;rw[List.getElem?_set_self iK] at a9;cases a9;rw[bX];refine⟨by simp;omega,λbK c ζ=>?_⟩;by_cases bb:j<=bK/\bK<j+a.cells.length
     ·have a4:a.cells[bK-j]?=some c:=by
       rw[List.append_assoc,hE (by simp;omega)] at ζ;simp only[List.length_take] at ζ;rw[ea (by omega)] at ζ;have:bK-min j e.cells.length=bK-j:=by omega
       rw[this] at ζ;exact ζ
      obtain⟨x,J,γ,π⟩:=im _ _ a4;simp only[bb,and_self,if_true,J,Option.getD_some];refine⟨?_,γ.later kA,π⟩;simp only[ψ.ht,hlen];rw[if_pos ⟨trivial,by omega,by omega⟩];have:eD*k+bK-(eD*k+j)=bK-j:=by omega
      rw[this,Array.getElem?_toList,J];rfl
     ·have a4:e.cells[bK]?=some c:=by
       by_cases kJ:bK<j
       ·rw[List.append_assoc,ea (by simp;omega),List.getElem?_take_of_lt kJ] at ζ;exact ζ
       ·rw[hE (by simp;omega)] at ζ;rw[List.getElem?_drop] at ζ;have:j+a.cells.length+(bK-(e.cells.take j++a.cells).length)=bK:=by simp;omega
        rw[this] at ζ;exact ζ
      simp only[bb,and_false,if_false];obtain⟨J,γ,π⟩:=(hw eD e he).2 bK c a4;refine⟨?_,γ.later kA,π⟩;simp only[ψ.ht,hlen];rw[if_neg (λx=>bb ⟨by omega,by omega⟩)];exact J
    ·rw[List.getElem?_set_ne (Ne.symm tM)] at a9;obtain⟨J,γ⟩:=hw eD aJ a9;refine⟨J,λbK c ζ=>?_⟩;obtain⟨π,Μ,aB⟩:=γ bK c ζ;have oK:bK<k:=by rw[<-J];exact(b7.1 ζ).1
     simp only[tM,false_and,if_false];refine⟨?_,Μ.later kA,aB⟩;simp only[ψ.ht,hlen];rw[if_neg (λx=>Mr (lo:=j) (hi:=j+a.cells.length) oK ε tM ⟨x.2.1,by omega⟩)];exact π
def CW (T:bd) (ty:TypeId) (σ:List Row) (p a:θ):c6:=match p with
 | .Ψ id n i j=>match T ty,σ[id]? with
  | some kE,some (.cells t k l)=>match l[i]? with
   | some e=>if l.length=n/\a.cells.length=kE.size/\j+kE.size<=k/\a.cells.all (θ.a8 σ)=true then .ok .cz (σ.set id (.cells t k (l.set i (e.sh j a.cells)))) else .bad
   | none=>.bad
  | _,_=>.bad
 | _=>.bad
theorem T8 (Θ:bT P T) (Β:Holds S B σ H) {ty:TypeId} {p a:θ} {u v:Value} (ω:ar S B σ p u) (ν:ar S B σ a v):xL P (Instr.storeAt ty u v) S B H σ (CW T ty σ p a):=by
 unfold CW;split
 ·rename_i id n i j;split
  ·rename_i kE t k l hi Α;split
   ·rename_i e he;split
    ·rename_i ζ;obtain⟨Ι,cp,oK,dO⟩:=ζ;cases ω with
     | Ψ J γ π=>
      rename_i b N;rw[Α] at J;cases J;intro K I;obtain⟨c1,c2,c3,c4⟩:=T7 Β Α π he ν dO (by omega:j+a.cells.length<=k);obtain⟨G8,_⟩:=ν.cells dO;refine υ.bind' (υ.pure' ?_);unfold storeVar;refine υ.bind' (Θ.size hi ?_);rw[if_neg (by omega)];refine υ.storeCells (G:=H) rfl ⟨t,N,c3⟩ v.cells.toList 0 H c1 (λx _ U=>c2 x (by simp at U;omega)) rfl ?_;exact⟨S,_,_,.cz,I,c4.2.1,c4.1,c4.2.2,.cz _⟩
     | jB v J γ=>rw[Α] at J;cases J;simp only[Row.g9] at γ;omega
    ·exact .bad
   ·exact .bad
  ·exact .bad
 ·exact .bad
end
end Go.TL
