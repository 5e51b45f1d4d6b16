import Derived.Test.YtlabjopijpkiaaaGreatCAF
set_option maxHeartbeats 16000000
set_option maxRecDepth 20000
set_option linter.unusedSectionVars false
set_option linter.unusedSimpArgs false
set_option linter.unusedVariables false
namespace Go.TL
open Go.Conc
def sQ (S:aL) (B:aW) (σ:List Row) (es:List (η×η)) (xs:Array MapEntry) (clock:Nat):Prop:=
 es.length=xs.size/\(∀(i:Nat) (e:η×η) (y:MapEntry),es[i]?=some e->xs[i]?=some y->av S B σ e.1 y.key/\av S B σ e.2 y.val/\y.born<clock)/\
 ∀(i j:Nat) (y z:MapEntry),xs[i]?=some y->xs[j]?=some z->i<j->y.born<z.born
def C5 (S:aL) (B:aW) (σ:List Row) (left:List (η×η)) (cur:Option (η×η)) (xs:Array MapEntry) (clock:Nat) (seen:Array Nat):Prop:=
 (∃cL:List MapEntry,cL=xs.toList.filter (λe=>!seen.contains e.born)/\left.length=cL.length/\∀(i:Nat) (e:η×η) (y:MapEntry),left[i]?=some e->cL[i]?=some y->av S B σ e.1 y.key/\av S B σ e.2 y.val)/\
 (∀y∈xs,y.born<clock)/\
 ∀e,cur=some e->∃G5 y,seen.back?=some G5/\xs.find? (·.born==G5)=some y/\av S B σ e.1 y.key/\av S B σ e.2 y.val
def j' (S:aL) (B:aW) (σ:List Row) (H:Α) (r:Row) (bo:Option (Nat×Nat)):Prop:=
 match r with
 | .cells t k l=>match bo with
  | none=>l=[]
  | some (b,N)=>H.row b=some (t,N)/\l.length*k<=N/\(∀o,o<N->∃w,H.aP b o=some (w,true))/\
   ∃w:Nat->Nat->Value,∀(i:Nat) (e:η),l[i]?=some e->e.cells.length=k/\∀(j:Nat) (a:η),e.cells[j]?=some a->H.aP b (i*k+j)=some (w i j,true)/\av S B σ a (w i j)/\One (w i j)
 | .map es=>∃b N xs clock,bo=some (b,N)/\H.obj b=some (.map xs clock)/\sQ S B σ es xs clock
 | .iter m left cur=>∃b N aZ kX xs clock seen,bo=some (b,N)/\B[m]?=some (some (aZ,kX))/\(∃es,σ[m]?=some (.map es))/\H.obj b=some (.mapIter (some aZ) clock seen clock)/\H.obj aZ=some (.map xs clock)/\C5 S B σ left cur xs clock seen
 | .dead=>True
def Row.live (r:Row):Prop:=match r with|.dead=>False|_=>True
structure Holds (S:aL) (B:aW) (σ:List Row) (H:Α):Prop where
 dm:∀b o v,S b o=some v->∃p,H.aP b o=some (v,p)
 len:B.length=σ.length
 row:∀(id:Nat) (r:Row) (bo:Option (Nat×Nat)),σ[id]?=some r->B[id]?=some bo->j' S B σ H r bo
 inj:∀(i j:Nat) (ew cj:Row) (b gC gD:Nat),i≠j->σ[i]?=some ew->σ[j]?=some cj->ew.live->cj.live->B[i]?=some (some (b,gC))->B[j]?=some (some (b,gD))->False
 sep:∀(id:Nat) (r:Row) (b N:Nat),σ[id]?=some r->r.live->B[id]?=some (some (b,N))->∀o,S b o=none
def aW.has (B:aW) (b:Nat):Prop:=∃N,some (b,N)∈B
def nJ (fu:aL) (ei H:Α) (b:Nat):Prop:=
 (∀o,H.aP b o=ei.aP b o\/∃v p,fu b o=some v/\ei.aP b o=some (v,p)/\H.aP b o=some (v,false))/\H.row b=ei.row b/\H.obj b=ei.obj b
theorem nJ.of {fu:aL} {ei H:Α} {b:Nat} (h:(∀o,H.aP b o=ei.aP b o)/\H.row b=ei.row b/\H.obj b=ei.obj b):nJ fu ei H b:=⟨λo=>.inl (h.1 o),h.2⟩
structure Ext (fu:aL) (eH:aW) (ei:Α) (S:aL) (B:aW) (H:Α):Prop where
 dm:∀b o v,fu b o=some v->S b o=some v
 fV:∀b,¬eH.has b->¬ei.fresh b->nJ fu ei H b
 blocks:∀b,B.has b->eH.has b\/ei.fresh b
 rv:∀b o v,S b o=some v->fu b o=some v\/eH.has b\/ei.fresh b
 grow:∀b,H.fresh b->ei.fresh b
theorem Ext.refl (S:aL) (B:aW) (H:Α):Ext S B H S B H:=⟨λ_ _ _ h=>h,λ_ _ _=>nJ.of ⟨λ_=>rfl,rfl,rfl⟩,λ_ h=>.inl h,λ_ _ _ h=>.inl h,λ_ h=>h⟩
theorem Ext.trans {fu bM cU:aL} {eH bS eQ:aW} {ei H1 bH:Α} (h:Ext fu eH ei bM bS H1) (k:Ext bM bS H1 cU eQ bH):Ext fu eH ei cU eQ bH:=by
 refine⟨λb o v x=>k.dm b o v (h.dm b o v x),λb hb Τ=>?_,λb hb=>?_,λb o v hv=>?_,λb x=>h.grow b (k.grow b x)⟩
 ·have Γ:=h.fV b hb Τ
  have T3:¬H1.fresh b:=λx=>Τ (h.grow b x)
  have lu:¬bS.has b:=λx=>(h.blocks b x).elim hb Τ
  have Δ:=k.fV b lu T3;refine⟨λo=>?_,Δ.2.1.trans Γ.2.1,Δ.2.2.trans Γ.2.2⟩;rcases Δ.1 o with x|⟨v,p,v9,kg,ry⟩<;>rcases Γ.1 o with y|⟨u,q,nK,qd,z3⟩
  ·exact .inl (x.trans y)
  ·exact .inr ⟨u,q,nK,qd,x.trans z3⟩
  ·rcases h.rv b o v v9 with z|z|z
   ·exact .inr ⟨v,p,z,by rw[<-y];exact kg,ry⟩
   ·exact absurd z hb
   ·exact absurd z Τ
  ·have e:=h.dm b o u nK
   have:v=u:=by rw[v9] at e;exact Option.some.inj e
   subst this;exact .inr ⟨v,q,nK,qd,ry⟩
 ·rcases k.blocks b hb with x|x
  ·exact h.blocks b x
  ·exact .inr (h.grow b x)
 ·rcases k.rv b o v hv with x|x|x
  ·exact h.rv b o v x
  ·exact .inr (h.blocks b x)
  ·exact .inr (.inr (h.grow b x))
abbrev Χ:=List (Nat×η)
def a5:Χ->Nat->η
 | [],_=>.cg
 |(j,a)::r,i=>if j=i then a else a5 r i
def dv (S:aL) (B:aW) (σ:List Row) (env:Χ) (t:Array Value):Prop:=∀i,av S B σ (a5 env i) (t.getD i undef)
theorem dv.later {S aF:aL} {B B':aW} {σ σ':List Row} {env:Χ} {t:Array Value} (h:dv S B σ env t) (ξ:b3 S aF B B' σ σ'):dv aF B' σ' env t:=λi=>(h i).later ξ
theorem dv.put {S:aL} {B:aW} {σ:List Row} {env:Χ} {t:Array Value} (h:dv S B σ env t) {d:Nat} (hd:d<t.size) {a:η} {v:Value} (κ:av S B σ a v):dv S B σ ((d,a)::env) (t.setIfInBounds d v):=by
 intro i;simp only[a5];split
 ·rename_i e;subst e;simpa[Array.getD_eq_getD_getElem?,hd] using κ
 ·rename_i e;have:=h i;rw[Array.getD_eq_getD_getElem?] at this ⊢
  rwa [Array.getElem?_setIfInBounds_ne e]
theorem Mk {S:aL} {B:aW} {σ:List Row} {H:Α} (Β:Holds S B σ H) {id:Nat} {r:Row} (h:σ[id]?=some r):∃bo,B[id]?=some bo:=by
 have:id<B.length:=by rw[Β.len];exact(bX.1 h).1
 exact⟨_,a8 this⟩
def l9:TypeDesc->Bool
 | .struct _|.array _ _=>true
 | _=>false
section
variable {P:Program} {α β:Type} {G:Α} {E:Value->Α->Prop}
theorem ς.mono {K K':α->Α->Prop} {E':Value->Α->Prop} (θ:∀a G,K a G->K' a G) (dz:∀v G,E v G->E' v G) (s:Sem α):∀{G:Α},ς P s G K E->ς P s G K' E':=by
 induction s with
 | pure a=>intro G h;exact θ _ _ h
 | load m a k ω=>intro G ⟨J,U,v,p,μ,Ε⟩;exact⟨J,U,v,p,μ,ω v Ε⟩
 | store m a v k ω=>intro G ⟨J,U,μ,Ε,au,bd⟩;exact⟨J,U,μ,Ε,au,ω bd⟩
 | new o k ω=>
  intro G h;cases o with
  | cells c t ef=>exact⟨h.1,λr ι=>ω r (h.2 r ι)⟩
  | _=>exact λr ι=>ω r (h r ι)
 | shape r k ω=>intro G ⟨t,n,J,U⟩;exact⟨t,n,J,ω _ U⟩
 | freeze a n k ω=>intro G h;exact h.elim
 | frozen a k ω=>intro G ⟨J,U⟩;exact⟨J,ω _ U⟩
 | getObj r k ω=>intro G ⟨o,J,U,μ⟩;exact⟨o,J,U,ω _ μ⟩
 | setObj r o k ω=>intro G ⟨J,U,μ,Ε⟩;exact⟨J,U,μ,ω Ε⟩
 | choose q k ω=>
  intro G h;simp only[ς] at h ⊢;split
  ·rw[if_pos ‹_›] at h;exact ω _ h
  ·rw[if_neg ‹_›] at h;exact λn=>ω _ (h n)
 | sys c k ω=>intro G h;exact h.elim
 | program k ω=>intro G h;exact ω P h
 | mark m k ω=>intro G ⟨J,U⟩;exact⟨J,ω U⟩
 | halt x=>
  intro G h;cases x<;>first|exact h.elim|exact dz _ _ h
theorem ς.bind {f:α->Sem β} {K:β->Α->Prop} (s:Sem α):∀{G:Α},ς P s G (λa G'=>ς P (f a) G' K E) E->ς P (s.bind f) G K E:=by
 induction s with
 | pure a=>intro G h;exact h
 | load m a k ω=>intro G ⟨J,U,v,p,μ,Ε⟩;exact⟨J,U,v,p,μ,ω v Ε⟩
 | store m a v k ω=>intro G ⟨J,U,μ,Ε,au,bd⟩;exact⟨J,U,μ,Ε,au,ω bd⟩
 | new o k ω=>
  intro G h;cases o with
  | cells c t ef=>exact⟨h.1,λr ι=>ω r (h.2 r ι)⟩
  | _=>exact λr ι=>ω r (h r ι)
 | shape r k ω=>intro G ⟨t,n,J,U⟩;exact⟨t,n,J,ω _ U⟩
 | freeze a n k ω=>intro G h;exact h.elim
 | frozen a k ω=>intro G ⟨J,U⟩;exact⟨J,ω _ U⟩
 | getObj r k ω=>intro G ⟨o,J,U,μ⟩;exact⟨o,J,U,ω _ μ⟩
 | setObj r o k ω=>intro G ⟨J,U,μ,Ε⟩;exact⟨J,U,μ,ω Ε⟩
 | choose q k ω=>
  intro G h;simp only[ς] at h;simp only[Sem.bind,ς];split
  ·rw[if_pos ‹_›] at h;exact ω _ h
  ·rw[if_neg ‹_›] at h;exact λn=>ω _ (h n)
 | sys c k ω=>intro G h;exact h.elim
 | program k ω=>intro G h;exact ω P h
 | mark m k ω=>intro G ⟨J,U⟩;exact⟨J,ω U⟩
 | halt x=>
  intro G h;cases x<;>first|exact h.elim|exact h
theorem ς.bind' {f:α->Sem β} {K:β->Α->Prop} {s:Sem α} (h:ς P s G (λa G'=>ς P (f a) G' K E) E):ς P (s >>= f) G K E:=ς.bind s h
theorem ς.pure' {a:α} {K:α->Α->Prop} (h:K a G):ς P (pure a) G K E:=h
theorem ς.underlying {t:TypeId} {d:TypeDesc} {K:TypeDesc->Α->Prop} (hd:P.underlying t=some d) (h:K d G):ς P (Go.underlying t) G K E:=by
 unfold Go.underlying;refine ς.bind' ?_;show ς P (match P.underlying t with|some d=>pure d|none=>_) G K E;rw[hd];exact h
theorem ς.typeInfo {t:TypeId} {i:TypeInfo} {K:TypeInfo->Α->Prop} (hi:P.info? t=some i) (h:K i G):ς P (Go.typeInfo t) G K E:=by
 unfold Go.typeInfo;refine ς.bind' ?_;show ς P (match P.info? t with|some i=>pure i|none=>_) G K E;have:P.info? t=some i:=hi;rw[this];exact h
theorem ς.sizeOf {t:TypeId} {i:TypeInfo} {K:Nat->Α->Prop} (hi:P.info? t=some i) (h:K i.size G):ς P (Go.sizeOf t) G K E:=by
 unfold Go.sizeOf;exact ς.bind' (ς.typeInfo hi (ς.pure' h))
theorem ς.isAgg {t:TypeId} {d:TypeDesc} {K:Bool->Α->Prop} (hd:P.underlying t=some d) (h:K (l9 d) G):ς P (Go.isAgg t) G K E:=by
 unfold Go.isAgg;refine ς.bind' (ς.underlying hd ?_);cases d<;>exact h
theorem ς.zeroValue {t:TypeId} {i:TypeInfo} {v:Value} {K:Value->Α->Prop} (hi:P.info? t=some i) (Φ:i.zero=some v) (h:K v G):ς P (Go.zeroValue t) G K E:=by
 unfold Go.zeroValue;refine ς.bind' (ς.typeInfo hi ?_);rw[Φ];exact h
theorem ς.T4 {a:Addr} (w:Nat->Value) {K:Array Value->Α->Prop}:∀(n i:Nat) (acc:Array Value),a.spot=none->(∀j,i<=j->j<i+n->∃p,G.aP a.block (a.off+j)=some (w j,p))->K (acc++((List.range n).map λj=>w (i+j)).toArray) G->ς P (loadCellsFrom a i n acc) G K E:=by
 intro n
 induction n with
 | zero=>intro i acc _ _ h;simp at h;exact h
 | succ n ω=>
  intro i acc κ ε h;unfold loadCellsFrom;refine ς.bind' ?_;obtain⟨p,π⟩:=ε i (Nat.le_refl _) R;have Γ:(a.add i).spot=none:=by unfold Addr.add;split<;>simp[κ]
  have Δ:(a.add i).block=a.block:=by unfold Addr.add;split<;>rfl
  have a4:(a.add i).off=a.off+i:=by unfold Addr.add;split<;>simp_all
  refine⟨rfl,Γ,w i,p,by rw[Δ,a4];exact π,?_⟩;refine ω (i+1) (acc.push (w i)) κ (λj J U=>ε j R R) ?_;have:acc.push (w i)++((List.range n).map λj=>w (i+1+j)).toArray=acc++((List.range (n+1)).map λj=>w (i+j)).toArray:=by
   rw[List.range_succ_eq_map];apply Array.ext';simp[Function.comp_def,Nat.add_assoc,Nat.add_comm 1]
  rw[this];exact h
theorem ς.loadCells {a:Addr} (w:Nat->Value) {n:Nat} {K:Array Value->Α->Prop} (κ:a.spot=none) (ε:∀j,j<n->∃p,G.aP a.block (a.off+j)=some (w j,p)) (h:K ((List.range n).map w).toArray G):ς P (Go.loadCells a n) G K E:=by
 unfold Go.loadCells;exact ς.T4 w n 0 #[] κ (λj _ δ=>ε j R) (by simpa using h)
def Α.hN (G:Α) (b o:Nat) (vs:List Value):Α:={G with aP:=λΨ o'=>if Ψ=b/\o<=o'/\o'<o+vs.length then some ((vs[o'-o]?).getD undef,true) else G.aP Ψ o'}
theorem Α.G6 {H:Α} {b o:Nat} {vs:List Value}:∀r,(H.hN b o vs).fresh r->H.fresh r:=
 Α.GX (λΨ o' h=>by
  simp only[Α.hN] at h;split at h
  ·cases h
  ·exact h) (λ_ h=>h) (λ_ h=>h)
theorem ς.storeCells {a:Addr} {K:Unit->Α->Prop} (κ:a.spot=none) (bQ:∃t n,G.row a.block=some (t,n)):∀(vs:List Value) (i:Nat) (G':Α),(∀v∈vs,One v)->(∀j,i<=j->j<i+vs.length->G'.owns a.block (a.off+j))->(G'.row=G.row)->K () (G'.hN a.block (a.off+i) vs)->ς P (Go.storeCells a vs i) G' K E:=by
 intro vs
 induction vs with
 | nil=>
  intro i G' _ _ _ h;have:G'.hN a.block (a.off+i) []=G':=by
   unfold Α.hN;have:∀Ψ o',¬(Ψ=a.block/\a.off+i<=o'/\o'<a.off+i+([]:List Value).length):=λΨ o' h=>by simp at h;omega
   simp only[this,if_false]
  rw[this] at h;exact h
 | cons v vs ω=>
  intro i G' C2 gn ι h;unfold Go.storeCells;refine ς.bind' ?_;have Γ:(a.add i).spot=none:=by unfold Addr.add;split<;>simp[κ]
  have Δ:(a.add i).block=a.block:=by unfold Addr.add;split<;>rfl
  have a4:(a.add i).off=a.off+i:=by unfold Addr.add;split<;>simp_all
  refine⟨rfl,Γ,by rw[Δ,a4];exact gn i (Nat.le_refl _) ζ,by rw[Δ,ι];exact bQ,C2 v ζ,?_⟩;refine ω (i+1) _ (λv hv=>C2 v (by simp[hv])) (λj J U=>?_) ι ?_
  ·obtain⟨u,hu⟩:=gn j R (by simp;omega);refine⟨u,?_⟩;simp only[Α.v7,Δ,a4];rw[if_neg R];exact hu
  ·have:(G'.v7 (a.add i) v).hN a.block (a.off+(i+1)) vs=G'.hN a.block (a.off+i) (v::vs):=by
    unfold Α.hN Α.v7;simp only[Δ,a4];congr 1
    funext Ψ o'
    by_cases hb:Ψ=a.block
    ·subst hb;by_cases J:o'=a.off+i
     ·subst J;rw[if_neg R,if_pos ⟨rfl,rfl⟩,if_pos ⟨rfl,R,ζ⟩];simp
     ·by_cases U:a.off+(i+1)<=o'/\o'<a.off+(i+1)+vs.length
      ·rw[if_pos ⟨rfl,U⟩,if_pos ⟨rfl,R,by simp;omega⟩];have:o'-(a.off+i)=(o'-(a.off+(i+1)))+1:=R;rw[this,List.getElem?_cons_succ]
      ·rw[if_neg (by intro x;exact U x.2),if_neg (by intro x;exact J x.2),if_neg (by intro x;simp at x;omega)]
    ·rw[if_neg (λx=>hb x.1),if_neg (λx=>hb x.1),if_neg (λx=>hb x.1)]
   rw[this];exact h
end
def kY (H H':Α) (b:Nat):Prop:=(∀o,H'.aP b o=H.aP b o)/\H'.row b=H.row b/\H'.obj b=H.obj b
theorem nJ.sR {fu:aL} {ei H:Α} {b:Nat} (h:nJ fu ei H b) (Ζ:∀o,fu b o=none):kY ei H b:=
 ⟨λo=>(h.1 o).elim id λ⟨v,p,J,_⟩=>(by rw[Ζ o] at J;cases J),h.2⟩
section
variable {S aF:aL} {B B':aW} {σ σ':List Row} {H H':Α}
theorem sQ.later (ξ:b3 S aF B B' σ σ') {es:List (η×η)} {xs:Array MapEntry} {clock:Nat} (h:sQ S B σ es xs clock):sQ aF B' σ' es xs clock:=
 ⟨h.1,λi e y J U=>⟨(h.2.1 i e y J U).1.later ξ,(h.2.1 i e y J U).2.1.later ξ,(h.2.1 i e y J U).2.2⟩,h.2.2⟩
theorem C5.later (ξ:b3 S aF B B' σ σ') {left:List (η×η)} {cur:Option (η×η)} {xs:Array MapEntry} {clock:Nat} {seen:Array Nat} (h:C5 S B σ left cur xs clock seen):C5 aF B' σ' left cur xs clock seen:=by
 obtain⟨⟨cL,J,U,μ⟩,Ε,au⟩:=h;refine⟨⟨cL,J,U,λi e y a b=>⟨(μ i e y a b).1.later ξ,(μ i e y a b).2.later ξ⟩⟩,Ε,λe he=>?_⟩;obtain⟨st,y,a,b,c,d⟩:=au e he;exact⟨st,y,a,b,c.later ξ,d.later ξ⟩
theorem j'.later (ξ:b3 S aF B B' σ σ') {r:Row} {bo:Option (Nat×Nat)} (h:j' S B σ H r bo) (κ:∀b N,bo=some (b,N)->kY H H' b)
  (dD:∀m left cur,r=.iter m left cur->σ'[m]?=σ[m]?/\B'[m]?=B[m]?/\∀b N,B[m]?=some (some (b,N))->kY H H' b):j' aF B' σ' H' r bo:=by
 cases r with
 | cells t k l=>
  cases bo with
  | none=>exact h
  | some x=>
   obtain⟨b,N⟩:=x;obtain⟨a1,a9,_⟩:=κ b N rfl;obtain⟨J,U,μ,w,Ε⟩:=h;refine⟨by rw[a9];exact J,U,λo ψ=>by rw[a1];exact μ o ψ,w,λi e hi=>⟨(Ε i e hi).1,λj a δ=>?_⟩⟩;obtain⟨c1,c2,c3⟩:=(Ε i e hi).2 j a δ;exact⟨by rw[a1];exact c1,c2.later ξ,c3⟩
 | map es=>
  obtain⟨b,N,xs,clock,rfl,J,U⟩:=h;exact⟨b,N,xs,clock,rfl,by rw[(κ b N rfl).2.2];exact J,U.later ξ⟩
 | iter m left cur=>
  obtain⟨b,N,aZ,kX,xs,clock,seen,rfl,J,U,μ,Ε,au⟩:=h;obtain⟨i1,i2,i3⟩:=dD m left cur rfl;exact⟨b,N,aZ,kX,xs,clock,seen,rfl,by rw[i2];exact J,by rw[i1];exact U,by rw[(κ b N rfl).2.2];exact μ,by rw[(i3 aZ kX J).2.2];exact Ε,au.later ξ⟩
 | dead=>trivial
theorem pf {id:Nat} {b N:Nat} (h:B[id]?=some (some (b,N))):B.has b:=⟨N,cG h⟩
theorem Holds.ov (Β:Holds S B σ H) {id b N:Nat} {r:Row} (ι:σ[id]?=some r) (ξ:r.live) (hb:B[id]?=some (some (b,N))):¬H.fresh b:=λΤ=>by
 have h:=Β.row id r _ ι hb;cases r with
 | cells t k l=>have:=h.1;rw[Τ.2.1] at this;cases this
 | map es=>
  obtain⟨Ψ,e',xs,clock,e,J,_⟩:=h;cases e;rw[Τ.2.2.1] at J;cases J
 | iter m left cur=>
  obtain⟨Ψ,e',aZ,kX,xs,clock,seen,e,_,_,J,_⟩:=h;cases e;rw[Τ.2.2.1] at J;cases J
 | dead=>exact ξ
theorem T5 {id:Nat} {r r':Row} {bo bo':Option (Nat×Nat)} (ι:σ[id]?=some r) (hb:B[id]?=some bo) (sS:r.to r' (some bo) (some bo')):b3 S S B (B.set id bo') σ (σ.set id r'):=by
 have b5:id<σ.length:=(bX.1 ι).1
 have pg:id<B.length:=(bX.1 hb).1;refine⟨λ_ _ _ h=>h,λj cj δ=>?_⟩;by_cases e:id=j
 ·subst e;rw[ι] at δ;cases δ;refine⟨r',by rw[List.getElem?_set_self b5],?_⟩;rw[hb,List.getElem?_set_self pg];exact sS
 ·exact⟨cj,by rw[List.getElem?_set_ne e];exact δ,by rw[List.getElem?_set_ne e];exact cj.sO _⟩
theorem Holds.xZ (Β:Holds S B σ H) {id:Nat} {r r':Row} {bo bo':Option (Nat×Nat)} (ι:σ[id]?=some r) (fb:r.live) (hb:B[id]?=some bo) (sS:r.to r' (some bo) (some bo'))
  (gn:∀b e',bo'=some (b,e')->(∃N,bo=some (b,N))\/H.fresh b) (cH:∀b,(∀N,bo≠some (b,N))->(∀N,bo'≠some (b,N))->kY H H' b) (uw:∀b,H'.fresh b->H.fresh b)
  (dD:∀(j:Nat) left cur,σ[j]?≠some (Row.iter id left cur)) (bQ:b3 S S B (B.set id bo') σ (σ.set id r')->j' S (B.set id bo') (σ.set id r') H' r' bo') :
  Holds S (B.set id bo') (σ.set id r') H'/\Ext S B H S (B.set id bo') H'/\b3 S S B (B.set id bo') σ (σ.set id r'):=by
 have ξ:=T5 (S:=S) ι hb sS
 have b5:id<σ.length:=(bX.1 ι).1
 have pg:id<B.length:=(bX.1 hb).1
 have other:∀(j:Nat) (cj:Row) (b N:Nat),j≠id->σ[j]?=some cj->cj.live->B[j]?=some (some (b,N))->kY H H' b:=λj cj b N δ z4 d' cO=>by
  refine cH b (λe' e=>?_) (λe' e=>?_)
  ·exact Β.inj j id cj r b N e' δ z4 ι d' fb cO (by rw[hb,e])
  ·rcases gn b e' e with⟨qe,U⟩|U
   ·exact Β.inj j id cj r b N qe δ z4 ι d' fb cO (by rw[hb,U])
   ·exact Β.ov z4 d' cO U
 refine⟨⟨λb o v hv=>?_,by simp[Β.len],λj cj uE δ cO=>?_,λi j ew cj b gC gD fz hi δ h9 d' gQ cO=>?_,λj cj b N δ d' cO o=>?_⟩,⟨λ_ _ _ h=>h,λb j8 Τ=>?_,λb j8=>?_,λb o v hv=>.inl hv,uw⟩,ξ⟩
 ·have an:=Β.dm b o v hv
  have Ζ:∀N,bo≠some (b,N):=λN e=>by
   have:=Β.sep id r b N ι fb (by rw[hb,e]) o;rw[hv] at this;cases this
  have rz:∀N,bo'≠some (b,N):=λN e=>by
   rcases gn b N e with⟨qe,U⟩|U
   ·exact Ζ qe U
   ·obtain⟨p,π⟩:=an;rw[U.1 o] at π;cases π
  rw[(cH b Ζ rz).1];exact an
 ·by_cases e:id=j
  ·subst e;rw[List.getElem?_set_self b5] at δ;rw[List.getElem?_set_self pg] at cO;cases δ;cases cO;exact bQ ξ
  ·rw[List.getElem?_set_ne e] at δ cO;by_cases d':cj.live
   ·refine(Β.row j cj uE δ cO).later ξ (λb N js=>other j cj b N (Ne.symm e) δ d' (by rw[cO,js])) λm left cur fZ=>?_;subst fZ;have hm:id≠m:=λx=>by subst x;exact dD j left cur δ
    refine⟨by rw[List.getElem?_set_ne hm],by rw[List.getElem?_set_ne hm],λb N sT=>?_⟩;obtain⟨_,_,aZ,kX,xs,clock,seen,_,J,⟨es,U⟩,_⟩:=Β.row j _ uE δ cO;exact other m _ b N (Ne.symm hm) U trivial sT
   ·cases cj<;>first|exact absurd trivial d'|trivial
 ·have key:∀(i:Nat) (ew:Row) (N:Nat),(σ.set id r')[i]?=some ew->ew.live->(B.set id bo')[i]?=some (some (b,N))->i≠id->(σ[i]?=some ew/\B[i]?=some (some (b,N))):=λi ew N J _ μ bA=>by
   rw[List.getElem?_set_ne (Ne.symm bA)] at J μ;exact⟨J,μ⟩
  have z5:∀(i:Nat) (ew:Row) (N e':Nat),i≠id->σ[i]?=some ew->ew.live->B[i]?=some (some (b,N))->bo'=some (b,e')->False:=λi ew N e' bA J U μ Ε=>by
   rcases gn b e' Ε with⟨qe,au⟩|au
   ·exact Β.inj i id ew r b N qe bA J ι U fb μ (by rw[hb,au])
   ·exact Β.ov J U μ au
  by_cases xO:i=id
  ·subst xO;rw[List.getElem?_set_self pg] at gQ;obtain⟨J,U⟩:=key j cj gD δ d' cO (Ne.symm fz);exact z5 j cj gD gC (Ne.symm fz) J d' U (by simpa using gQ)
  ·obtain⟨J,U⟩:=key i ew gC hi h9 gQ xO;by_cases lx:j=id
   ·subst lx;rw[List.getElem?_set_self pg] at cO;exact z5 i ew gC gD fz J h9 U (by simpa using cO)
   ·obtain⟨μ,Ε⟩:=key j cj gD δ d' cO lx;exact Β.inj i j ew cj b gC gD fz J μ h9 d' U Ε
 ·by_cases e:id=j
  ·subst e;rw[List.getElem?_set_self pg] at cO;have T6:bo'=some (b,N):=by simpa using cO
   rcases gn b N T6 with⟨qe,U⟩|U
   ·exact Β.sep id r b qe ι fb (by rw[hb,U]) o
   ·cases hv:S b o with
    | none=>rfl
    | some v=>obtain⟨p,π⟩:=Β.dm b o v hv;rw[U.1 o] at π;cases π
  ·rw[List.getElem?_set_ne e] at δ cO;exact Β.sep j cj b N δ d' cO o
 ·refine nJ.of (cH b (λN e=>j8 (pf (id:=id) (N:=N) (by rw[hb,e]))) λN e=>?_);rcases gn b N e with⟨qe,U⟩|U
  ·exact j8 (pf (id:=id) (N:=qe) (by rw[hb,U]))
  ·exact Τ U
 ·obtain⟨N,ck⟩:=j8;obtain⟨j,δ⟩:=List.getElem?_of_mem ck;by_cases e:id=j
  ·subst e;rw[List.getElem?_set_self pg] at δ;rcases gn b N (by simpa using δ) with⟨qe,U⟩|U
   ·exact .inl (pf (id:=id) (N:=qe) (by rw[hb,U]))
   ·exact .inr U
  ·rw[List.getElem?_set_ne e] at δ;exact .inl (pf δ)
theorem T7 {r:Row} {bo:Option (Nat×Nat)} (hlen:B.length=σ.length):b3 S S B (B++[bo]) σ (σ++[r]):=by
 refine⟨λ_ _ _ h=>h,λj cj δ=>?_⟩;have aO:=(bX.1 δ).1;exact⟨cj,by rw[dI aO];exact δ,by rw[dI R];exact cj.sO _⟩
theorem Holds.push (Β:Holds S B σ H) {r:Row} {bo:Option (Nat×Nat)} (gn:∀b N,bo=some (b,N)->H.fresh b) (cH:∀b,(∀N,bo≠some (b,N))->kY H H' b)
  (bQ:b3 S S B (B++[bo]) σ (σ++[r])->j' S (B++[bo]) (σ++[r]) H' r bo) :
  Holds S (B++[bo]) (σ++[r]) H'/\Ext S B H S (B++[bo]) H'/\b3 S S B (B++[bo]) σ (σ++[r]):=by
 have ξ:=T7 (S:=S) (r:=r) (bo:=bo) Β.len
 have hlen:=Β.len
 have uw:∀b,H'.fresh b->H.fresh b:=by
  have key:∀b,((∀o,H'.aP b o=none)->∀o,H.aP b o=none)/\(H'.row b=none->H.row b=none)/\(H'.obj b=none->H.obj b=none):=λb=>by
   by_cases e:∀N,bo≠some (b,N)
   ·obtain⟨a1,a9,cK⟩:=cH b e;exact⟨λh o=>by rw[<-a1 o];exact h o,λh=>by rw[<-a9];exact h,λh=>by rw[<-cK];exact h⟩
   ·obtain⟨N,ck⟩:=Classical.not_forall.1 e;have Τ:=gn b N (Classical.not_not.1 ck);exact⟨λ_=>Τ.1,λ_=>Τ.2.1,λ_=>Τ.2.2.1⟩
  exact λb hb=>⟨(key b).1 hb.1,(key b).2.1 hb.2.1,(key b).2.2 hb.2.2.1,λΨ aO=>⟨(key Ψ).1 (hb.2.2.2 Ψ aO).1,(key Ψ).2.1 (hb.2.2.2 Ψ aO).2.1,(key Ψ).2.2 (hb.2.2.2 Ψ aO).2.2⟩⟩
 have other:∀(j:Nat) (cj:Row) (b N:Nat),σ[j]?=some cj->cj.live->B[j]?=some (some (b,N))->kY H H' b:=λj cj b N z4 d' cO=>
  cH b λe' e=>Β.ov z4 d' cO (gn b e' e)
 have old:∀{α:Type} (l:List α) (x:α) (j:Nat) (y:α),(l++[x])[j]?=some y->(j<l.length/\l[j]?=some y)\/(j=l.length/\x=y):=λl x j y h=>by
  by_cases δ:j<l.length
  ·rw[dI δ] at h;exact .inl ⟨δ,h⟩
  ·rw[hp R] at h;have:j-l.length=0:=by
    have:=(bX.1 h).1;simp at this;omega
   rw[this] at h;simp at h;exact .inr ⟨R,h⟩
 refine⟨⟨λb o v hv=>?_,by simp[hlen],λj cj uE δ cO=>?_,λi j ew cj b gC gD fz hi δ h9 d' gQ cO=>?_,λj cj b N δ d' cO o=>?_⟩,⟨λ_ _ _ h=>h,λb j8 Τ=>?_,λb j8=>?_,λb o v hv=>.inl hv,uw⟩,ξ⟩
 ·obtain⟨p,π⟩:=Β.dm b o v hv;rw[(cH b λN e=>by have:=(gn b N e).1 o;rw[π] at this;cases this).1];exact⟨p,π⟩
 ·rcases old σ r j cj δ with⟨J,U⟩|⟨J,rfl⟩
  ·rw[dI R] at cO;by_cases d':cj.live
   ·refine(Β.row j cj uE U cO).later ξ (λb N js=>other j cj b N U d' (by rw[cO,js])) λm left cur fZ=>?_;subst fZ;obtain⟨_,_,aZ,kX,xs,clock,seen,_,Γ,⟨es,Δ⟩,_⟩:=Β.row j _ uE U cO;have hm:=(bX.1 Δ).1;exact⟨by rw[dI hm],by rw[dI R],λb N sT=>other m _ b N Δ trivial sT⟩
   ·cases cj<;>first|exact absurd trivial d'|trivial
  ·rw[J,<-hlen] at cO;simp at cO;subst cO;exact bQ ξ
 ·rcases old σ r i ew hi with⟨J,U⟩|⟨J,rfl⟩<;>rcases old σ r j cj δ with⟨μ,Ε⟩|⟨μ,rfl⟩
  ·rw[dI R] at gQ cO;exact Β.inj i j ew cj b gC gD fz U Ε h9 d' gQ cO
  ·rw[dI R] at gQ;rw[μ,<-hlen] at cO;simp at cO;exact Β.ov U h9 gQ (gn b gD cO)
  ·rw[dI R] at cO;rw[J,<-hlen] at gQ;simp at gQ;exact Β.ov Ε d' cO (gn b gC gQ)
  ·omega
 ·rcases old σ r j cj δ with⟨J,U⟩|⟨J,rfl⟩
  ·rw[dI R] at cO;exact Β.sep j cj b N U d' cO o
  ·rw[J,<-hlen] at cO;simp at cO;cases hv:S b o with
   | none=>rfl
   | some v=>obtain⟨p,π⟩:=Β.dm b o v hv;rw[(gn b N cO).1 o] at π;cases π
 ·exact nJ.of (cH b λN e=>Τ (gn b N e))
 ·obtain⟨N,ck⟩:=j8;rcases List.mem_append.1 ck with h|h
  ·exact .inl ⟨N,h⟩
  ·simp at h;exact .inr (gn b N h.symm)
def aL.lay (S:aL) (r:Nat) (c:Array Value):aL:=λb o=>if b=r then c[o]? else S b o
theorem Holds.lay (Β:Holds S B σ H) {r:Nat} {c:Array Value} {t:TypeId} (Τ:H.fresh r) :
  Holds (S.lay r c) B σ (H.dL r c t)/\Ext S B H (S.lay r c) B (H.dL r c t)/\b3 S (S.lay r c) B B σ σ:=by
 have Ζ:∀o,S r o=none:=λo=>by
  cases hv:S r o with
  | none=>rfl
  | some v=>obtain⟨p,π⟩:=Β.dm r o v hv;rw[Τ.1 o] at π;cases π
 have cH:∀b o v,S b o=some v->S.lay r c b o=some v:=λb o v h=>by
  unfold aL.lay;rw[if_neg (λe=>by subst e;rw[Ζ] at h;cases h)];exact h
 have ξ:b3 S (S.lay r c) B B σ σ:=⟨cH,λ_ cj h=>⟨cj,h,cj.sO _⟩⟩
 have a0:∀b,b≠r->kY H (H.dL r c t) b:=λb hb=>⟨λo=>by simp[Α.dL,hb],by simp[Α.dL,hb],rfl⟩;refine⟨⟨λb o v hv=>?_,Β.len,λj cj uE δ cO=>?_,Β.inj,λj cj b N δ d' cO o=>?_⟩,⟨cH,λb _ ph=>nJ.of (a0 b λe=>ph (e▸Τ)),λb hb=>.inl hb,λb o v hv=>?_,Α.Mc Τ c t⟩,ξ⟩
 ·unfold aL.lay at hv;split at hv
  ·rename_i e;subst e;exact⟨true,by simp[Α.dL,hv]⟩
  ·rename_i e;rw[(a0 b e).1];exact Β.dm b o v hv
 ·by_cases d':cj.live
  ·have C6:∀(j:Nat) (cj:Row) (b N:Nat),σ[j]?=some cj->cj.live->B[j]?=some (some (b,N))->b≠r:=λj cj b N J U μ e=>Β.ov J U μ (e▸Τ);refine(Β.row j cj uE δ cO).later ξ (λb N js=>a0 b (C6 j cj b N δ d' (by rw[cO,js]))) λm left cur fZ=>?_;subst fZ;obtain⟨_,_,aZ,kX,xs,clock,seen,_,Γ,⟨es,Δ⟩,_⟩:=Β.row j _ uE δ cO;exact⟨rfl,rfl,λb N sT=>a0 b (C6 m _ b N Δ trivial sT)⟩
  ·cases cj<;>first|exact absurd trivial d'|trivial
 ·unfold aL.lay;rw[if_neg (λe:b=r=>Β.ov δ d' cO (e▸Τ))];exact Β.sep j cj b N δ d' cO o
 ·unfold aL.lay at hv;split at hv
  ·rename_i e;subst e;exact .inr (.inr Τ)
  ·exact .inl hv
end
def z6:Value->η
 | .slice none 0 0=>.sl true 0 []
 | v=>.z v
def hO:Value->η
 | .agg vs=>.a0 (vs.toList.map z6)
 | v=>z6 v
def aR (env:Χ):Operand->η
 | .tmp n=>a5 env n
 | .const v=>hO v
 | .global _=>.cg
 | .func f=>.fn (.func f) [] []
theorem Ml {S:aL} {B:aW} {σ:List Row} (v:Value):av S B σ (z6 v) v:=by
 unfold z6;split
 ·exact .iB none 0 λ_=>rfl
 ·exact .z v
theorem qf {S:aL} {B:aW} {σ:List Row} (v:Value):av S B σ (hO v) v:=by
 unfold hO;split
 ·rename_i vs;refine .a0 vs ζ λi a w J U=>?_;rw[List.getElem?_map,Array.getElem?_toList,U] at J;cases J;exact Ml w
 ·exact Ml _
theorem l' {S:aL} {B:aW} {σ:List Row} {env:Χ} {t:Array Value} (h:dv S B σ env t) (o:Operand):av S B σ (aR env o) (bl t o):=by
 cases o with
 | tmp n=>exact h n
 | const v=>exact qf v
 | global g=>exact .cg _
 | func f=>exact .fn #[] #[] rfl rfl (λi a v hi=>by simp at hi) (λi a v hi=>by simp at hi)
inductive cV where
 | ok (a:η) (σ:List Row)
 | b6 (p:Prop) (r:cV)
 | all (n:Nat) (f:Nat->cV)
 | bad
def cV.holds (K:η->List Row->Prop):cV->Prop
 | .ok a σ=>K a σ
 | .b6 p r=>p/\r.holds K
 | .all n f=>∀i,i<n->(f i).holds K
 | .bad=>False
def Mm:Next->Option Value
 | .value v=>some v
 | .skip=>some undef
 | _=>none
def ju:TypeDesc->Bool
 | .int _|.string|.bool=>true
 | _=>false
def G7 (P:Program) (t:TypeId):Option (List (TypeDesc×Nat))->Prop
 | none=>True
 | some items=>P.eqGuardType P.depth t=false/\items.map (·.2)=List.range items.length/\
  ((∃df,P.underlying t=some (.struct df)/\P.stoodInHeld t=false/\items=df.toList.map (λf=>((P.underlying f.type).getD .invalid,f.offset))/\∀f∈df.toList,f.name≠ "_" /\ ∃d,P.underlying f.type=some d/\ju d=true)\/
   ∃n e d f,P.underlying t=some (.array n e)/\P.underlying e=some d/\ju d=true/\P.info? e=some f/\f.size=1/\items=(List.range n).map λi=>(d,i))
structure iC where
 size:Nat
 bG:TypeDesc
 zero:Value
 bytes:Nat
 eqs:Option (List (TypeDesc×Nat))
def iC.agg (i:iC):Bool:=l9 i.bG
abbrev bb:=TypeId->Option iC
def bN (P:Program) (T:bb):Prop:=∀t i,T t=some i->(P.underlying t=some i.bG/\G7 P t i.eqs)/\∃f,P.info? t=some f/\f.size=i.size/\f.zero=some i.zero/\f.bytes=i.bytes
def jv (S:aL) (B:aW) (H:Α) (σ:List Row) (K:η->List Row->Prop) (v:Value) (H':Α):Prop:=
 ∃aF B' σ' a,K a σ'/\Ext S B H aF B' H'/\Holds aF B' σ' H'/\b3 S aF B B' σ σ'/\av aF B' σ' a v
def cS (P:Program) (s:Sem Value) (S:aL) (B:aW) (H:Α) (σ:List Row) (r:cV):Prop:=
 ∀K:η->List Row->Prop,r.holds K->ς P s H (jv S B H σ K) (λ_ _=>False)
def Does (P:Program) (s:Sem Next) (S:aL) (B:aW) (H:Α) (σ:List Row) (r:cV):Prop:=
 ∀K:η->List Row->Prop,r.holds K->ς P s H (λdZ H'=>∃v,Mm dZ=some v/\jv S B H σ K v H') (λ_ _=>False)
section
variable {P:Program} {T:bb} {S:aL} {B:aW} {H:Α} {σ:List Row} {env:Χ} {t:Array Value}
theorem cS.next {s:Sem Value} {r:cV} (h:cS P s S B H σ r):Does P (do pure (.value (<-s))) S B H σ r:=λK θ=>
 ς.bind' (ς.mono (λv G hb=>ς.pure' ⟨v,rfl,hb⟩) (λ_ _ h=>h) _ (h K θ))
theorem jv.same {K:η->List Row->Prop} {a:η} {v:Value} (Β:Holds S B σ H) (θ:K a σ) (κ:av S B σ a v):jv S B H σ K v H:=⟨S,B,σ,a,θ,.refl _ _ _,Β,.refl _ _ _,κ⟩
theorem cS.pure {a:η} {v:Value} (Β:Holds S B σ H) (κ:av S B σ a v):cS P (pure v) S B H σ (.ok a σ):=λK θ=>
 ς.pure' (.same Β θ κ)
theorem cS.bad {s:Sem Value}:cS P s S B H σ .bad:=λK θ=>θ.elim
theorem cS.b6 {s:Sem Value} {p:Prop} {r:cV} (h:p->cS P s S B H σ r):cS P s S B H σ (.b6 p r):=λK θ=>h θ.1 K θ.2
theorem Does.val {a:η} {v:Value} (Β:Holds S B σ H) (κ:av S B σ a v):Does P (pure (.value v)) S B H σ (.ok a σ):=λK θ=>
 ς.pure' ⟨v,rfl,.same Β θ κ⟩
theorem Does.bad {s:Sem Next}:Does P s S B H σ .bad:=λK θ=>θ.elim
theorem bN.size (Ι:bN P T) {ty:TypeId} {i:iC} (h:T ty=some i) {G:Α} {K:Nat->Α->Prop} {E:Value->Α->Prop} (χ:K i.size G):ς P (sizeOf ty) G K E:=by
 obtain⟨_,f,J,U,_⟩:=Ι ty i h;exact ς.sizeOf J (by rw[U];exact χ)
theorem bN.bG (Ι:bN P T) {ty:TypeId} {i:iC} (h:T ty=some i) {G:Α} {K:TypeDesc->Α->Prop} {E:Value->Α->Prop} (χ:K i.bG G):ς P (underlying ty) G K E:=
 ς.underlying (Ι ty i h).1.1 χ
theorem bN.agg (Ι:bN P T) {ty:TypeId} {i:iC} (h:T ty=some i) {G:Α} {K:Bool->Α->Prop} {E:Value->Α->Prop} (χ:K i.agg G):ς P (isAgg ty) G K E:=
 ς.isAgg (Ι ty i h).1.1 χ
theorem bN.zero (Ι:bN P T) {ty:TypeId} {i:iC} (h:T ty=some i) {G:Α} {K:Value->Α->Prop} {E:Value->Α->Prop} (χ:K i.zero G):ς P (zeroValue ty) G K E:=by
 obtain⟨_,f,J,_,μ,_⟩:=Ι ty i h;exact ς.zeroValue J μ χ
theorem bN.info (Ι:bN P T) {ty:TypeId} {i:iC} (h:T ty=some i) {G:Α} {K:TypeInfo->Α->Prop} {E:Value->Α->Prop} (χ:∀f:TypeInfo,f.bytes=i.bytes->K f G):ς P (typeInfo ty) G K E:=by
 obtain⟨_,f,J,_,_,Ε⟩:=Ι ty i h;exact ς.typeInfo J (χ f Ε)
end
inductive cw where
 | ok (a:η)
 | b6 (p:Prop) (r:cw)
 | bad
def cw.dw (σ:List Row):cw->cV
 | .ok a=>.ok a σ
 | .b6 p r=>.b6 p (r.dw σ)
 | .bad=>.bad
section
variable {P:Program} {T:bb} {S:aL} {B:aW} {H:Α} {σ:List Row} {env:Χ} {t:Array Value}
def ga (k:IntKind) (a b:Int):Int:=k.wrap (BitVec.ofInt k.bits a&&&BitVec.ofInt k.bits b).toNat
def x0 (k:IntKind) (a b:Int):Int:=k.wrap (BitVec.ofInt k.bits a|||BitVec.ofInt k.bits b).toNat
def z7 (k:IntKind) (a b:Int):Int:=k.wrap (BitVec.ofInt k.bits a^^^BitVec.ofInt k.bits b).toNat
def pj (k:IntKind) (a b:Int):Int:=k.wrap (BitVec.ofInt k.bits a&&&~~~BitVec.ofInt k.bits b).toNat
def C7 (a b:ByteArray):Bool:=Op.bytesLess a.toList b.toList
def sU (a b:ByteArray):Bool:=Op.bytesLess a.toList b.toList||a.toList==b.toList
def sV (op:BinOp) (x y:Value):cw:=
 match op,x,y with
 | .shl,.int k a,.int _ b=>.b6 (0<=b) (.ok (.z (.int k (k.wrap (a*2 ^ (min b.toNat k.bits))))))
 | .shr,.int k a,.int _ b=>.b6 (0<=b) (.ok (.z (.int k (a.fdiv (2 ^ (min b.toNat k.bits))))))
 | .add,.int k a,.int af b=>if k=af then .ok (.z (.int k (k.wrap (a+b)))) else .bad
 | .sub,.int k a,.int af b=>if k=af then .ok (.z (.int k (k.wrap (a-b)))) else .bad
 | .mul,.int k a,.int af b=>if k=af then .ok (.z (.int k (k.wrap (a*b)))) else .bad
 | .quo,.int k a,.int af b=>if k=af then .b6 (b≠0) (.ok (.z (.int k (k.wrap (a.tdiv b))))) else .bad
 | .rem,.int k a,.int af b=>if k=af then .b6 (b≠0) (.ok (.z (.int k (a.tmod b)))) else .bad
 | .and,.int k a,.int af b=>if k=af then .ok (.z (.int k (ga k a b))) else .bad
 | .or,.int k a,.int af b=>if k=af then .ok (.z (.int k (x0 k a b))) else .bad
 | .xor,.int k a,.int af b=>if k=af then .ok (.z (.int k (z7 k a b))) else .bad
 | .andNot,.int k a,.int af b=>if k=af then .ok (.z (.int k (pj k a b))) else .bad
 | .eql,.int k a,.int af b=>if k=af then .ok (.z (.bool (a==b))) else .bad
 | .neq,.int k a,.int af b=>if k=af then .ok (.z (.bool (a != b))) else .bad
 | .lss,.int k a,.int af b=>if k=af then .ok (.z (.bool (decide (a<b)))) else .bad
 | .leq,.int k a,.int af b=>if k=af then .ok (.z (.bool (decide (a<=b)))) else .bad
 | .gtr,.int k a,.int af b=>if k=af then .ok (.z (.bool (decide (a > b)))) else .bad
 | .geq,.int k a,.int af b=>if k=af then .ok (.z (.bool (decide (a>=b)))) else .bad
 | .add,.string a,.string b=>.b6 (((a.size+b.size:Nat):Int)<=IntKind.i64.max) (.ok (.z (.string (a++b))))
 | .eql,.string a,.string b=>.ok (.z (.bool (a.toList==b.toList)))
 | .neq,.string a,.string b=>.ok (.z (.bool !(a.toList==b.toList)))
 | .lss,.string a,.string b=>.ok (.z (.bool (C7 a b)))
 | .leq,.string a,.string b=>.ok (.z (.bool (sU a b)))
 | .gtr,.string a,.string b=>.ok (.z (.bool (!(sU a b))))
 | .geq,.string a,.string b=>.ok (.z (.bool (!(C7 a b))))
 | _,_,_=>.bad
theorem T8 (Β:Holds S B σ H) (op:BinOp) (ty:TypeId) (p q:Operand) (x y:Value):cS P (do eqGuard op ty p q x y;binOp op ty x y) S B H σ ((sV op x y).dw σ):=by
 unfold sV;split
 case h_25=>exact .bad
 case h_1=>
  refine .b6 λh=>?_;have c9:¬(_:Int)<0:=Int.not_lt.2 h;simp only[eqGuard,binOp,Op.shift,c9,if_false];exact .pure Β (.z _)
 case h_2=>
  refine .b6 λh=>?_;have c9:¬(_:Int)<0:=Int.not_lt.2 h;simp only[eqGuard,binOp,Op.shift,c9,if_false];exact .pure Β (.z _)
 case h_6=>
  split
  ·rename_i e;subst e;exact .b6 λh=>by simp only[eqGuard,binOp,Op.intDiv,h,if_false,ne_eq,not_true_eq_false];exact .pure Β (.z _)
  ·exact .bad
 case h_7=>
  split
  ·rename_i e;subst e;exact .b6 λh=>by simp only[eqGuard,binOp,Op.intDiv,h,if_false,ne_eq,not_true_eq_false];exact .pure Β (.z _)
  ·exact .bad
 case h_18=>
  refine .b6 λh=>?_;have c9:¬((_:Int) > IntKind.i64.max):=Int.not_lt.2 h;simp only[eqGuard,binOp,Op.stringOp,c9,if_false];exact .pure Β (.z _)
 all_goals first
  | exact .pure Β (.z _)
  |(split
    ·rename_i e;subst e;simp only[eqGuard,binOp,Op.intArith,Op.intBits,Op.intCmp,ne_eq,not_true_eq_false,if_false];exact .pure Β (.z _)
    ·exact .bad)
def x1 (op:UnOp):η->cw
 | .z (.bool b)=>match op with|.not=>.ok (.z (.bool !b))|_=>.bad
 | .z (.int k n)=>match op with|.neg=>.ok (.z (.int k (k.wrap (0-n))))|_=>.bad
 | _=>.bad
theorem T9 (Β:Holds S B σ H) (op:UnOp) {a:η} {v:Value} (κ:av S B σ a v):cS P (Op.unary op v) S B H σ ((x1 op a).dw σ):=by
 unfold x1;split
 ·cases κ;split
  ·exact .pure Β (.z _)
  ·exact .bad
 ·cases κ;split
  ·exact .pure Β (.z _)
  ·exact .bad
 ·exact .bad
def C8 (i:Nat):η->cw
 | .bq l=>match l[i]? with|some a=>.ok a|none=>.bad
 | .z (.tuple vs)=>match vs[i]? with|some v=>.ok (hO v)|none=>.bad
 | _=>.bad
theorem T' (Β:Holds S B σ H) (i:Nat) {a:η} {v:Value} (κ:av S B σ a v):cS P (Instr.extract v i) S B H σ ((C8 i a).dw σ):=by
 unfold C8;split
 ·rename_i l;cases κ with
  | bq vs J U=>
   cases ξ:l[i]? with
   | none=>exact .bad
   | some a=>
    have aO:i<vs.size:=by rw[<-J];exact(bX.1 ξ).1
    have hv:vs[i]?=some vs[i]:=ff aO;simp only[Instr.extract,hv];exact .pure Β (U i a _ ξ hv)
 ·rename_i vs;cases κ;cases hv:vs[i]? with
  | none=>exact .bad
  | some v=>simp only[Instr.extract,hv];exact .pure Β (qf v)
 ·exact .bad
def C9 (T:bb) (ty:TypeId) (a:η):cw:=match T ty with
 | some i=>match i.bG with|.interface _=>.bad|_=>.ok (.fY ty a)
 | none=>.bad
theorem Ua (Ι:bN P T) (Β:Holds S B σ H) (ty:TypeId) {a:η} {v:Value} (κ:av S B σ a v):cS P (Instr.makeInterface ty v) S B H σ ((C9 T ty a).dw σ):=by
 unfold C9;cases hi:T ty with
 | none=>exact .bad
 | some i=>
  intro K θ;unfold Instr.makeInterface;refine ς.bind' (Ι.bG hi ?_);cases hu:i.bG<;>simp only[hu,cw.dw,cV.holds] at θ<;>first|exact θ.elim|exact ς.pure' (.same Β θ (.fY v κ))
def v' (T:bb) (ty:TypeId) (ok:Bool) (a:η):cw:=match T ty with
 | some i=>match i.bG with
  | .interface _=>.bad
  | _=>match a with
   | .fY t x=>if t=ty then .ok (if ok then .bq [x,.z (.bool true)] else x) else if ok then .ok (.bq [hO i.zero,.z (.bool false)]) else .bad
   | .z .nilIface=>if ok then .ok (.bq [hO i.zero,.z (.bool false)]) else .bad
   | _=>.bad
 | none=>.bad
theorem x2 {a b:η} {v w:Value} (h:av S B σ a v) (k:av S B σ b w):av S B σ (.bq [a,b]) (.tuple #[v,w]):=by
 refine .bq _ rfl λi bT fr J U=>?_
 match i with
 | 0=>simp at J U;subst J;subst U;exact h
 | 1=>simp at J U;subst J;subst U;exact k
 | i+2=>simp at J
theorem Ub (Ι:bN P T) (Β:Holds S B σ H) (Uc ty:TypeId) (ok:Bool) {a:η} {v:Value} (κ:av S B σ a v):cS P (Instr.typeAssert v Uc ty ok) S B H σ ((v' T ty ok a).dw σ):=by
 unfold v';cases hi:T ty with
 | none=>exact .bad
 | some i=>
  simp only;by_cases bf:∃w,i.bG=.interface w
  ·obtain⟨w,hw⟩:=bf;rw[hw];exact .bad
  have e:∀r:cw,(match i.bG with|.interface _=>cw.bad|_=>r)=r:=λr=>by
   cases hu:i.bG<;>first|rfl|exact absurd ⟨_,hu⟩ bf
  rw[e];clear e;split
  ·rename_i t x;cases κ with
   | fY w γ=>
    split
    ·rename_i e;subst e;intro K θ;unfold Instr.typeAssert;refine ς.bind' (Ι.bG hi ?_);generalize i.bG=d at bf ⊢;cases d<;>first
      | exact absurd ⟨_,rfl⟩ bf
      |(simp only[if_true]
        cases ok
        ·exact ς.pure' (.same Β θ γ)
        ·exact ς.pure' (.same Β θ (x2 γ (.z _))))
    ·rename_i bA;split
     ·rename_i dQ;subst dQ;intro K θ;unfold Instr.typeAssert;refine ς.bind' (Ι.bG hi ?_);generalize i.bG=d at bf ⊢;cases d<;>first
       | exact absurd ⟨_,rfl⟩ bf
       |(simp only[bA,if_false,if_true]
         exact ς.bind' (Ι.zero hi (ς.pure' (.same Β θ (x2 (qf _) (.z _))))))
     ·exact .bad
  ·cases κ;split
   ·rename_i dQ;subst dQ;intro K θ;unfold Instr.typeAssert;refine ς.bind' (Ι.bG hi ?_);generalize i.bG=d at bf ⊢;cases d<;>first
     | exact absurd ⟨_,rfl⟩ bf
     |(simp only[if_true]
       exact ς.bind' (Ι.zero hi (ς.pure' (.same Β θ (x2 (qf _) (.z _))))))
   ·exact .bad
  ·exact .bad
end
section
variable {P:Program} {T:bb} {S:aL} {B:aW} {H:Α} {σ:List Row}
def rA (i:iC) (l:List η):cw:=
 if i.agg then(if i.size<=l.length then .ok (.a0 (l.take i.size)) else .bad)
 else match l with
  | a::_=>.ok a
  | []=>.bad
def C' (T:bb) (ty:TypeId):η->cw
 | .ao cells=>match T ty with|some i=>rA i cells|none=>.bad
 | _=>.bad
def ow (T:bb) (ty:TypeId) (σ:List Row):η->cV
 | .ah id n i j=>match T ty,σ[id]? with
  | some lr,some (.cells _ _ l)=>if l.length=n then match l[i]? with
   | some e=>(rA lr (e.cells.drop j)).dw σ
   | none=>.bad else .bad
  | _,_=>.bad
 | _=>.bad
theorem Da (Ι:bN P T) (Β:Holds S B σ H) {ty:TypeId} {i:iC} (hi:T ty=some i) {b o:Nat} {l:List η} (w:Nat->Value) (ε:∀(j:Nat) (a:η),l[j]?=some a->∃p,H.aP b (o+j)=some (w j,p)) (ι:∀(j:Nat) (a:η),l[j]?=some a->av S B σ a (w j)) :
  cS P (loadVar ty ⟨b,o,none⟩) S B H σ ((rA i l).dw σ):=by
 intro K θ;unfold rA at θ;unfold loadVar;refine ς.bind' (Ι.agg hi ?_);cases z8:i.agg with
 | true=>
  rw[z8] at θ;simp only[if_true] at θ ⊢;split at θ
  ·rename_i hle;refine ς.bind' (Ι.size hi (ς.bind' (ς.loadCells w rfl (λj δ=>?_) ?_)))
   ·have:l[j]?=some l[j]:=a8 R;exact ε j _ this
   ·refine ς.pure' (.same Β θ (.a0 _ (by simp;omega) λj a v J U=>?_));have δ:j<i.size:=by have:=(bX.1 J).1;simp at this;omega
    rw[List.getElem?_take_of_lt δ] at J;simp[δ] at U;subst U;exact ι j a J
  ·exact θ.elim
 | false=>
  rw[z8] at θ;simp only[Bool.false_eq_true,if_false] at θ ⊢;cases l with
  | nil=>exact θ.elim
  | cons a l=>
   obtain⟨p,π⟩:=ε 0 a rfl;exact⟨rfl,rfl,w 0,p,π,jv.same Β θ (ι 0 a rfl)⟩
theorem Ud (Ι:bN P T) (Β:Holds S B σ H) {ty:TypeId} {a:η} {v:Value} (κ:av S B σ a v):cS P (Instr.loadAt ty v) S B H σ ((C' T ty a).dw σ):=by
 unfold C';split
 ·rename_i cells;cases hi:T ty with
  | none=>exact .bad
  | some i=>
   cases κ with
   | ao b o w J U=>exact Da Ι Β hi w (λj a δ=>Β.dm _ _ _ (J j a δ)) U
 ·exact .bad
theorem Mn (Β:Holds S B σ H) {id k i b N:Nat} {t:TypeId} {l:List η} {e:η} (ξ:σ[id]?=some (.cells t k l)) (hb:B[id]?=some (some (b,N))) (he:l[i]?=some e) :
  e.cells.length=k/\∃w:Nat->Value,∀(j:Nat) (a:η),e.cells[j]?=some a->H.aP b (i*k+j)=some (w j,true)/\av S B σ a (w j)/\One (w j):=by
 obtain⟨_,_,_,w,hw⟩:=Β.row id _ _ ξ hb;exact⟨(hw i e he).1,w i,(hw i e he).2⟩
theorem Ue (Ι:bN P T) (Β:Holds S B σ H) {ty:TypeId} {a:η} {v:Value} (κ:av S B σ a v):cS P (Instr.loadAt ty v) S B H σ (ow T ty σ a):=by
 unfold ow;split
 ·rename_i id n i j;split
  ·rename_i lr t k l hi ξ;split
   ·rename_i Ζ;cases he:l[i]? with
    | none=>exact .bad
    | some e=>
     cases κ with
     | ah J U μ=>
      rw[ξ] at J;cases J;obtain⟨χ,w,hw⟩:=Mn Β ξ μ he;refine Da Ι Β hi (λx=>w (j+x)) (λx a γ=>⟨true,?_⟩) (λx a γ=>?_)
      ·rw[List.getElem?_drop] at γ;rw[Nat.add_assoc];exact(hw _ a γ).1
      ·rw[List.getElem?_drop] at γ;exact(hw _ a γ).2.1
     | j9 v J U=>rw[ξ] at J;cases J;simp only[Row.hx] at U;omega
   ·exact .bad
  ·exact .bad
 ·exact .bad
def gE (T:bb) (ty:TypeId) (f:Nat):Option (Nat×TypeId):=match T ty with
 | some i=>match i.bG with
  | .struct df=>match df[f]? with
   | some x=>match T x.type with
    | some bB=>if bB.size=0 then none else some (x.offset,x.type)
    | none=>none
   | none=>none
  | _=>none
 | none=>none
def Db (T:bb) (ty:TypeId) (f:Nat):η->cw
 | .ao cells=>match gE T ty f with|some (o,_)=>.ok (.ao (cells.drop o))|none=>.bad
 | .z (.pointer (some ⟨b,o',none⟩))=>match gE T ty f with|some (o,_)=>.ok (.z (.pointer (some ⟨b,o'+o,none⟩)))|none=>.bad
 | _=>.bad
def ox (T:bb) (ty:TypeId) (f:Nat) (σ:List Row):η->cV
 | .ah id n i j=>match gE T ty f,σ[id]? with
  | some (o,_),some (.cells _ _ l)=>if l.length=n then .ok (.ah id n i (j+o)) σ else .bad
  | _,_=>.bad
 | _=>.bad
theorem uF (b o n:Nat):(⟨b,o,none⟩:Addr).add n=⟨b,o+n,none⟩:=by
 unfold Addr.add;split
 ·simp_all
 ·rfl
theorem Mo {cells:List η} {b o:Nat} (h:av S B σ (.ao cells) (.pointer (some ⟨b,o,none⟩))) (n:Nat):av S B σ (.ao (cells.drop n)) (.pointer (some ⟨b,o+n,none⟩)):=by
 cases h with
 | ao b o w J U=>
  refine .ao b (o+n) (λj=>w (n+j)) (λj a δ=>?_) (λj a δ=>?_)
  ·rw[List.getElem?_drop] at δ;rw[Nat.add_assoc];exact J _ a δ
  ·rw[List.getElem?_drop] at δ;exact U _ a δ
theorem G8 (Ι:bN P T) {ty:TypeId} {f o:Nat} {z9:TypeId} (Τ:gE T ty f=some (o,z9)) {b o':Nat} {K:Value->Α->Prop} {E:Value->Α->Prop} (h:K (.pointer (some ⟨b,o'+o,none⟩)) H) :
  ς P (Instr.fieldAt ty (.pointer (some ⟨b,o',none⟩)) f) H K E:=by
 unfold gE at Τ;split at Τ<;>try cases Τ
 rename_i i hi;split at Τ<;>try cases Τ
 rename_i df hu;split at Τ<;>try cases Τ
 rename_i x γ;split at Τ<;>try cases Τ
 rename_i bB m0;split at Τ<;>try cases Τ
 rename_i iz;unfold Instr.fieldAt;refine ς.bind' (Ι.bG hi ?_);rw[hu];simp only[γ];refine ς.bind' ?_;unfold fieldPlace;refine ς.bind' (ς.bind' (Ι.size m0 ?_));rw[if_neg iz,uF];exact ς.pure' (ς.pure' h)
theorem Uf (Ι:bN P T) (Β:Holds S B σ H) {ty:TypeId} {f:Nat} {a:η} {v:Value} (κ:av S B σ a v):cS P (Instr.fieldAt ty v f) S B H σ ((Db T ty f a).dw σ):=by
 unfold Db;split
 ·rename_i cells;cases Τ:gE T ty f with
  | none=>exact .bad
  | some x=>
   obtain⟨o,z9⟩:=x;cases κ with
   | ao b o' w J U=>exact λK θ=>G8 Ι Τ (jv.same Β θ (Mo (.ao b o' w J U) o))
 ·rename_i b o';cases Τ:gE T ty f with
  | none=>exact .bad
  | some x=>
   obtain⟨o,z9⟩:=x;cases κ;exact λK θ=>G8 Ι Τ (jv.same Β θ (.z _))
 ·exact .bad
theorem Ug (Ι:bN P T) (Β:Holds S B σ H) {ty:TypeId} {f:Nat} {a:η} {v:Value} (κ:av S B σ a v):cS P (Instr.fieldAt ty v f) S B H σ (ox T ty f σ a):=by
 unfold ox;split
 ·rename_i id n i j;split
  ·rename_i o z9 t k l Τ ξ;split
   ·rename_i Ζ;cases κ with
    | ah J U μ=>
     rw[ξ] at J;cases J;refine λK θ=>G8 Ι Τ (jv.same Β θ ?_);rw[Nat.add_assoc];exact .ah ξ Ζ μ
    | j9 v J U=>rw[ξ] at J;cases J;simp only[Row.hx] at U;omega
   ·exact .bad
  ·exact .bad
 ·exact .bad
theorem rB {ex:Bool} {k:Nat} {l:List η} {v:Value} (h:av S B σ (.sl ex k l) v):∃base cap,v=.slice base l.length cap/\l.length<=cap/\(ex=true->cap=l.length)/\(l≠[]->∃(b o:Nat) (w:Nat->Nat->Value),base=some ⟨b,o,none⟩/\(∀(i:Nat) (e:η),l[i]?=some e->e.cells.length=k)/\
  (∀(i:Nat) (e:η),l[i]?=some e->∀(j:Nat) (c:η),e.cells[j]?=some c->S b (o+i*k+j)=some (w i j))/\(∀(i:Nat) (e:η),l[i]?=some e->∀(j:Nat) (c:η),e.cells[j]?=some c->av S B σ c (w i j))):=by
 cases h with
 | iB base cap h=>exact⟨base,cap,rfl,Nat.zero_le _,h,λx=>absurd rfl x⟩
 | sl b o cap w J U μ Ε au=>exact⟨_,cap,rfl,U,J,λ_=>⟨b,o,w,rfl,μ,Ε,au⟩⟩
theorem Uh {ex:Bool} {k:Nat} {l:List η} {base:Option Addr} {len cap i:Nat} {e:η} (h:av S B σ (.sl ex k l) (.slice base len cap)) (he:l[i]?=some e):∃b o,base=some ⟨b,o,none⟩/\av S B σ (.ao e.cells) (.pointer (some ⟨b,o+i*k,none⟩)):=by
 obtain⟨Ui,G9,hv,_,_,J⟩:=rB h;cases hv;obtain⟨b,o,w,rfl,U,μ,Ε⟩:=J (by rintro rfl;simp at he);exact⟨b,o,rfl,.ao b (o+i*k) (w i) (μ i e he) (Ε i e he)⟩
def iD (T:bb) (ty:TypeId):Option (TypeId×Nat×Option Nat):=match T ty with
 | some i=>match i.bG with
  | .slice e=>match T e with|some bV=>some (e,bV.size,none)|none=>none
  | .array n e=>match T e with|some bV=>some (e,bV.size,some n)|none=>none
  | _=>none
 | none=>none
theorem Dc {ty e:TypeId} {k:Nat} (h:iD T ty=some (e,k,none)):∃i bV,T ty=some i/\i.bG=.slice e/\T e=some bV/\bV.size=k:=by
 unfold iD at h;split at h
 ·rename_i i hi;split at h
  ·rename_i aM hu;split at h
   ·rename_i bV he;cases h;exact⟨i,bV,hi,hu,he,rfl⟩
   ·cases h
  ·split at h<;>cases h
  ·cases h
 ·cases h
theorem Uj {ty e:TypeId} {k n:Nat} (h:iD T ty=some (e,k,some n)):∃i bV,T ty=some i/\i.bG=.array n e/\T e=some bV/\bV.size=k:=by
 unfold iD at h;split at h
 ·rename_i i hi;split at h
  ·split at h<;>cases h
  ·rename_i aM jE hu;split at h
   ·rename_i bV he;cases h;exact⟨i,bV,hi,hu,he,rfl⟩
   ·cases h
  ·cases h
 ·cases h
def Dd (T:bb) (ty:TypeId) (a bB:η):cw:=
 match iD T ty,bB with
 | some (_,qg,none),.z (.int _ n)=>match a with
  | .sl _ k l=>if k=qg then .b6 (0<=n/\n<l.length) (.ok (.ao (l.getD n.toNat .cg).cells)) else .bad
  | _=>.bad
 | some (_,qg,some m),.z (.int _ n)=>match a with
  | .ao cells=>.b6 (0<=n/\n<m) (.ok (.ao (cells.drop (n.toNat*qg))))
  | _=>.bad
 | _,_=>.bad
def oy (T:bb) (ty:TypeId) (σ:List Row) (a bB:η):cV:=
 match iD T ty,bB with
 | some (_,qg,none),.z (.int _ n)=>match a with
  | .ms id m i len=>match σ[id]? with
   | some (.cells _ k l)=>if k=qg/\l.length=m then .b6 (0<=n/\n<len) (.ok (.ah id m (i+n.toNat) 0) σ) else .bad
   | _=>.bad
  | _=>.bad
 | some (_,qg,some len),.z (.int _ n)=>match a with
  | .ah id m i j=>match σ[id]? with
   | some (.cells _ _ l)=>if l.length=m then .b6 (0<=n/\n<len) (.ok (.ah id m i (j+n.toNat*qg)) σ) else .bad
   | _=>.bad
  | _=>.bad
 | _,_=>.bad
theorem Mp (Ι:bN P T) {ty e:TypeId} {k:Nat} (he:iD T ty=some (e,k,none)) {b o len cap:Nat} {kk:IntKind} {n:Int} (Ζ:0<=n/\n<len) {K:Value->Α->Prop} {E:Value->Α->Prop}
  (h:K (.pointer (some ⟨b,o+n.toNat*k,none⟩)) H):ς P (Instr.indexAt ty (.slice (some ⟨b,o,none⟩) len cap) (.int kk n)) H K E:=by
 obtain⟨i,bV,hi,hu,Ha,rfl⟩:=Dc he;unfold Instr.indexAt;refine ς.bind' ?_;refine ς.bind' (Ι.bG hi ?_);rw[hu];refine ς.bind' (ς.pure' ?_);refine ς.bind' (Ι.bG hi ?_);rw[hu];simp only[Ζ,and_self,if_true];refine ς.bind' (Ι.size Ha ?_);rw[uF];exact h
theorem Mq (Ι:bN P T) {ty e:TypeId} {k m:Nat} (he:iD T ty=some (e,k,some m)) {b o:Nat} {kk:IntKind} {n:Int} (Ζ:0<=n/\n<m) {K:Value->Α->Prop} {E:Value->Α->Prop}
  (h:K (.pointer (some ⟨b,o+n.toNat*k,none⟩)) H):ς P (Instr.indexAt ty (.pointer (some ⟨b,o,none⟩)) (.int kk n)) H K E:=by
 obtain⟨i,bV,hi,hu,Ha,rfl⟩:=Uj he;unfold Instr.indexAt;refine ς.bind' ?_;refine ς.bind' (Ι.bG hi ?_);rw[hu];refine ς.bind' (ς.bind' (ς.pure' ?_));refine ς.bind' (Ι.bG hi ?_);rw[hu];simp only[Ζ,and_self,if_true];refine ς.bind' (Ι.size Ha ?_);rw[uF];exact h
theorem Uk (Ι:bN P T) (Β:Holds S B σ H) {ty:TypeId} {a bB:η} {v w:Value} (κ:av S B σ a v) (γ:av S B σ bB w):cS P (Instr.indexAt ty v w) S B H σ ((Dd T ty a bB).dw σ):=by
 unfold Dd;split
 ·rename_i e qg kk n he;cases γ;split
  ·rename_i ex k l;split
   ·rename_i χ;subst χ;refine .b6 λΖ=>?_;obtain⟨base,cap,rfl,_⟩:=rB κ;have aO:n.toNat<l.length:=R;have nL:l[n.toNat]?=some l[n.toNat]:=a8 aO;obtain⟨b,o,rfl,ι⟩:=Uh κ nL;refine λK θ=>Mp Ι he Ζ (jv.same Β θ ?_);rw[List.getD_eq_getElem?_getD,nL];exact ι
   ·exact .bad
  ·exact .bad
 ·rename_i e qg m kk n he;cases γ;split
  ·rename_i cells;refine .b6 λΖ=>?_;cases κ with
   | ao b o w J U=>exact λK θ=>Mq Ι he Ζ (jv.same Β θ (Mo (.ao b o w J U) _))
  ·exact .bad
 ·exact .bad
theorem Ul (Ι:bN P T) (Β:Holds S B σ H) {ty:TypeId} {a bB:η} {v w:Value} (κ:av S B σ a v) (γ:av S B σ bB w):cS P (Instr.indexAt ty v w) S B H σ (oy T ty σ a bB):=by
 unfold oy;split
 ·rename_i e qg kk n he;cases γ;split
  ·rename_i id m i len;split
   ·rename_i t k l ξ;split
    ·rename_i χ;obtain⟨rfl,hm⟩:=χ;refine .b6 λΖ=>?_;cases κ with
     | ms cap J U μ Ε au bd=>
      rw[ξ] at J;cases J;rcases bd with bd|⟨b,N,rfl,rfl,bd⟩
      ·omega
      ·refine λK θ=>Mp Ι he Ζ (jv.same Β θ ?_);have:i*k+n.toNat*k=(i+n.toNat)*k+0:=by rw[Nat.add_mul];rfl
       rw[this];exact .ah ξ hm μ
     | jO v J U=>rw[ξ] at J;cases J;simp only[Row.hx] at U;omega
    ·exact .bad
   ·exact .bad
  ·exact .bad
 ·rename_i e qg len kk n he;cases γ;split
  ·rename_i id m i j;split
   ·rename_i t k l ξ;split
    ·rename_i hm;refine .b6 λΖ=>?_;cases κ with
     | ah J U μ=>
      rw[ξ] at J;cases J;refine λK θ=>Mq Ι he Ζ (jv.same Β θ ?_);rw[Nat.add_assoc];exact .ah ξ hm μ
     | j9 v J U=>rw[ξ] at J;cases J;simp only[Row.hx] at U;omega
    ·exact .bad
   ·exact .bad
  ·exact .bad
 ·exact .bad
end
def η.bc (σ:List Row):η->Bool
 | .z v=>match v with|.agg _|.tuple _=>false|_=>true
 | .a0 _|.bq _|.cg=>false
 | .ah id n _ _|.ms id n _ _=>match σ[id]? with|some (.cells _ _ l)=>decide (l.length<=n)|_=>false
 | .mp id=>match σ[id]? with|some (.map _)=>true|_=>false
 | .it id=>match σ[id]? with|some (.iter ..)=>true|_=>false
 | _=>true
def η.sW:η->Nat->List η->η
 | .a0 l,j,cs=>.a0 (l.take j++cs++l.drop (j+cs.length))
 | _,0,[c]=>c
 | e,_,_=>e
theorem η.Hb {σ:List Row} {a:η} (h:a.bc σ=true):a.cells=[a]:=by
 cases a<;>first|rfl|cases h
theorem η.Mr {σ:List Row} {e:η} {j:Nat} {cs:List η} (hle:j+cs.length<=e.cells.length) (dQ:∀c∈cs,η.bc σ c=true):(e.sW j cs).cells=e.cells.take j++cs++e.cells.drop (j+cs.length):=by
 by_cases he:∃l,e=.a0 l
 ·obtain⟨l,rfl⟩:=he;rfl
 ·have J:e.cells=[e]:=by cases e<;>first|rfl|exact absurd ⟨_,rfl⟩ he
  rw[J] at hle ⊢;cases cs with
  | nil=>
   have:e.sW j []=e:=by cases e<;>cases j<;>first|rfl|exact absurd ⟨_,rfl⟩ he
   rw[this,J]
   match j with
   | 0=>rfl
   | j+1=>simp
  | cons c cs=>
   simp at hle;have δ:j=0:=R;have iZ:cs=[]:=by cases cs<;>simp at hle ⊢;omega
   subst δ;subst iZ;have:e.sW 0 [c]=c:=by cases e<;>first|rfl|exact absurd ⟨_,rfl⟩ he
   rw[this,η.Hb (dQ c ζ)];simp
section
variable {P:Program} {T:bb} {S:aL} {B:aW} {H:Α} {σ:List Row}
theorem av.z' {a:η} {v:Value} (h:av S B σ a v) (ψ:a.bc σ=true):One v:=by
 cases h with
 | z v=>cases v<;>first|trivial|cases ψ
 | j9 v J U=>
  simp only[η.bc,J] at ψ;split at ψ
  ·rename_i e;cases e;simp only[Row.hx] at U;simp at ψ;omega
  ·cases ψ
 | jO v J U=>
  simp only[η.bc,J] at ψ;split at ψ
  ·rename_i e;cases e;simp only[Row.hx] at U;simp at ψ;omega
  ·cases ψ
 | l8 v J=>simp[η.bc,J] at ψ
 | nI v J=>simp[η.bc,J] at ψ
 | a0|bq|cg=>cases ψ
 | _=>trivial
theorem One.cells {v:Value} (h:One v):v.cells=#[v]:=by cases v<;>first|rfl|exact h.elim
theorem av.cells {a:η} {v:Value} (h:av S B σ a v) (κ:a.cells.all (η.bc σ)=true):v.cells.size=a.cells.length/\∀(j:Nat) (c:η),a.cells[j]?=some c->∃x,v.cells[j]?=some x/\av S B σ c x/\One x:=by
 have single:a.cells=[a]->v.cells.size=a.cells.length/\∀(j:Nat) (c:η),a.cells[j]?=some c->∃x,v.cells[j]?=some x/\av S B σ c x/\One x:=λe=>by
  rw[e] at κ ⊢;simp at κ;have ψ:=h.z' κ;rw[ψ.cells];refine⟨rfl,λj c δ=>?_⟩
  match j with
  | 0=>simp at δ;subst δ;exact⟨v,rfl,h,ψ⟩
  | j+1=>simp at δ
 cases h with
 | a0 vs J U=>
  refine⟨J.symm,λj c δ=>?_⟩;have aO:j<vs.size:=by rw[<-J];exact(bX.1 δ).1
  have hv:vs[j]?=some vs[j]:=ff aO
  have ι:=U j c _ δ hv;exact⟨_,hv,ι,ι.z' (List.all_eq_true.1 κ c (cG δ))⟩
 | _=>exact single rfl
theorem De (Β:Holds S B σ H) {id k:Nat} {t:TypeId} {l:List η} (h:σ[id]?=some (.cells t k l)):∀(j:Nat) left cur,σ[j]?≠some (Row.iter id left cur):=λj left cur δ=>by
 obtain⟨bo,hb⟩:=Mk Β δ;obtain⟨_,_,_,_,_,_,_,_,_,⟨es,U⟩,_⟩:=Β.row j _ bo δ hb;rw[h] at U;cases U
theorem Ms {i eR k bJ lo hi:Nat} (δ:bJ<k) (pk:hi<=k) (h:eR≠i):¬(i*k+lo<=eR*k+bJ/\eR*k+bJ<i*k+hi):=by
 rintro⟨J,U⟩;rcases Nat.lt_or_gt_of_ne h with h|h
 ·have:(eR+1)*k<=i*k:=Nat.mul_le_mul_right k h;rw[Nat.add_mul] at this;omega
 ·have:(i+1)*k<=eR*k:=Nat.mul_le_mul_right k h;rw[Nat.add_mul] at this;omega
def x3 (P:Program) (s:Sem Unit) (S:aL) (B:aW) (H:Α) (σ:List Row) (r:cV):Prop:=
 ∀K:η->List Row->Prop,r.holds K->ς P s H (λ_ H'=>jv S B H σ K undef H') (λ_ _=>False)
theorem x3.next {s:Sem Unit} {r:cV} (h:x3 P s S B H σ r):Does P (do s;pure .skip) S B H σ r:=λK θ=>
 ς.bind' (ς.mono (λ_ G hb=>ς.pure' ⟨undef,rfl,hb⟩) (λ_ _ h=>h) _ (h K θ))
theorem x3.bad {s:Sem Unit}:x3 P s S B H σ .bad:=λK θ=>θ.elim
theorem Um (Β:Holds S B σ H) {id k i j b N:Nat} {t:TypeId} {l:List η} {e a:η} {v:Value} (ξ:σ[id]?=some (.cells t k l)) (hb:B[id]?=some (some (b,N))) (he:l[i]?=some e) (κ:av S B σ a v) (dQ:a.cells.all (η.bc σ)=true)
  (δ:j+a.cells.length<=k) :
  (∀x∈v.cells.toList,One x)/\(∀x,x<a.cells.length->H.owns b (i*k+j+x))/\H.row b=some (t,N)/\
  (let σ':=σ.set id (.cells t k (l.set i (e.sW j a.cells)));Holds S (B.set id (some (b,N))) σ' (H.hN b (i*k+j) v.cells.toList)/\Ext S B H S (B.set id (some (b,N))) (H.hN b (i*k+j) v.cells.toList)/\b3 S S B (B.set id (some (b,N))) σ σ'):=by
 obtain⟨cv,iZ⟩:=κ.cells dQ;have hlen:v.cells.toList.length=a.cells.length:=by simpa using cv
 obtain⟨bQ,ck,gn,w,hw⟩:=Β.row id _ _ ξ hb;have jw:i<l.length:=(bX.1 he).1;have Mt:(i+1)*k<=N:=Nat.le_trans (Nat.mul_le_mul_right k jw) ck;have hΙ:i*k+k<=N:=by rw[Nat.add_mul] at Mt;omega
 have Hc:=(hw i e he).1
 have Hd:∀c∈a.cells,η.bc σ c=true:=List.all_eq_true.1 dQ
 have b7:=η.Mr (σ:=σ) (e:=e) (j:=j) (cs:=a.cells) (by rw[Hc];exact δ) Hd;refine⟨λx γ=>?_,λx γ=>?_,bQ,?_⟩
 ·obtain⟨y,Κ⟩:=List.getElem?_of_mem γ;have aO:y<a.cells.length:=by rw[<-hlen];exact(bX.1 Κ).1
  obtain⟨dj,J,_,U⟩:=iZ y _ (a8 aO);rw[Array.getElem?_toList] at Κ;rw[Κ] at J;cases J;exact U
 ·obtain⟨u,hu⟩:=gn (i*k+j+x) R;exact⟨u,hu⟩
 ·refine Β.xZ (r':=.cells t k (l.set i (e.sW j a.cells))) (bo':=some (b,N)) ξ trivial hb (.inl ⟨_,rfl,ζ,rfl⟩) (λΨ e' aM=>.inl ⟨e',aM⟩) (λΨ J _=>?_) Α.G6 (De Β ξ) (λlh=>?_)
  ·have bA:Ψ≠b:=λaM=>by subst aM;exact J N rfl
   exact⟨λo=>by simp[Α.hN,bA],rfl,rfl⟩
  ·refine⟨bQ,by simpa using ck,λo ψ=>?_,λeR bJ=>if eR=i/\j<=bJ/\bJ<j+a.cells.length then(v.cells[bJ-j]?).getD undef else w eR bJ,λeR aM aC=>?_⟩
   ·simp only[Α.hN];split
    ·exact⟨_,rfl⟩
    ·exact gn o ψ
   ·by_cases uG:eR=i
    ·subst uG;rw[List.getElem?_set_self jw] at aC;cases aC;rw[b7];refine⟨by simp;omega,λbJ c ε=>?_⟩;by_cases bf:j<=bJ/\bJ<j+a.cells.length
     ·have a3:a.cells[bJ-j]?=some c:=by
       rw[List.append_assoc,hp (by simp;omega)] at ε;simp only[List.length_take] at ε;rw[dI R] at ε;have:bJ-min j e.cells.length=bJ-j:=R;rw[this] at ε;exact ε
      obtain⟨x,J,U,μ⟩:=iZ _ _ a3;simp only[bf,and_self,if_true,J,Option.getD_some];refine⟨?_,U.later lh,μ⟩;simp only[Α.hN,hlen];rw[if_pos ⟨trivial,R,R⟩];have:eR*k+bJ-(eR*k+j)=bJ-j:=R;rw[this,Array.getElem?_toList,J];rfl
     ·have a3:e.cells[bJ]?=some c:=by
       by_cases hP:bJ<j
       ·rw[List.append_assoc,dI (by simp;omega),List.getElem?_take_of_lt hP] at ε;exact ε
       ·rw[hp (by simp;omega)] at ε;rw[List.getElem?_drop] at ε;have:j+a.cells.length+(bJ-(e.cells.take j++a.cells).length)=bJ:=by simp;omega
        rw[this] at ε;exact ε
      simp only[bf,and_false,if_false];obtain⟨J,U,μ⟩:=(hw eR e he).2 bJ c a3;refine⟨?_,U.later lh,μ⟩;simp only[Α.hN,hlen];rw[if_neg (λx=>bf ⟨R,R⟩)];exact J
    ·rw[List.getElem?_set_ne (Ne.symm uG)] at aC;obtain⟨J,U⟩:=hw eR aM aC;refine⟨J,λbJ c ε=>?_⟩;obtain⟨μ,Ε,au⟩:=U bJ c ε;have pn:bJ<k:=by rw[<-J];exact(bX.1 ε).1
     simp only[uG,false_and,if_false];refine⟨?_,Ε.later lh,au⟩;simp only[Α.hN,hlen];rw[if_neg (λx=>Ms (lo:=j) (hi:=j+a.cells.length) pn δ uG ⟨x.2.1,R⟩)];exact μ
def Df (T:bb) (ty:TypeId) (σ:List Row) (p a:η):cV:=match p with
 | .ah id n i j=>match T ty,σ[id]? with
  | some lr,some (.cells t k l)=>match l[i]? with
   | some e=>if l.length=n/\a.cells.length=lr.size/\j+lr.size<=k/\a.cells.all (η.bc σ)=true then .ok .cg (σ.set id (.cells t k (l.set i (e.sW j a.cells)))) else .bad
   | none=>.bad
  | _,_=>.bad
 | _=>.bad
theorem Un (Ι:bN P T) (Β:Holds S B σ H) {ty:TypeId} {p a:η} {u v:Value} (π:av S B σ p u) (κ:av S B σ a v):x3 P (Instr.storeAt ty u v) S B H σ (Df T ty σ p a):=by
 unfold Df;split
 ·rename_i id n i j;split
  ·rename_i lr t k l hi ξ;split
   ·rename_i e he;split
    ·rename_i ε;obtain⟨Ζ,cv,pn,dQ⟩:=ε;cases π with
     | ah J U μ=>
      rename_i b N;rw[ξ] at J;cases J;intro K θ;obtain⟨c1,c2,c3,c4⟩:=Um Β ξ μ he κ dQ (by omega:j+a.cells.length<=k);obtain⟨He,_⟩:=κ.cells dQ;refine ς.bind' (ς.pure' ?_);unfold storeVar;refine ς.bind' (Ι.size hi ?_);rw[if_neg R];refine ς.storeCells (G:=H) rfl ⟨t,N,c3⟩ v.cells.toList 0 H c1 (λx _ γ=>c2 x (by simp at γ;omega)) rfl ?_;exact⟨S,_,_,.cg,θ,c4.2.1,c4.1,c4.2.2,.cg _⟩
     | j9 v J U=>rw[ξ] at J;cases J;simp only[Row.hx] at U;omega
    ·exact .bad
   ·exact .bad
  ·exact .bad
 ·exact .bad
end
section
variable {P:Program} {T:bb} {S:aL} {B:aW} {H:Α} {σ:List Row}
def gb (S:aL) (B:aW) (σ:List Row) (c:Array Value) (k:Nat) (l:List η):Prop:=
 l.length*k<=c.size/\∀(i:Nat) (e:η),l[i]?=some e->e.cells.length=k/\∀(j:Nat) (a:η),e.cells[j]?=some a->∃x,c[i*k+j]?=some x/\av S B σ a x/\One x
theorem Dg {a:η} (h:a.bc []=true):a.bc σ=true:=by
 cases a<;>first|exact h|(simp[η.bc] at h)
theorem x4 {l:List η} (h:l.all (η.bc [])=true):l.all (η.bc σ)=true:=by
 rw[List.all_eq_true] at *;exact λa κ=>Dg (h a κ)
theorem gb.put {c:Array Value} {k:Nat} {l:List η} (h:gb S B σ c k l) {i j:Nat} {e a:η} {v:Value} (he:l[i]?=some e) (κ:av S B σ a v) (dQ:a.cells.all (η.bc σ)=true) (δ:j+a.cells.length<=k) :
  let c':=v.cells.zipIdx.foldl (λcs (x:Value×Nat)=>cs.setIfInBounds (i*k+j+x.2) x.1) c
  c'.size=c.size/\gb S B σ c' k (l.set i (e.sW j a.cells)):=by
 obtain⟨cv,iZ⟩:=κ.cells dQ;have jw:i<l.length:=(bX.1 he).1;have Hc:=(h.2 i e he).1;have Hd:∀c∈a.cells,η.bc σ c=true:=List.all_eq_true.1 dQ;have b7:=η.Mr (σ:=σ) (e:=e) (j:=j) (cs:=a.cells) (by rw[Hc];exact δ) Hd;have key:∀(vs:List Value) (n:Nat) (c:Array Value),((vs.zipIdx n).foldl (λcs (x:Value×Nat)=>cs.setIfInBounds (i*k+j+x.2) x.1) c).size=c.size/\
   ∀p,((vs.zipIdx n).foldl (λcs (x:Value×Nat)=>cs.setIfInBounds (i*k+j+x.2) x.1) c)[p]?=if i*k+j+n<=p/\p<i*k+j+n+vs.length/\p<c.size then vs[p-(i*k+j+n)]? else c[p]?:=by
  intro vs
  induction vs with
  | nil=>intro n c;refine⟨rfl,λp=>?_⟩;rw[if_neg (by simp;omega)];rfl
  | cons v vs ω=>
   intro n c;obtain⟨J,U⟩:=ω (n+1) (c.setIfInBounds (i*k+j+n) v);simp only[List.zipIdx_cons,List.foldl_cons];refine⟨by rw[J];simp,λp=>?_⟩;rw[U p];simp only[Array.size_setIfInBounds,List.length_cons];by_cases π:p=i*k+j+n
   ·subst π;rw[if_neg R];by_cases aO:i*k+j+n<c.size
    ·rw[if_pos ⟨R,R,aO⟩,Array.getElem?_setIfInBounds_self_of_lt aO];simp
    ·rw[if_neg R,Array.getElem?_eq_none (by simp;omega),Array.getElem?_eq_none R]
   ·by_cases bf:i*k+j+(n+1)<=p/\p<i*k+j+(n+1)+vs.length/\p<c.size
    ·rw[if_pos bf,if_pos ⟨R,R,bf.2.2⟩];have:p-(i*k+j+n)=(p-(i*k+j+(n+1)))+1:=R;rw[this,List.getElem?_cons_succ]
    ·rw[if_neg bf,if_neg R,Array.getElem?_setIfInBounds_ne (Ne.symm π)]
 obtain⟨k1,cp⟩:=key v.cells.toList 0 c;have cF:v.cells.zipIdx.foldl (λcs (x:Value×Nat)=>cs.setIfInBounds (i*k+j+x.2) x.1) c=(v.cells.toList.zipIdx 0).foldl (λcs (x:Value×Nat)=>cs.setIfInBounds (i*k+j+x.2) x.1) c:=by
  rw[<-Array.foldl_toList];simp
 intro c';have a3:c'=(v.cells.toList.zipIdx 0).foldl (λcs (x:Value×Nat)=>cs.setIfInBounds (i*k+j+x.2) x.1) c:=cF;rw[a3];have hlen:v.cells.toList.length=a.cells.length:=by simpa using cv
 have Mt:i*k+k<=c.size:=by
  have J:(i+1)*k<=l.length*k:=Nat.mul_le_mul_right k jw
  have U:=h.1;rw[Nat.add_mul] at J;omega
 refine⟨k1,by rw[k1];simpa using h.1,λeR aM aC=>?_⟩;by_cases uG:eR=i
 ·subst uG;rw[List.getElem?_set_self jw] at aC;cases aC;rw[b7];refine⟨by simp;omega,λbJ c2 ε=>?_⟩;rw[cp,hlen];by_cases bf:j<=bJ/\bJ<j+a.cells.length
  ·have Hf:a.cells[bJ-j]?=some c2:=by
    rw[List.append_assoc,hp (by simp;omega)] at ε;simp only[List.length_take] at ε;rw[dI R] at ε;have:bJ-min j e.cells.length=bJ-j:=R;rw[this] at ε;exact ε
   obtain⟨x,J,U,μ⟩:=iZ _ _ Hf;rw[if_pos ⟨R,R,R⟩];have:eR*k+bJ-(eR*k+j+0)=bJ-j:=R;rw[this,Array.getElem?_toList];exact⟨x,J,U,μ⟩
  ·have Hf:e.cells[bJ]?=some c2:=by
    by_cases hP:bJ<j
    ·rw[List.append_assoc,dI (by simp;omega),List.getElem?_take_of_lt hP] at ε;exact ε
    ·rw[hp (by simp;omega)] at ε;rw[List.getElem?_drop] at ε;have:j+a.cells.length+(bJ-(e.cells.take j++a.cells).length)=bJ:=by simp;omega
     rw[this] at ε;exact ε
   rw[if_neg (λx=>bf ⟨R,R⟩)];exact(h.2 eR e he).2 bJ c2 Hf
 ·rw[List.getElem?_set_ne (Ne.symm uG)] at aC;obtain⟨J,U⟩:=h.2 eR aM aC;refine⟨J,λbJ c2 ε=>?_⟩;have pn:bJ<k:=by rw[<-J];exact(bX.1 ε).1
  rw[cp,hlen,if_neg (λx=>Ms (lo:=j) (hi:=j+a.cells.length) pn δ uG ⟨R,R⟩)];exact U bJ c2 ε
theorem gb.Mu {z:Value} {a:η} (κ:av S B σ a z) (dQ:a.cells.all (η.bc σ)=true) {k n m:Nat} (χ:a.cells.length=k) (hm:n*k<=m) (gp:Array Value) (Φ:gp=z.cells) :
  gb S B σ ((Array.range m).map (gp[· % gp.size]!)) k (List.replicate n a):=by
 obtain⟨cv,iZ⟩:=κ.cells dQ;subst Φ;refine⟨by simpa using hm,λi e hi=>?_⟩;obtain⟨J,U⟩:=bX.1 hi;simp at J U;subst U;refine⟨χ,λj c ε=>?_⟩;obtain⟨x,Γ,Δ,a4⟩:=iZ j c ε;have δ:j<k:=by rw[<-χ];exact(bX.1 ε).1
 have aO:i*k+j<m:=by
  have:(i+1)*k<=n*k:=Nat.mul_le_mul_right k J;rw[Nat.add_mul] at this;omega
 refine⟨x,?_,Δ,a4⟩;rw[Array.getElem?_map,Array.getElem?_range,if_pos aO];simp only[Option.map_some];have:(i*k+j) % z.cells.size=j:=by
  rw[cv,χ,Nat.mul_comm,Nat.mul_add_mod];exact Nat.mod_eq_of_lt δ
 rw[this];have aH:j<z.cells.size:=R;rw[ff aH] at Γ;cases Γ;rw[getElem!_pos z.cells j aH]
theorem gb.later {aF:aL} {B':aW} {σ':List Row} (ξ:b3 S aF B B' σ σ') {c:Array Value} {k:Nat} {l:List η} (h:gb S B σ c k l):gb aF B' σ' c k l:=
 ⟨h.1,λi e hi=>⟨(h.2 i e hi).1,λj a δ=>by obtain⟨x,J,U,μ⟩:=(h.2 i e hi).2 j a δ;exact⟨x,J,U.later ξ,μ⟩⟩⟩
theorem gb.one {a:η} {v:Value} (κ:av S B σ a v) (dQ:a.cells.all (η.bc σ)=true):gb S B σ v.cells a.cells.length [a]:=by
 obtain⟨cv,iZ⟩:=κ.cells dQ;refine⟨by simp[cv],λi e hi=>?_⟩
 match i with
 | 0=>
  simp at hi;subst hi;refine⟨rfl,λj c ε=>?_⟩;rw[Nat.zero_mul,Nat.zero_add];exact iZ j c ε
 | i+1=>simp at hi
theorem Aa (Β:Holds S B σ H) {c:Array Value} {k:Nat} {l:List η} (ε:gb S B σ c k l) (t:TypeId) {K:Nat->Α->Prop} {E:Value->Α->Prop}
  (h:∀r,H.fresh r->Holds S (B++[some (r,c.size)]) (σ++[.cells t k l]) (H.dL r c t)->Ext S B H S (B++[some (r,c.size)]) (H.dL r c t)->b3 S S B (B++[some (r,c.size)]) σ (σ++[.cells t k l])->K r (H.dL r c t)) :
  ς P (newObj (.cells c t)) H K E:=by
 refine⟨rfl,λr ι=>?_⟩;have cH:∀b,(∀N,some (r,c.size)≠some (b,N))->kY H (H.dL r c t) b:=λb hb=>by
  have bA:b≠r:=λe=>by subst e;exact hb _ rfl
  exact⟨λo=>by simp[Α.dL,bA],by simp[Α.dL,bA],rfl⟩
 have bQ:b3 S S B (B++[some (r,c.size)]) σ (σ++[.cells t k l])->j' S (B++[some (r,c.size)]) (σ++[.cells t k l]) (H.dL r c t) (.cells t k l) (some (r,c.size)):=λξ=>by
  have a3:=ε.later ξ;refine⟨by simp[Α.dL],ε.1,λo ψ=>⟨c[o],by simp[Α.dL,ψ]⟩,λi j=>(c[i*k+j]?).getD undef,λi e hi=>⟨(a3.2 i e hi).1,λj a δ=>?_⟩⟩;obtain⟨x,Γ,Δ,a4⟩:=(a3.2 i e hi).2 j a δ;simp only[Γ,Option.getD_some];exact⟨by simp[Α.dL,Γ],Δ,a4⟩
 obtain⟨J,U,μ⟩:=Β.push (λb N e=>by cases e;exact ι) cH bQ;exact h r ι J U μ
theorem Ab (Β:Holds S B σ H) (c:Array Value) (t:TypeId) {K:Nat->Α->Prop} {E:Value->Α->Prop}
  (h:∀r,Holds (S.lay r c) B σ (H.dL r c t)->Ext S B H (S.lay r c) B (H.dL r c t)->b3 S (S.lay r c) B B σ σ->K r (H.dL r c t)) :
  ς P (newObj (.cells c t)) H K E:=by
 refine⟨rfl,λr ι=>?_⟩;obtain⟨J,U,μ⟩:=Β.lay (c:=c) (t:=t) ι;exact h r J U μ
theorem Mv {r:Nat} {c:Array Value} {a:η} {k:Nat} (ξ:b3 S (S.lay r c) B B σ σ) (ε:gb S B σ c k [a]):av (S.lay r c) B σ (.ao a.cells) (.pointer (some ⟨r,0,none⟩)):=by
 have a3:=ε.later ξ;refine .ao r 0 (λj=>(c[j]?).getD undef) (λj x δ=>?_) (λj x δ=>?_)
 ·obtain⟨y,Γ,_⟩:=(a3.2 0 a rfl).2 j x δ;rw[Nat.zero_mul,Nat.zero_add] at Γ;simp[aL.lay,Γ]
 ·obtain⟨y,Γ,Δ,_⟩:=(a3.2 0 a rfl).2 j x δ;rw[Nat.zero_mul,Nat.zero_add] at Γ;simp only[Γ,Option.getD_some];exact Δ
theorem Dh {r:Nat} {c:Array Value} {k cap:Nat} {l:List η} (ex:Bool) (ξ:b3 S (S.lay r c) B B σ σ) (ε:gb S B σ c k l) (x5:l.length<=cap) (hex:ex=true->cap=l.length):av (S.lay r c) B σ (.sl ex k l) (.slice (some ⟨r,0,none⟩) l.length cap):=by
 have a3:=ε.later ξ;refine .sl r 0 cap (λi j=>(c[i*k+j]?).getD undef) hex x5 (λi e hi=>(a3.2 i e hi).1) (λi e hi j x δ=>?_) (λi e hi j x δ=>?_)
 ·obtain⟨y,Γ,_⟩:=(a3.2 i e hi).2 j x δ;simp[aL.lay,Γ]
 ·obtain⟨y,Γ,Δ,_⟩:=(a3.2 i e hi).2 j x δ;simp only[Γ,Option.getD_some];exact Δ
end
end Go.TL
