import Derived.Test.YtlabjopijpkiaaaGreatDAF
set_option maxHeartbeats 16000000
set_option maxRecDepth 20000
set_option linter.unusedSectionVars false
set_option linter.unusedSimpArgs false
set_option linter.unusedVariables false
namespace Go.TL
open Go.Conc
def rS (S:aD) (B:aP) (σ:List Row) (es:List (θ×θ)) (xs:Array MapEntry) (clock:Nat):Prop:=
 es.length=xs.size/\(∀(i:Nat) (e:θ×θ) (y:MapEntry),es[i]?=some e->xs[i]?=some y->au S B σ e.1 y.key/\au S B σ e.2 y.val/\y.born<clock)/\
 ∀(i j:Nat) (y z:MapEntry),xs[i]?=some y->xs[j]?=some z->i<j->y.born<z.born
def B4 (S:aD) (B:aP) (σ:List Row) (left:List (θ×θ)) (cur:Option (θ×θ)) (xs:Array MapEntry) (clock:Nat) (seen:Array Nat):Prop:=
 (∃cw:List MapEntry,cw=xs.toList.filter (λe=>!seen.contains e.born)/\left.length=cw.length/\∀(i:Nat) (e:θ×θ) (y:MapEntry),left[i]?=some e->cw[i]?=some y->au S B σ e.1 y.key/\au S B σ e.2 y.val)/\
 (∀y∈xs,y.born<clock)/\
 ∀e,cur=some e->∃F3 y,seen.back?=some F3/\xs.find? (·.born==F3)=some y/\au S B σ e.1 y.key/\au S B σ e.2 y.val
def jH (S:aD) (B:aP) (σ:List Row) (H:π) (r:Row) (bo:Option (Nat×Nat)):Prop:=
 match r with
 | .cells t k l=>match bo with
  | none=>l=[]
  | some (b,N)=>H.row b=some (t,N)/\l.length*k<=N/\(∀o,o<N->∃w,H.aJ b o=some (w,true))/\
   ∃w:Nat->Nat->Value,∀(i:Nat) (e:θ),l[i]?=some e->e.cells.length=k/\∀(j:Nat) (a:θ),e.cells[j]?=some a->H.aJ b (i*k+j)=some (w i j,true)/\au S B σ a (w i j)/\One (w i j)
 | .map es=>∃b N xs clock,bo=some (b,N)/\H.obj b=some (.map xs clock)/\rS S B σ es xs clock
 | .iter m left cur=>∃b N aU kx xs clock seen,bo=some (b,N)/\B[m]?=some (some (aU,kx))/\(∃es,σ[m]?=some (.map es))/\H.obj b=some (.mapIter (some aU) clock seen clock)/\H.obj aU=some (.map xs clock)/\B4 S B σ left cur xs clock seen
 | .dead=>True
def Row.live (r:Row):Prop:=match r with|.dead=>False|_=>True
structure Holds (S:aD) (B:aP) (σ:List Row) (H:π):Prop where
 dc:∀b o v,S b o=some v->∃p,H.aJ b o=some (v,p)
 len:B.length=σ.length
 row:∀(id:Nat) (r:Row) (bo:Option (Nat×Nat)),σ[id]?=some r->B[id]?=some bo->jH S B σ H r bo
 inj:∀(i j:Nat) (ef b8:Row) (b gh gi:Nat),i≠j->σ[i]?=some ef->σ[j]?=some b8->ef.live->b8.live->B[i]?=some (some (b,gh))->B[j]?=some (some (b,gi))->False
 sep:∀(id:Nat) (r:Row) (b N:Nat),σ[id]?=some r->r.live->B[id]?=some (some (b,N))->∀o,S b o=none
def aP.has (B:aP) (b:Nat):Prop:=∃N,some (b,N)∈B
def m1 (eg:aD) (di H:π) (b:Nat):Prop:=
 (∀o,H.aJ b o=di.aJ b o\/∃v p,eg b o=some v/\di.aJ b o=some (v,p)/\H.aJ b o=some (v,false))/\H.row b=di.row b/\H.obj b=di.obj b
theorem m1.of {eg:aD} {di H:π} {b:Nat} (h:(∀o,H.aJ b o=di.aJ b o)/\H.row b=di.row b/\H.obj b=di.obj b):m1 eg di H b:=⟨λo=>.inl (h.1 o),h.2⟩
structure Ext (eg:aD) (eh:aP) (di:π) (S:aD) (B:aP) (H:π):Prop where
 dc:∀b o v,eg b o=some v->S b o=some v
 fH:∀b,¬eh.has b->¬di.fresh b->m1 eg di H b
 blocks:∀b,B.has b->eh.has b\/di.fresh b
 qQ:∀b o v,S b o=some v->eg b o=some v\/eh.has b\/di.fresh b
 grow:∀b,H.fresh b->di.fresh b
theorem Ext.refl (S:aD) (B:aP) (H:π):Ext S B H S B H:=⟨λ_ _ _ h=>h,λ_ _ _=>m1.of ⟨λ_=>rfl,rfl,rfl⟩,λ_ h=>.inl h,λ_ _ _ h=>.inl h,λ_ h=>h⟩
theorem Ext.trans {eg bz cL:aD} {eh bB eL:aP} {di H1 bH:π} (h:Ext eg eh di bz bB H1) (k:Ext bz bB H1 cL eL bH):Ext eg eh di cL eL bH:=by
 refine⟨λb o v x=>k.dc b o v (h.dc b o v x),λb hb Υ=>?_,λb hb=>?_,λb o v hv=>?_,λb x=>h.grow b (k.grow b x)⟩
 ·have Γ:=h.fH b hb Υ
  have SK:¬H1.fresh b:=λx=>Υ (h.grow b x)
  have kN:¬bB.has b:=λx=>(h.blocks b x).elim hb Υ
  have Θ:=k.fH b kN SK;refine⟨λo=>?_,Θ.2.1.trans Γ.2.1,Θ.2.2.trans Γ.2.2⟩;rcases Θ.1 o with x|⟨v,p,y6,pz,B5⟩<;>rcases Γ.1 o with y|⟨u,q,oD,rT,F4⟩
  ·exact .inl (x.trans y)
  ·exact .inr ⟨u,q,oD,rT,x.trans F4⟩
  ·rcases h.qQ b o v y6 with z|z|z
   ·exact .inr ⟨v,p,z,by rw[<-y];exact pz,B5⟩
   ·exact absurd z hb
   ·exact absurd z Υ
  ·have e:=h.dc b o u oD
   have:v=u:=by rw[y6] at e;exact Option.some.inj e
   subst this;exact .inr ⟨v,q,oD,rT,B5⟩
 ·rcases k.blocks b hb with x|x
  ·exact h.blocks b x
  ·exact .inr (h.grow b x)
 ·rcases k.qQ b o v hv with x|x|x
  ·exact h.qQ b o v x
  ·exact .inr (h.blocks b x)
  ·exact .inr (.inr (h.grow b x))
abbrev ab:=List (Nat×θ)
def bc:ab->Nat->θ
 | [],_=>.cg
 |(j,a)::r,i=>if j=i then a else bc r i
def cX (S:aD) (B:aP) (σ:List Row) (env:ab) (t:Array Value):Prop:=∀i,au S B σ (bc env i) (t.getD i undef)
theorem cX.later {S az:aD} {B B':aP} {σ σ':List Row} {env:ab} {t:Array Value} (h:cX S B σ env t) (υ:bQ S az B B' σ σ'):cX az B' σ' env t:=λi=>(h i).later υ
theorem cX.put {S:aD} {B:aP} {σ:List Row} {env:ab} {t:Array Value} (h:cX S B σ env t) {d:Nat} (hd:d<t.size) {a:θ} {v:Value} (κ:au S B σ a v):cX S B σ ((d,a)::env) (t.setIfInBounds d v):=by
 intro i;simp only[bc];split
 ·rename_i e;subst e;simpa[Array.getD_eq_getD_getElem?,hd] using κ
 ·rename_i e;have:=h i;rw[Array.getD_eq_getD_getElem?] at this ⊢
  rwa [Array.getElem?_setIfInBounds_ne e]
theorem Lv {S:aD} {B:aP} {σ:List Row} {H:π} (χ:Holds S B σ H) {id:Nat} {r:Row} (h:σ[id]?=some r):∃bo,B[id]?=some bo:=by
 have:id<B.length:=by rw[χ.len];exact(bV.1 h).1
 exact⟨_,ba this⟩
def kO:TypeDesc->Bool
 | .struct _|.array _ _=>true
 | _=>false
section
variable {P:Program} {α β:Type} {G:π} {E:Value->π->Prop}
theorem ξ.mono {K K':α->π->Prop} {E':Value->π->Prop} (ζ:∀a G,K a G->K' a G) (df:∀v G,E v G->E' v G) (s:Sem α):∀{G:π},ξ P s G K E->ξ P s G K' E':=by
 induction s with
 | pure a=>intro G h;exact ζ _ _ h
 | load m a k ω=>intro G ⟨I,R,v,p,ν,Ι⟩;exact⟨I,R,v,p,ν,ω v Ι⟩
 | store m a v k ω=>intro G ⟨I,R,ν,Ι,aB,bn⟩;exact⟨I,R,ν,Ι,aB,ω bn⟩
 | new o k ω=>
  intro G h;cases o with
  | cells c t dV=>exact⟨h.1,λr ι=>ω r (h.2 r ι)⟩
  | _=>exact λr ι=>ω r (h r ι)
 | shape r k ω=>intro G ⟨t,n,I,R⟩;exact⟨t,n,I,ω _ R⟩
 | freeze a n k ω=>intro G h;exact h.elim
 | frozen a k ω=>intro G ⟨I,R⟩;exact⟨I,ω _ R⟩
 | getObj r k ω=>intro G ⟨o,I,R,ν⟩;exact⟨o,I,R,ω _ ν⟩
 | setObj r o k ω=>intro G ⟨I,R,ν,Ι⟩;exact⟨I,R,ν,ω Ι⟩
 | choose q k ω=>
  intro G h;simp only[ξ] at h ⊢;split
  ·rw[if_pos ‹_›] at h;exact ω _ h
  ·rw[if_neg ‹_›] at h;exact λn=>ω _ (h n)
 | sys c k ω=>intro G h;exact h.elim
 | program k ω=>intro G h;exact ω P h
 | mark m k ω=>intro G ⟨I,R⟩;exact⟨I,ω R⟩
 | halt x=>
  intro G h;cases x<;>first|exact h.elim|exact df _ _ h
theorem ξ.bind {f:α->Sem β} {K:β->π->Prop} (s:Sem α):∀{G:π},ξ P s G (λa G'=>ξ P (f a) G' K E) E->ξ P (s.bind f) G K E:=by
 induction s with
 | pure a=>intro G h;exact h
 | load m a k ω=>intro G ⟨I,R,v,p,ν,Ι⟩;exact⟨I,R,v,p,ν,ω v Ι⟩
 | store m a v k ω=>intro G ⟨I,R,ν,Ι,aB,bn⟩;exact⟨I,R,ν,Ι,aB,ω bn⟩
 | new o k ω=>
  intro G h;cases o with
  | cells c t dV=>exact⟨h.1,λr ι=>ω r (h.2 r ι)⟩
  | _=>exact λr ι=>ω r (h r ι)
 | shape r k ω=>intro G ⟨t,n,I,R⟩;exact⟨t,n,I,ω _ R⟩
 | freeze a n k ω=>intro G h;exact h.elim
 | frozen a k ω=>intro G ⟨I,R⟩;exact⟨I,ω _ R⟩
 | getObj r k ω=>intro G ⟨o,I,R,ν⟩;exact⟨o,I,R,ω _ ν⟩
 | setObj r o k ω=>intro G ⟨I,R,ν,Ι⟩;exact⟨I,R,ν,ω Ι⟩
 | choose q k ω=>
  intro G h;simp only[ξ] at h;simp only[Sem.bind,ξ];split
  ·rw[if_pos ‹_›] at h;exact ω _ h
  ·rw[if_neg ‹_›] at h;exact λn=>ω _ (h n)
 | sys c k ω=>intro G h;exact h.elim
 | program k ω=>intro G h;exact ω P h
 | mark m k ω=>intro G ⟨I,R⟩;exact⟨I,ω R⟩
 | halt x=>
  intro G h;cases x<;>first|exact h.elim|exact h
theorem ξ.bind' {f:α->Sem β} {K:β->π->Prop} {s:Sem α} (h:ξ P s G (λa G'=>ξ P (f a) G' K E) E):ξ P (s >>= f) G K E:=ξ.bind s h
theorem ξ.pure' {a:α} {K:α->π->Prop} (h:K a G):ξ P (pure a) G K E:=h
theorem ξ.underlying {t:TypeId} {d:TypeDesc} {K:TypeDesc->π->Prop} (hd:P.underlying t=some d) (h:K d G):ξ P (Go.underlying t) G K E:=by
 unfold Go.underlying;refine ξ.bind' ?_;show ξ P (match P.underlying t with|some d=>pure d|none=>_) G K E;rw[hd];exact h
theorem ξ.typeInfo {t:TypeId} {i:TypeInfo} {K:TypeInfo->π->Prop} (hi:P.info? t=some i) (h:K i G):ξ P (Go.typeInfo t) G K E:=by
 unfold Go.typeInfo;refine ξ.bind' ?_;show ξ P (match P.info? t with|some i=>pure i|none=>_) G K E;have:P.info? t=some i:=hi;rw[this];exact h
theorem ξ.sizeOf {t:TypeId} {i:TypeInfo} {K:Nat->π->Prop} (hi:P.info? t=some i) (h:K i.size G):ξ P (Go.sizeOf t) G K E:=by
 unfold Go.sizeOf;exact ξ.bind' (ξ.typeInfo hi (ξ.pure' h))
theorem ξ.isAgg {t:TypeId} {d:TypeDesc} {K:Bool->π->Prop} (hd:P.underlying t=some d) (h:K (kO d) G):ξ P (Go.isAgg t) G K E:=by
 unfold Go.isAgg;refine ξ.bind' (ξ.underlying hd ?_);cases d<;>exact h
theorem ξ.zeroValue {t:TypeId} {i:TypeInfo} {v:Value} {K:Value->π->Prop} (hi:P.info? t=some i) (Μ:i.zero=some v) (h:K v G):ξ P (Go.zeroValue t) G K E:=by
 unfold Go.zeroValue;refine ξ.bind' (ξ.typeInfo hi ?_);rw[Μ];exact h
theorem ξ.SL {a:Addr} (w:Nat->Value) {K:Array Value->π->Prop}:∀(n i:Nat) (acc:Array Value),a.spot=none->(∀j,i<=j->j<i+n->∃p,G.aJ a.block (a.off+j)=some (w j,p))->K (acc++((List.range n).map λj=>w (i+j)).toArray) G->ξ P (loadCellsFrom a i n acc) G K E:=by
 intro n
 induction n with
 | zero=>intro i acc _ _ h;simp at h;exact h
 | succ n ω=>
  intro i acc κ ε h;unfold loadCellsFrom;refine ξ.bind' ?_;obtain⟨p,ς⟩:=ε i (Nat.le_refl _) γ;have Γ:(a.add i).spot=none:=by unfold Addr.add;split<;>simp[κ]
  have Θ:(a.add i).block=a.block:=by unfold Addr.add;split<;>rfl
  have bO:(a.add i).off=a.off+i:=by unfold Addr.add;split<;>simp_all
  refine⟨rfl,Γ,w i,p,by rw[Θ,bO];exact ς,?_⟩;refine ω (i+1) (acc.push (w i)) κ (λj I R=>ε j γ γ) ?_;have:acc.push (w i)++((List.range n).map λj=>w (i+1+j)).toArray=acc++((List.range (n+1)).map λj=>w (i+j)).toArray:=by
   rw[List.range_succ_eq_map];apply Array.ext';simp[Function.comp_def,Nat.add_assoc,Nat.add_comm 1]
  rw[this];exact h
theorem ξ.loadCells {a:Addr} (w:Nat->Value) {n:Nat} {K:Array Value->π->Prop} (κ:a.spot=none) (ε:∀j,j<n->∃p,G.aJ a.block (a.off+j)=some (w j,p)) (h:K ((List.range n).map w).toArray G):ξ P (Go.loadCells a n) G K E:=by
 unfold Go.loadCells;exact ξ.SL w n 0 #[] κ (λj _ δ=>ε j γ) (by simpa using h)
def π.hn (G:π) (b o:Nat) (vs:List Value):π:={G with aJ:=λΨ o'=>if Ψ=b/\o<=o'/\o'<o+vs.length then some ((vs[o'-o]?).getD undef,true) else G.aJ Ψ o'}
theorem π.F5 {H:π} {b o:Nat} {vs:List Value}:∀r,(H.hn b o vs).fresh r->H.fresh r:=
 π.FV (λΨ o' h=>by
  simp only[π.hn] at h;split at h
  ·cases h
  ·exact h) (λ_ h=>h) (λ_ h=>h)
theorem ξ.storeCells {a:Addr} {K:Unit->π->Prop} (κ:a.spot=none) (bN:∃t n,G.row a.block=some (t,n)):∀(vs:List Value) (i:Nat) (G':π),(∀v∈vs,One v)->(∀j,i<=j->j<i+vs.length->G'.owns a.block (a.off+j))->(G'.row=G.row)->K () (G'.hn a.block (a.off+i) vs)->ξ P (Go.storeCells a vs i) G' K E:=by
 intro vs
 induction vs with
 | nil=>
  intro i G' _ _ _ h;have:G'.hn a.block (a.off+i) []=G':=by
   unfold π.hn;have:∀Ψ o',¬(Ψ=a.block/\a.off+i<=o'/\o'<a.off+i+([]:List Value).length):=λΨ o' h=>by simp at h;omega
   simp only[this,if_false]
  rw[this] at h;exact h
 | cons v vs ω=>
  intro i G' B1 fU ι h;unfold Go.storeCells;refine ξ.bind' ?_;have Γ:(a.add i).spot=none:=by unfold Addr.add;split<;>simp[κ]
  have Θ:(a.add i).block=a.block:=by unfold Addr.add;split<;>rfl
  have bO:(a.add i).off=a.off+i:=by unfold Addr.add;split<;>simp_all
  refine⟨rfl,Γ,by rw[Θ,bO];exact fU i (Nat.le_refl _) η,by rw[Θ,ι];exact bN,B1 v η,?_⟩;refine ω (i+1) _ (λv hv=>B1 v (by simp[hv])) (λj I R=>?_) ι ?_
  ·obtain⟨u,hu⟩:=fU j γ (by simp;omega);refine⟨u,?_⟩;simp only[π.uX,Θ,bO];rw[if_neg γ];exact hu
  ·have:(G'.uX (a.add i) v).hn a.block (a.off+(i+1)) vs=G'.hn a.block (a.off+i) (v::vs):=by
    unfold π.hn π.uX;simp only[Θ,bO];congr 1
    funext Ψ o'
    by_cases hb:Ψ=a.block
    ·subst hb;by_cases I:o'=a.off+i
     ·subst I;rw[if_neg γ,if_pos ⟨rfl,rfl⟩,if_pos ⟨rfl,γ,η⟩];simp
     ·by_cases R:a.off+(i+1)<=o'/\o'<a.off+(i+1)+vs.length
      ·rw[if_pos ⟨rfl,R⟩,if_pos ⟨rfl,γ,by simp;omega⟩];have:o'-(a.off+i)=(o'-(a.off+(i+1)))+1:=γ;rw[this,List.getElem?_cons_succ]
      ·rw[if_neg (by intro x;exact R x.2),if_neg (by intro x;exact I x.2),if_neg (by intro x;simp at x;omega)]
    ·rw[if_neg (λx=>hb x.1),if_neg (λx=>hb x.1),if_neg (λx=>hb x.1)]
   rw[this];exact h
end
def ky (H H':π) (b:Nat):Prop:=(∀o,H'.aJ b o=H.aJ b o)/\H'.row b=H.row b/\H'.obj b=H.obj b
theorem m1.pA {eg:aD} {di H:π} {b:Nat} (h:m1 eg di H b) (Ε:∀o,eg b o=none):ky di H b:=
 ⟨λo=>(h.1 o).elim id λ⟨v,p,I,_⟩=>(by rw[Ε o] at I;cases I),h.2⟩
section
variable {S az:aD} {B B':aP} {σ σ':List Row} {H H':π}
theorem rS.later (υ:bQ S az B B' σ σ') {es:List (θ×θ)} {xs:Array MapEntry} {clock:Nat} (h:rS S B σ es xs clock):rS az B' σ' es xs clock:=
 ⟨h.1,λi e y I R=>⟨(h.2.1 i e y I R).1.later υ,(h.2.1 i e y I R).2.1.later υ,(h.2.1 i e y I R).2.2⟩,h.2.2⟩
theorem B4.later (υ:bQ S az B B' σ σ') {left:List (θ×θ)} {cur:Option (θ×θ)} {xs:Array MapEntry} {clock:Nat} {seen:Array Nat} (h:B4 S B σ left cur xs clock seen):B4 az B' σ' left cur xs clock seen:=by
 obtain⟨⟨cw,I,R,ν⟩,Ι,aB⟩:=h;refine⟨⟨cw,I,R,λi e y a b=>⟨(ν i e y a b).1.later υ,(ν i e y a b).2.later υ⟩⟩,Ι,λe he=>?_⟩;obtain⟨st,y,a,b,c,d⟩:=aB e he;exact⟨st,y,a,b,c.later υ,d.later υ⟩
theorem jH.later (υ:bQ S az B B' σ σ') {r:Row} {bo:Option (Nat×Nat)} (h:jH S B σ H r bo) (κ:∀b N,bo=some (b,N)->ky H H' b)
  (dp:∀m left cur,r=.iter m left cur->σ'[m]?=σ[m]?/\B'[m]?=B[m]?/\∀b N,B[m]?=some (some (b,N))->ky H H' b):jH az B' σ' H' r bo:=by
 cases r with
 | cells t k l=>
  cases bo with
  | none=>exact h
  | some x=>
   obtain⟨b,N⟩:=x;obtain⟨a1,a2,_⟩:=κ b N rfl;obtain⟨I,R,ν,w,Ι⟩:=h;refine⟨by rw[a2];exact I,R,λo Α=>by rw[a1];exact ν o Α,w,λi e hi=>⟨(Ι i e hi).1,λj a δ=>?_⟩⟩;obtain⟨c1,c2,c3⟩:=(Ι i e hi).2 j a δ;exact⟨by rw[a1];exact c1,c2.later υ,c3⟩
 | map es=>
  obtain⟨b,N,xs,clock,rfl,I,R⟩:=h;exact⟨b,N,xs,clock,rfl,by rw[(κ b N rfl).2.2];exact I,R.later υ⟩
 | iter m left cur=>
  obtain⟨b,N,aU,kx,xs,clock,seen,rfl,I,R,ν,Ι,aB⟩:=h;obtain⟨i1,i2,i3⟩:=dp m left cur rfl;exact⟨b,N,aU,kx,xs,clock,seen,rfl,by rw[i2];exact I,by rw[i1];exact R,by rw[(κ b N rfl).2.2];exact ν,by rw[(i3 aU kx I).2.2];exact Ι,aB.later υ⟩
 | dead=>trivial
theorem oE {id:Nat} {b N:Nat} (h:B[id]?=some (some (b,N))):B.has b:=⟨N,cx h⟩
theorem Holds.ny (χ:Holds S B σ H) {id b N:Nat} {r:Row} (ι:σ[id]?=some r) (υ:r.live) (hb:B[id]?=some (some (b,N))):¬H.fresh b:=λΥ=>by
 have h:=χ.row id r _ ι hb;cases r with
 | cells t k l=>have:=h.1;rw[Υ.2.1] at this;cases this
 | map es=>
  obtain⟨Ψ,e2,xs,clock,e,I,_⟩:=h;cases e;rw[Υ.2.2.1] at I;cases I
 | iter m left cur=>
  obtain⟨Ψ,e2,aU,kx,xs,clock,seen,e,_,_,I,_⟩:=h;cases e;rw[Υ.2.2.1] at I;cases I
 | dead=>exact υ
theorem SM {id:Nat} {r r':Row} {bo bo':Option (Nat×Nat)} (ι:σ[id]?=some r) (hb:B[id]?=some bo) (F6:r.to r' (some bo) (some bo')):bQ S S B (B.set id bo') σ (σ.set id r'):=by
 have b7:id<σ.length:=(bV.1 ι).1
 have oF:id<B.length:=(bV.1 hb).1;refine⟨λ_ _ _ h=>h,λj b8 δ=>?_⟩;by_cases e:id=j
 ·subst e;rw[ι] at δ;cases δ;refine⟨r',by rw[List.getElem?_set_self b7],?_⟩;rw[hb,List.getElem?_set_self oF];exact F6
 ·exact⟨b8,by rw[List.getElem?_set_ne e];exact δ,by rw[List.getElem?_set_ne e];exact b8.rQ _⟩
theorem Holds.wR (χ:Holds S B σ H) {id:Nat} {r r':Row} {bo bo':Option (Nat×Nat)} (ι:σ[id]?=some r) (e4:r.live) (hb:B[id]?=some bo) (F6:r.to r' (some bo) (some bo'))
  (fU:∀b e2,bo'=some (b,e2)->(∃N,bo=some (b,N))\/H.fresh b) (cT:∀b,(∀N,bo≠some (b,N))->(∀N,bo'≠some (b,N))->ky H H' b) (tc:∀b,H'.fresh b->H.fresh b)
  (dp:∀(j:Nat) left cur,σ[j]?≠some (Row.iter id left cur)) (bN:bQ S S B (B.set id bo') σ (σ.set id r')->jH S (B.set id bo') (σ.set id r') H' r' bo') :
  Holds S (B.set id bo') (σ.set id r') H'/\Ext S B H S (B.set id bo') H'/\bQ S S B (B.set id bo') σ (σ.set id r'):=by
 have υ:=SM (S:=S) ι hb F6
 have b7:id<σ.length:=(bV.1 ι).1
 have oF:id<B.length:=(bV.1 hb).1
 have other:∀(j:Nat) (b8:Row) (b N:Nat),j≠id->σ[j]?=some b8->b8.live->B[j]?=some (some (b,N))->ky H H' b:=λj b8 b N δ y7 eb cz=>by
  refine cT b (λe2 e=>?_) (λe2 e=>?_)
  ·exact χ.inj j id b8 r b N e2 δ y7 ι eb e4 cz (by rw[hb,e])
  ·rcases fU b e2 e with⟨pB,R⟩|R
   ·exact χ.inj j id b8 r b N pB δ y7 ι eb e4 cz (by rw[hb,R])
   ·exact χ.ny y7 eb cz R
 refine⟨⟨λb o v hv=>?_,by simp[χ.len],λj b8 ti δ cz=>?_,λi j ef b8 b gh gi fZ hi δ hD eb gw cz=>?_,λj b8 b N δ eb cz o=>?_⟩,⟨λ_ _ _ h=>h,λb jF Υ=>?_,λb jF=>?_,λb o v hv=>.inl hv,tc⟩,υ⟩
 ·have ao:=χ.dc b o v hv
  have Ε:∀N,bo≠some (b,N):=λN e=>by
   have:=χ.sep id r b N ι e4 (by rw[hb,e]) o;rw[hv] at this;cases this
  have qR:∀N,bo'≠some (b,N):=λN e=>by
   rcases fU b N e with⟨pB,R⟩|R
   ·exact Ε pB R
   ·obtain⟨p,ς⟩:=ao;rw[R.1 o] at ς;cases ς
  rw[(cT b Ε qR).1];exact ao
 ·by_cases e:id=j
  ·subst e;rw[List.getElem?_set_self b7] at δ;rw[List.getElem?_set_self oF] at cz;cases δ;cases cz;exact bN υ
  ·rw[List.getElem?_set_ne e] at δ cz;by_cases eb:b8.live
   ·refine(χ.row j b8 ti δ cz).later υ (λb N jD=>other j b8 b N (Ne.symm e) δ eb (by rw[cz,jD])) λm left cur eM=>?_;subst eM;have hm:id≠m:=λx=>by subst x;exact dp j left cur δ
    refine⟨by rw[List.getElem?_set_ne hm],by rw[List.getElem?_set_ne hm],λb N rU=>?_⟩;obtain⟨_,_,aU,kx,xs,clock,seen,_,I,⟨es,R⟩,_⟩:=χ.row j _ ti δ cz;exact other m _ b N (Ne.symm hm) R trivial rU
   ·cases b8<;>first|exact absurd trivial eb|trivial
 ·have key:∀(i:Nat) (ef:Row) (N:Nat),(σ.set id r')[i]?=some ef->ef.live->(B.set id bo')[i]?=some (some (b,N))->i≠id->(σ[i]?=some ef/\B[i]?=some (some (b,N))):=λi ef N I _ ν bC=>by
   rw[List.getElem?_set_ne (Ne.symm bC)] at I ν;exact⟨I,ν⟩
  have y8:∀(i:Nat) (ef:Row) (N e2:Nat),i≠id->σ[i]?=some ef->ef.live->B[i]?=some (some (b,N))->bo'=some (b,e2)->False:=λi ef N e2 bC I R ν Ι=>by
   rcases fU b e2 Ι with⟨pB,aB⟩|aB
   ·exact χ.inj i id ef r b N pB bC I ι R e4 ν (by rw[hb,aB])
   ·exact χ.ny I R ν aB
  by_cases wG:i=id
  ·subst wG;rw[List.getElem?_set_self oF] at gw;obtain⟨I,R⟩:=key j b8 gi δ eb cz (Ne.symm fZ);exact y8 j b8 gi gh (Ne.symm fZ) I eb R (by simpa using gw)
  ·obtain⟨I,R⟩:=key i ef gh hi hD gw wG;by_cases kP:j=id
   ·subst kP;rw[List.getElem?_set_self oF] at cz;exact y8 i ef gh gi fZ I hD R (by simpa using cz)
   ·obtain⟨ν,Ι⟩:=key j b8 gi δ eb cz kP;exact χ.inj i j ef b8 b gh gi fZ I ν hD eb R Ι
 ·by_cases e:id=j
  ·subst e;rw[List.getElem?_set_self oF] at cz;have SN:bo'=some (b,N):=by simpa using cz
   rcases fU b N SN with⟨pB,R⟩|R
   ·exact χ.sep id r b pB ι e4 (by rw[hb,R]) o
   ·cases hv:S b o with
    | none=>rfl
    | some v=>obtain⟨p,ς⟩:=χ.dc b o v hv;rw[R.1 o] at ς;cases ς
  ·rw[List.getElem?_set_ne e] at δ cz;exact χ.sep j b8 b N δ eb cz o
 ·refine m1.of (cT b (λN e=>jF (oE (id:=id) (N:=N) (by rw[hb,e]))) λN e=>?_);rcases fU b N e with⟨pB,R⟩|R
  ·exact jF (oE (id:=id) (N:=pB) (by rw[hb,R]))
  ·exact Υ R
 ·obtain⟨N,c5⟩:=jF;obtain⟨j,δ⟩:=List.getElem?_of_mem c5;by_cases e:id=j
  ·subst e;rw[List.getElem?_set_self oF] at δ;rcases fU b N (by simpa using δ) with⟨pB,R⟩|R
   ·exact .inl (oE (id:=id) (N:=pB) (by rw[hb,R]))
   ·exact .inr R
  ·rw[List.getElem?_set_ne e] at δ;exact .inl (oE δ)
theorem SO {r:Row} {bo:Option (Nat×Nat)} (hlen:B.length=σ.length):bQ S S B (B++[bo]) σ (σ++[r]):=by
 refine⟨λ_ _ _ h=>h,λj b8 δ=>?_⟩;have aI:=(bV.1 δ).1;exact⟨b8,by rw[dv aI];exact δ,by rw[dv γ];exact b8.rQ _⟩
theorem Holds.push (χ:Holds S B σ H) {r:Row} {bo:Option (Nat×Nat)} (fU:∀b N,bo=some (b,N)->H.fresh b) (cT:∀b,(∀N,bo≠some (b,N))->ky H H' b)
  (bN:bQ S S B (B++[bo]) σ (σ++[r])->jH S (B++[bo]) (σ++[r]) H' r bo) :
  Holds S (B++[bo]) (σ++[r]) H'/\Ext S B H S (B++[bo]) H'/\bQ S S B (B++[bo]) σ (σ++[r]):=by
 have υ:=SO (S:=S) (r:=r) (bo:=bo) χ.len
 have hlen:=χ.len
 have tc:∀b,H'.fresh b->H.fresh b:=by
  have key:∀b,((∀o,H'.aJ b o=none)->∀o,H.aJ b o=none)/\(H'.row b=none->H.row b=none)/\(H'.obj b=none->H.obj b=none):=λb=>by
   by_cases e:∀N,bo≠some (b,N)
   ·obtain⟨a1,a2,ck⟩:=cT b e;exact⟨λh o=>by rw[<-a1 o];exact h o,λh=>by rw[<-a2];exact h,λh=>by rw[<-ck];exact h⟩
   ·obtain⟨N,c5⟩:=Classical.not_forall.1 e;have Υ:=fU b N (Classical.not_not.1 c5);exact⟨λ_=>Υ.1,λ_=>Υ.2.1,λ_=>Υ.2.2.1⟩
  exact λb hb=>⟨(key b).1 hb.1,(key b).2.1 hb.2.1,(key b).2.2 hb.2.2.1,λΨ aI=>⟨(key Ψ).1 (hb.2.2.2 Ψ aI).1,(key Ψ).2.1 (hb.2.2.2 Ψ aI).2.1,(key Ψ).2.2 (hb.2.2.2 Ψ aI).2.2⟩⟩
 have other:∀(j:Nat) (b8:Row) (b N:Nat),σ[j]?=some b8->b8.live->B[j]?=some (some (b,N))->ky H H' b:=λj b8 b N y7 eb cz=>
  cT b λe2 e=>χ.ny y7 eb cz (fU b e2 e)
 have old:∀{α:Type} (l:List α) (x:α) (j:Nat) (y:α),(l++[x])[j]?=some y->(j<l.length/\l[j]?=some y)\/(j=l.length/\x=y):=λl x j y h=>by
  by_cases δ:j<l.length
  ·rw[dv δ] at h;exact .inl ⟨δ,h⟩
  ·rw[h4 γ] at h;have:j-l.length=0:=by
    have:=(bV.1 h).1;simp at this;omega
   rw[this] at h;simp at h;exact .inr ⟨γ,h⟩
 refine⟨⟨λb o v hv=>?_,by simp[hlen],λj b8 ti δ cz=>?_,λi j ef b8 b gh gi fZ hi δ hD eb gw cz=>?_,λj b8 b N δ eb cz o=>?_⟩,⟨λ_ _ _ h=>h,λb jF Υ=>?_,λb jF=>?_,λb o v hv=>.inl hv,tc⟩,υ⟩
 ·obtain⟨p,ς⟩:=χ.dc b o v hv;rw[(cT b λN e=>by have:=(fU b N e).1 o;rw[ς] at this;cases this).1];exact⟨p,ς⟩
 ·rcases old σ r j b8 δ with⟨I,R⟩|⟨I,rfl⟩
  ·rw[dv γ] at cz;by_cases eb:b8.live
   ·refine(χ.row j b8 ti R cz).later υ (λb N jD=>other j b8 b N R eb (by rw[cz,jD])) λm left cur eM=>?_;subst eM;obtain⟨_,_,aU,kx,xs,clock,seen,_,Γ,⟨es,Θ⟩,_⟩:=χ.row j _ ti R cz;have hm:=(bV.1 Θ).1;exact⟨by rw[dv hm],by rw[dv γ],λb N rU=>other m _ b N Θ trivial rU⟩
   ·cases b8<;>first|exact absurd trivial eb|trivial
  ·rw[I,<-hlen] at cz;simp at cz;subst cz;exact bN υ
 ·rcases old σ r i ef hi with⟨I,R⟩|⟨I,rfl⟩<;>rcases old σ r j b8 δ with⟨ν,Ι⟩|⟨ν,rfl⟩
  ·rw[dv γ] at gw cz;exact χ.inj i j ef b8 b gh gi fZ R Ι hD eb gw cz
  ·rw[dv γ] at gw;rw[ν,<-hlen] at cz;simp at cz;exact χ.ny R hD gw (fU b gi cz)
  ·rw[dv γ] at cz;rw[I,<-hlen] at gw;simp at gw;exact χ.ny Ι eb cz (fU b gh gw)
  ·omega
 ·rcases old σ r j b8 δ with⟨I,R⟩|⟨I,rfl⟩
  ·rw[dv γ] at cz;exact χ.sep j b8 b N R eb cz o
  ·rw[I,<-hlen] at cz;simp at cz;cases hv:S b o with
   | none=>rfl
   | some v=>obtain⟨p,ς⟩:=χ.dc b o v hv;rw[(fU b N cz).1 o] at ς;cases ς
 ·exact m1.of (cT b λN e=>Υ (fU b N e))
 ·obtain⟨N,c5⟩:=jF;rcases List.mem_append.1 c5 with h|h
  ·exact .inl ⟨N,h⟩
  ·simp at h;exact .inr (fU b N h.symm)
def aD.lay (S:aD) (r:Nat) (c:Array Value):aD:=λb o=>if b=r then c[o]? else S b o
theorem Holds.lay (χ:Holds S B σ H) {r:Nat} {c:Array Value} {t:TypeId} (Υ:H.fresh r) :
  Holds (S.lay r c) B σ (H.dz r c t)/\Ext S B H (S.lay r c) B (H.dz r c t)/\bQ S (S.lay r c) B B σ σ:=by
 have Ε:∀o,S r o=none:=λo=>by
  cases hv:S r o with
  | none=>rfl
  | some v=>obtain⟨p,ς⟩:=χ.dc r o v hv;rw[Υ.1 o] at ς;cases ς
 have cT:∀b o v,S b o=some v->S.lay r c b o=some v:=λb o v h=>by
  unfold aD.lay;rw[if_neg (λe=>by subst e;rw[Ε] at h;cases h)];exact h
 have υ:bQ S (S.lay r c) B B σ σ:=⟨cT,λ_ b8 h=>⟨b8,h,b8.rQ _⟩⟩
 have a6:∀b,b≠r->ky H (H.dz r c t) b:=λb hb=>⟨λo=>by simp[π.dz,hb],by simp[π.dz,hb],rfl⟩;refine⟨⟨λb o v hv=>?_,χ.len,λj b8 ti δ cz=>?_,χ.inj,λj b8 b N δ eb cz o=>?_⟩,⟨cT,λb _ oG=>m1.of (a6 b λe=>oG (e▸Υ)),λb hb=>.inl hb,λb o v hv=>?_,π.Lo Υ c t⟩,υ⟩
 ·unfold aD.lay at hv;split at hv
  ·rename_i e;subst e;exact⟨true,by simp[π.dz,hv]⟩
  ·rename_i e;rw[(a6 b e).1];exact χ.dc b o v hv
 ·by_cases eb:b8.live
  ·have B6:∀(j:Nat) (b8:Row) (b N:Nat),σ[j]?=some b8->b8.live->B[j]?=some (some (b,N))->b≠r:=λj b8 b N I R ν e=>χ.ny I R ν (e▸Υ);refine(χ.row j b8 ti δ cz).later υ (λb N jD=>a6 b (B6 j b8 b N δ eb (by rw[cz,jD]))) λm left cur eM=>?_;subst eM;obtain⟨_,_,aU,kx,xs,clock,seen,_,Γ,⟨es,Θ⟩,_⟩:=χ.row j _ ti δ cz;exact⟨rfl,rfl,λb N rU=>a6 b (B6 m _ b N Θ trivial rU)⟩
  ·cases b8<;>first|exact absurd trivial eb|trivial
 ·unfold aD.lay;rw[if_neg (λe:b=r=>χ.ny δ eb cz (e▸Υ))];exact χ.sep j b8 b N δ eb cz o
 ·unfold aD.lay at hv;split at hv
  ·rename_i e;subst e;exact .inr (.inr Υ)
  ·exact .inl hv
end
def y9:Value->θ
 | .slice none 0 0=>.sl true 0 []
 | v=>.z v
def ho:Value->θ
 | .agg vs=>.a6 (vs.toList.map y9)
 | v=>y9 v
def aM (env:ab):Operand->θ
 | .tmp n=>bc env n
 | .const v=>ho v
 | .global _=>.cg
 | .func f=>.fn (.func f) [] []
theorem Lw {S:aD} {B:aP} {σ:List Row} (v:Value):au S B σ (y9 v) v:=by
 unfold y9;split
 ·exact .ix none 0 λ_=>rfl
 ·exact .z v
theorem pC {S:aD} {B:aP} {σ:List Row} (v:Value):au S B σ (ho v) v:=by
 unfold ho;split
 ·rename_i vs;refine .a6 vs η λi a w I R=>?_;rw[List.getElem?_map,Array.getElem?_toList,R] at I;cases I;exact Lw w
 ·exact Lw _
theorem lB {S:aD} {B:aP} {σ:List Row} {env:ab} {t:Array Value} (h:cX S B σ env t) (o:Operand):au S B σ (aM env o) (br t o):=by
 cases o with
 | tmp n=>exact h n
 | const v=>exact pC v
 | global g=>exact .cg _
 | func f=>exact .fn #[] #[] rfl rfl (λi a v hi=>by simp at hi) (λi a v hi=>by simp at hi)
inductive cH where
 | ok (a:θ) (σ:List Row)
 | bX (p:Prop) (r:cH)
 | all (n:Nat) (f:Nat->cH)
 | bad
def cH.holds (K:θ->List Row->Prop):cH->Prop
 | .ok a σ=>K a σ
 | .bX p r=>p/\r.holds K
 | .all n f=>∀i,i<n->(f i).holds K
 | .bad=>False
def Lx:Next->Option Value
 | .value v=>some v
 | .skip=>some undef
 | _=>none
def iy:TypeDesc->Bool
 | .int _|.string|.bool=>true
 | _=>false
def F7 (P:Program) (t:TypeId):Option (List (TypeDesc×Nat))->Prop
 | none=>True
 | some items=>P.eqGuardType P.depth t=false/\items.map (·.2)=List.range items.length/\
  ((∃db,P.underlying t=some (.struct db)/\P.stoodInHeld t=false/\items=db.toList.map (λf=>((P.underlying f.type).getD .invalid,f.offset))/\∀f∈db.toList,f.name≠ "_" /\ ∃d,P.underlying f.type=some d/\iy d=true)\/
   ∃n e d f,P.underlying t=some (.array n e)/\P.underlying e=some d/\iy d=true/\P.info? e=some f/\f.size=1/\items=(List.range n).map λi=>(d,i))
structure hR where
 size:Nat
 bE:TypeDesc
 zero:Value
 bytes:Nat
 eqs:Option (List (TypeDesc×Nat))
def hR.agg (i:hR):Bool:=kO i.bE
abbrev a9:=TypeId->Option hR
def bT (P:Program) (T:a9):Prop:=∀t i,T t=some i->(P.underlying t=some i.bE/\F7 P t i.eqs)/\∃f,P.info? t=some f/\f.size=i.size/\f.zero=some i.zero/\f.bytes=i.bytes
def iz (S:aD) (B:aP) (H:π) (σ:List Row) (K:θ->List Row->Prop) (v:Value) (H':π):Prop:=
 ∃az B' σ' a,K a σ'/\Ext S B H az B' H'/\Holds az B' σ' H'/\bQ S az B B' σ σ'/\au az B' σ' a v
def cD (P:Program) (s:Sem Value) (S:aD) (B:aP) (H:π) (σ:List Row) (r:cH):Prop:=
 ∀K:θ->List Row->Prop,r.holds K->ξ P s H (iz S B H σ K) (λ_ _=>False)
def Does (P:Program) (s:Sem Next) (S:aD) (B:aP) (H:π) (σ:List Row) (r:cH):Prop:=
 ∀K:θ->List Row->Prop,r.holds K->ξ P s H (λdS H'=>∃v,Lx dS=some v/\iz S B H σ K v H') (λ_ _=>False)
section
variable {P:Program} {T:a9} {S:aD} {B:aP} {H:π} {σ:List Row} {env:ab} {t:Array Value}
theorem cD.next {s:Sem Value} {r:cH} (h:cD P s S B H σ r):Does P (do pure (.value (<-s))) S B H σ r:=λK ζ=>
 ξ.bind' (ξ.mono (λv G hb=>ξ.pure' ⟨v,rfl,hb⟩) (λ_ _ h=>h) _ (h K ζ))
theorem iz.same {K:θ->List Row->Prop} {a:θ} {v:Value} (χ:Holds S B σ H) (ζ:K a σ) (κ:au S B σ a v):iz S B H σ K v H:=⟨S,B,σ,a,ζ,.refl _ _ _,χ,.refl _ _ _,κ⟩
theorem cD.pure {a:θ} {v:Value} (χ:Holds S B σ H) (κ:au S B σ a v):cD P (pure v) S B H σ (.ok a σ):=λK ζ=>
 ξ.pure' (.same χ ζ κ)
theorem cD.bad {s:Sem Value}:cD P s S B H σ .bad:=λK ζ=>ζ.elim
theorem cD.bX {s:Sem Value} {p:Prop} {r:cH} (h:p->cD P s S B H σ r):cD P s S B H σ (.bX p r):=λK ζ=>h ζ.1 K ζ.2
theorem Does.val {a:θ} {v:Value} (χ:Holds S B σ H) (κ:au S B σ a v):Does P (pure (.value v)) S B H σ (.ok a σ):=λK ζ=>
 ξ.pure' ⟨v,rfl,.same χ ζ κ⟩
theorem Does.bad {s:Sem Next}:Does P s S B H σ .bad:=λK ζ=>ζ.elim
theorem bT.size (Η:bT P T) {ty:TypeId} {i:hR} (h:T ty=some i) {G:π} {K:Nat->π->Prop} {E:Value->π->Prop} (ψ:K i.size G):ξ P (sizeOf ty) G K E:=by
 obtain⟨_,f,I,R,_⟩:=Η ty i h;exact ξ.sizeOf I (by rw[R];exact ψ)
theorem bT.bE (Η:bT P T) {ty:TypeId} {i:hR} (h:T ty=some i) {G:π} {K:TypeDesc->π->Prop} {E:Value->π->Prop} (ψ:K i.bE G):ξ P (underlying ty) G K E:=
 ξ.underlying (Η ty i h).1.1 ψ
theorem bT.agg (Η:bT P T) {ty:TypeId} {i:hR} (h:T ty=some i) {G:π} {K:Bool->π->Prop} {E:Value->π->Prop} (ψ:K i.agg G):ξ P (isAgg ty) G K E:=
 ξ.isAgg (Η ty i h).1.1 ψ
theorem bT.zero (Η:bT P T) {ty:TypeId} {i:hR} (h:T ty=some i) {G:π} {K:Value->π->Prop} {E:Value->π->Prop} (ψ:K i.zero G):ξ P (zeroValue ty) G K E:=by
 obtain⟨_,f,I,_,ν,_⟩:=Η ty i h;exact ξ.zeroValue I ν ψ
theorem bT.info (Η:bT P T) {ty:TypeId} {i:hR} (h:T ty=some i) {G:π} {K:TypeInfo->π->Prop} {E:Value->π->Prop} (ψ:∀f:TypeInfo,f.bytes=i.bytes->K f G):ξ P (typeInfo ty) G K E:=by
 obtain⟨_,f,I,_,_,Ι⟩:=Η ty i h;exact ξ.typeInfo I (ψ f Ι)
end
inductive cu where
 | ok (a:θ)
 | bX (p:Prop) (r:cu)
 | bad
def cu.dq (σ:List Row):cu->cH
 | .ok a=>.ok a σ
 | .bX p r=>.bX p (r.dq σ)
 | .bad=>.bad
section
variable {P:Program} {T:a9} {S:aD} {B:aP} {H:π} {σ:List Row} {env:ab} {t:Array Value}
def iA (k:IntKind) (a b:Int):Int:=k.wrap (BitVec.ofInt k.bits a&&&BitVec.ofInt k.bits b).toNat
def wS (k:IntKind) (a b:Int):Int:=k.wrap (BitVec.ofInt k.bits a|||BitVec.ofInt k.bits b).toNat
def F8 (k:IntKind) (a b:Int):Int:=k.wrap (BitVec.ofInt k.bits a^^^BitVec.ofInt k.bits b).toNat
def F9 (k:IntKind) (a b:Int):Int:=k.wrap (BitVec.ofInt k.bits a&&&~~~BitVec.ofInt k.bits b).toNat
def B7 (a b:ByteArray):Bool:=Op.bytesLess a.toList b.toList
def tj (a b:ByteArray):Bool:=Op.bytesLess a.toList b.toList||a.toList==b.toList
def rV (op:BinOp) (x y:Value):cu:=
 match op,x,y with
 | .shl,.int k a,.int _ b=>.bX (0<=b) (.ok (.z (.int k (k.wrap (a*2 ^ (min b.toNat k.bits))))))
 | .shr,.int k a,.int _ b=>.bX (0<=b) (.ok (.z (.int k (a.fdiv (2 ^ (min b.toNat k.bits))))))
 | .add,.int k a,.int af b=>if k=af then .ok (.z (.int k (k.wrap (a+b)))) else .bad
 | .sub,.int k a,.int af b=>if k=af then .ok (.z (.int k (k.wrap (a-b)))) else .bad
 | .mul,.int k a,.int af b=>if k=af then .ok (.z (.int k (k.wrap (a*b)))) else .bad
 | .quo,.int k a,.int af b=>if k=af then .bX (b≠0) (.ok (.z (.int k (k.wrap (a.tdiv b))))) else .bad
 | .rem,.int k a,.int af b=>if k=af then .bX (b≠0) (.ok (.z (.int k (a.tmod b)))) else .bad
 | .and,.int k a,.int af b=>if k=af then .ok (.z (.int k (iA k a b))) else .bad
 | .or,.int k a,.int af b=>if k=af then .ok (.z (.int k (wS k a b))) else .bad
 | .xor,.int k a,.int af b=>if k=af then .ok (.z (.int k (F8 k a b))) else .bad
 | .andNot,.int k a,.int af b=>if k=af then .ok (.z (.int k (F9 k a b))) else .bad
 | .eql,.int k a,.int af b=>if k=af then .ok (.z (.bool (a==b))) else .bad
 | .neq,.int k a,.int af b=>if k=af then .ok (.z (.bool (a != b))) else .bad
 | .lss,.int k a,.int af b=>if k=af then .ok (.z (.bool (decide (a<b)))) else .bad
 | .leq,.int k a,.int af b=>if k=af then .ok (.z (.bool (decide (a<=b)))) else .bad
 | .gtr,.int k a,.int af b=>if k=af then .ok (.z (.bool (decide (a > b)))) else .bad
 | .geq,.int k a,.int af b=>if k=af then .ok (.z (.bool (decide (a>=b)))) else .bad
 | .add,.string a,.string b=>.bX (((a.size+b.size:Nat):Int)<=IntKind.i64.max) (.ok (.z (.string (a++b))))
 | .eql,.string a,.string b=>.ok (.z (.bool (a.toList==b.toList)))
 | .neq,.string a,.string b=>.ok (.z (.bool !(a.toList==b.toList)))
 | .lss,.string a,.string b=>.ok (.z (.bool (B7 a b)))
 | .leq,.string a,.string b=>.ok (.z (.bool (tj a b)))
 | .gtr,.string a,.string b=>.ok (.z (.bool (!(tj a b))))
 | .geq,.string a,.string b=>.ok (.z (.bool (!(B7 a b))))
 | _,_,_=>.bad
theorem SP (χ:Holds S B σ H) (op:BinOp) (ty:TypeId) (p q:Operand) (x y:Value):cD P (do eqGuard op ty p q x y;binOp op ty x y) S B H σ ((rV op x y).dq σ):=by
 unfold rV;split
 case h_25=>exact .bad
 case h_1=>
  refine .bX λh=>?_;have c9:¬(_:Int)<0:=Int.not_lt.2 h;simp only[eqGuard,binOp,Op.shift,c9,if_false];exact .pure χ (.z _)
 case h_2=>
  refine .bX λh=>?_;have c9:¬(_:Int)<0:=Int.not_lt.2 h;simp only[eqGuard,binOp,Op.shift,c9,if_false];exact .pure χ (.z _)
 case h_6=>
  split
  ·rename_i e;subst e;exact .bX λh=>by simp only[eqGuard,binOp,Op.intDiv,h,if_false,ne_eq,not_true_eq_false];exact .pure χ (.z _)
  ·exact .bad
 case h_7=>
  split
  ·rename_i e;subst e;exact .bX λh=>by simp only[eqGuard,binOp,Op.intDiv,h,if_false,ne_eq,not_true_eq_false];exact .pure χ (.z _)
  ·exact .bad
 case h_18=>
  refine .bX λh=>?_;have c9:¬((_:Int) > IntKind.i64.max):=Int.not_lt.2 h;simp only[eqGuard,binOp,Op.stringOp,c9,if_false];exact .pure χ (.z _)
 all_goals first
  | exact .pure χ (.z _)
  |(split
    ·rename_i e;subst e;simp only[eqGuard,binOp,Op.intArith,Op.intBits,Op.intCmp,ne_eq,not_true_eq_false,if_false];exact .pure χ (.z _)
    ·exact .bad)
def wT (op:UnOp):θ->cu
 | .z (.bool b)=>match op with|.not=>.ok (.z (.bool !b))|_=>.bad
 | .z (.int k n)=>match op with|.neg=>.ok (.z (.int k (k.wrap (0-n))))|_=>.bad
 | _=>.bad
theorem SQ (χ:Holds S B σ H) (op:UnOp) {a:θ} {v:Value} (κ:au S B σ a v):cD P (Op.unary op v) S B H σ ((wT op a).dq σ):=by
 unfold wT;split
 ·cases κ;split
  ·exact .pure χ (.z _)
  ·exact .bad
 ·cases κ;split
  ·exact .pure χ (.z _)
  ·exact .bad
 ·exact .bad
def B8 (i:Nat):θ->cu
 | .a3 l=>match l[i]? with|some a=>.ok a|none=>.bad
 | .z (.tuple vs)=>match vs[i]? with|some v=>.ok (ho v)|none=>.bad
 | _=>.bad
theorem SR (χ:Holds S B σ H) (i:Nat) {a:θ} {v:Value} (κ:au S B σ a v):cD P (Instr.extract v i) S B H σ ((B8 i a).dq σ):=by
 unfold B8;split
 ·rename_i l;cases κ with
  | a3 vs I R=>
   cases υ:l[i]? with
   | none=>exact .bad
   | some a=>
    have aI:i<vs.size:=by rw[<-I];exact(bV.1 υ).1
    have hv:vs[i]?=some vs[i]:=gF aI;simp only[Instr.extract,hv];exact .pure χ (R i a _ υ hv)
 ·rename_i vs;cases κ;cases hv:vs[i]? with
  | none=>exact .bad
  | some v=>simp only[Instr.extract,hv];exact .pure χ (pC v)
 ·exact .bad
def B9 (T:a9) (ty:TypeId) (a:θ):cu:=match T ty with
 | some i=>match i.bE with|.interface _=>.bad|_=>.ok (.fJ ty a)
 | none=>.bad
theorem SS (Η:bT P T) (χ:Holds S B σ H) (ty:TypeId) {a:θ} {v:Value} (κ:au S B σ a v):cD P (Instr.makeInterface ty v) S B H σ ((B9 T ty a).dq σ):=by
 unfold B9;cases hi:T ty with
 | none=>exact .bad
 | some i=>
  intro K ζ;unfold Instr.makeInterface;refine ξ.bind' (Η.bE hi ?_);cases hu:i.bE<;>simp only[hu,cu.dq,cH.holds] at ζ<;>first|exact ζ.elim|exact ξ.pure' (.same χ ζ (.fJ v κ))
def uZ (T:a9) (ty:TypeId) (ok:Bool) (a:θ):cu:=match T ty with
 | some i=>match i.bE with
  | .interface _=>.bad
  | _=>match a with
   | .fJ t x=>if t=ty then .ok (if ok then .a3 [x,.z (.bool true)] else x) else if ok then .ok (.a3 [ho i.zero,.z (.bool false)]) else .bad
   | .z .nilIface=>if ok then .ok (.a3 [ho i.zero,.z (.bool false)]) else .bad
   | _=>.bad
 | none=>.bad
theorem wU {a b:θ} {v w:Value} (h:au S B σ a v) (k:au S B σ b w):au S B σ (.a3 [a,b]) (.tuple #[v,w]):=by
 refine .a3 _ rfl λi bP fc I R=>?_
 match i with
 | 0=>simp at I R;subst I;subst R;exact h
 | 1=>simp at I R;subst I;subst R;exact k
 | i+2=>simp at I
theorem SU (Η:bT P T) (χ:Holds S B σ H) (SV ty:TypeId) (ok:Bool) {a:θ} {v:Value} (κ:au S B σ a v):cD P (Instr.typeAssert v SV ty ok) S B H σ ((uZ T ty ok a).dq σ):=by
 unfold uZ;cases hi:T ty with
 | none=>exact .bad
 | some i=>
  simp only;by_cases a4:∃w,i.bE=.interface w
  ·obtain⟨w,hw⟩:=a4;rw[hw];exact .bad
  have e:∀r:cu,(match i.bE with|.interface _=>cu.bad|_=>r)=r:=λr=>by
   cases hu:i.bE<;>first|rfl|exact absurd ⟨_,hu⟩ a4
  rw[e];clear e;split
  ·rename_i t x;cases κ with
   | fJ w U=>
    split
    ·rename_i e;subst e;intro K ζ;unfold Instr.typeAssert;refine ξ.bind' (Η.bE hi ?_);generalize i.bE=d at a4 ⊢;cases d<;>first
      | exact absurd ⟨_,rfl⟩ a4
      |(simp only[if_true]
        cases ok
        ·exact ξ.pure' (.same χ ζ U)
        ·exact ξ.pure' (.same χ ζ (wU U (.z _))))
    ·rename_i bC;split
     ·rename_i ei;subst ei;intro K ζ;unfold Instr.typeAssert;refine ξ.bind' (Η.bE hi ?_);generalize i.bE=d at a4 ⊢;cases d<;>first
       | exact absurd ⟨_,rfl⟩ a4
       |(simp only[bC,if_false,if_true]
         exact ξ.bind' (Η.zero hi (ξ.pure' (.same χ ζ (wU (pC _) (.z _))))))
     ·exact .bad
  ·cases κ;split
   ·rename_i ei;subst ei;intro K ζ;unfold Instr.typeAssert;refine ξ.bind' (Η.bE hi ?_);generalize i.bE=d at a4 ⊢;cases d<;>first
     | exact absurd ⟨_,rfl⟩ a4
     |(simp only[if_true]
       exact ξ.bind' (Η.zero hi (ξ.pure' (.same χ ζ (wU (pC _) (.z _))))))
   ·exact .bad
  ·exact .bad
end
section
variable {P:Program} {T:a9} {S:aD} {B:aP} {H:π} {σ:List Row}
def qS (i:hR) (l:List θ):cu:=
 if i.agg then(if i.size<=l.length then .ok (.a6 (l.take i.size)) else .bad)
 else match l with
  | a::_=>.ok a
  | []=>.bad
def Ca (T:a9) (ty:TypeId):θ->cu
 | .aa cells=>match T ty with|some i=>qS i cells|none=>.bad
 | _=>.bad
def nz (T:a9) (ty:TypeId) (σ:List Row):θ->cH
 | .an id n i j=>match T ty,σ[id]? with
  | some kM,some (.cells _ _ l)=>if l.length=n then match l[i]? with
   | some e=>(qS kM (e.cells.drop j)).dq σ
   | none=>.bad else .bad
  | _,_=>.bad
 | _=>.bad
theorem Cb (Η:bT P T) (χ:Holds S B σ H) {ty:TypeId} {i:hR} (hi:T ty=some i) {b o:Nat} {l:List θ} (w:Nat->Value) (ε:∀(j:Nat) (a:θ),l[j]?=some a->∃p,H.aJ b (o+j)=some (w j,p)) (ι:∀(j:Nat) (a:θ),l[j]?=some a->au S B σ a (w j)) :
  cD P (loadVar ty ⟨b,o,none⟩) S B H σ ((qS i l).dq σ):=by
 intro K ζ;unfold qS at ζ;unfold loadVar;refine ξ.bind' (Η.agg hi ?_);cases y':i.agg with
 | true=>
  rw[y'] at ζ;simp only[if_true] at ζ ⊢;split at ζ
  ·rename_i hle;refine ξ.bind' (Η.size hi (ξ.bind' (ξ.loadCells w rfl (λj δ=>?_) ?_)))
   ·have:l[j]?=some l[j]:=ba γ;exact ε j _ this
   ·refine ξ.pure' (.same χ ζ (.a6 _ (by simp;omega) λj a v I R=>?_));have δ:j<i.size:=by have:=(bV.1 I).1;simp at this;omega
    rw[List.getElem?_take_of_lt δ] at I;simp[δ] at R;subst R;exact ι j a I
  ·exact ζ.elim
 | false=>
  rw[y'] at ζ;simp only[Bool.false_eq_true,if_false] at ζ ⊢;cases l with
  | nil=>exact ζ.elim
  | cons a l=>
   obtain⟨p,ς⟩:=ε 0 a rfl;exact⟨rfl,rfl,w 0,p,ς,iz.same χ ζ (ι 0 a rfl)⟩
theorem SW (Η:bT P T) (χ:Holds S B σ H) {ty:TypeId} {a:θ} {v:Value} (κ:au S B σ a v):cD P (Instr.loadAt ty v) S B H σ ((Ca T ty a).dq σ):=by
 unfold Ca;split
 ·rename_i cells;cases hi:T ty with
  | none=>exact .bad
  | some i=>
   cases κ with
   | aa b o w I R=>exact Cb Η χ hi w (λj a δ=>χ.dc _ _ _ (I j a δ)) R
 ·exact .bad
theorem Ly (χ:Holds S B σ H) {id k i b N:Nat} {t:TypeId} {l:List θ} {e:θ} (υ:σ[id]?=some (.cells t k l)) (hb:B[id]?=some (some (b,N))) (he:l[i]?=some e) :
  e.cells.length=k/\∃w:Nat->Value,∀(j:Nat) (a:θ),e.cells[j]?=some a->H.aJ b (i*k+j)=some (w j,true)/\au S B σ a (w j)/\One (w j):=by
 obtain⟨_,_,_,w,hw⟩:=χ.row id _ _ υ hb;exact⟨(hw i e he).1,w i,(hw i e he).2⟩
theorem SX (Η:bT P T) (χ:Holds S B σ H) {ty:TypeId} {a:θ} {v:Value} (κ:au S B σ a v):cD P (Instr.loadAt ty v) S B H σ (nz T ty σ a):=by
 unfold nz;split
 ·rename_i id n i j;split
  ·rename_i kM t k l hi υ;split
   ·rename_i Ε;cases he:l[i]? with
    | none=>exact .bad
    | some e=>
     cases κ with
     | an I R ν=>
      rw[υ] at I;cases I;obtain⟨ψ,w,hw⟩:=Ly χ υ ν he;refine Cb Η χ hi (λx=>w (j+x)) (λx a U=>⟨true,?_⟩) (λx a U=>?_)
      ·rw[List.getElem?_drop] at U;rw[Nat.add_assoc];exact(hw _ a U).1
      ·rw[List.getElem?_drop] at U;exact(hw _ a U).2.1
     | jG v I R=>rw[υ] at I;cases I;simp only[Row.g1] at R;omega
   ·exact .bad
  ·exact .bad
 ·exact .bad
def gK (T:a9) (ty:TypeId) (f:Nat):Option (Nat×TypeId):=match T ty with
 | some i=>match i.bE with
  | .struct db=>match db[f]? with
   | some x=>match T x.type with
    | some bY=>if bY.size=0 then none else some (x.offset,x.type)
    | none=>none
   | none=>none
  | _=>none
 | none=>none
def Cc (T:a9) (ty:TypeId) (f:Nat):θ->cu
 | .aa cells=>match gK T ty f with|some (o,_)=>.ok (.aa (cells.drop o))|none=>.bad
 | .z (.pointer (some ⟨b,o',none⟩))=>match gK T ty f with|some (o,_)=>.ok (.z (.pointer (some ⟨b,o'+o,none⟩)))|none=>.bad
 | _=>.bad
def nA (T:a9) (ty:TypeId) (f:Nat) (σ:List Row):θ->cH
 | .an id n i j=>match gK T ty f,σ[id]? with
  | some (o,_),some (.cells _ _ l)=>if l.length=n then .ok (.an id n i (j+o)) σ else .bad
  | _,_=>.bad
 | _=>.bad
theorem tk (b o n:Nat):(⟨b,o,none⟩:Addr).add n=⟨b,o+n,none⟩:=by
 unfold Addr.add;split
 ·simp_all
 ·rfl
theorem Lz {cells:List θ} {b o:Nat} (h:au S B σ (.aa cells) (.pointer (some ⟨b,o,none⟩))) (n:Nat):au S B σ (.aa (cells.drop n)) (.pointer (some ⟨b,o+n,none⟩)):=by
 cases h with
 | aa b o w I R=>
  refine .aa b (o+n) (λj=>w (n+j)) (λj a δ=>?_) (λj a δ=>?_)
  ·rw[List.getElem?_drop] at δ;rw[Nat.add_assoc];exact I _ a δ
  ·rw[List.getElem?_drop] at δ;exact R _ a δ
theorem F' (Η:bT P T) {ty:TypeId} {f o:Nat} {za:TypeId} (Υ:gK T ty f=some (o,za)) {b o':Nat} {K:Value->π->Prop} {E:Value->π->Prop} (h:K (.pointer (some ⟨b,o'+o,none⟩)) H) :
  ξ P (Instr.fieldAt ty (.pointer (some ⟨b,o',none⟩)) f) H K E:=by
 unfold gK at Υ;split at Υ<;>try cases Υ
 rename_i i hi;split at Υ<;>try cases Υ
 rename_i db hu;split at Υ<;>try cases Υ
 rename_i x U;split at Υ<;>try cases Υ
 rename_i bY oH;split at Υ<;>try cases Υ
 rename_i gu;unfold Instr.fieldAt;refine ξ.bind' (Η.bE hi ?_);rw[hu];simp only[U];refine ξ.bind' ?_;unfold fieldPlace;refine ξ.bind' (ξ.bind' (Η.size oH ?_));rw[if_neg gu,tk];exact ξ.pure' (ξ.pure' h)
theorem SY (Η:bT P T) (χ:Holds S B σ H) {ty:TypeId} {f:Nat} {a:θ} {v:Value} (κ:au S B σ a v):cD P (Instr.fieldAt ty v f) S B H σ ((Cc T ty f a).dq σ):=by
 unfold Cc;split
 ·rename_i cells;cases Υ:gK T ty f with
  | none=>exact .bad
  | some x=>
   obtain⟨o,za⟩:=x;cases κ with
   | aa b o' w I R=>exact λK ζ=>F' Η Υ (iz.same χ ζ (Lz (.aa b o' w I R) o))
 ·rename_i b o';cases Υ:gK T ty f with
  | none=>exact .bad
  | some x=>
   obtain⟨o,za⟩:=x;cases κ;exact λK ζ=>F' Η Υ (iz.same χ ζ (.z _))
 ·exact .bad
theorem SZ (Η:bT P T) (χ:Holds S B σ H) {ty:TypeId} {f:Nat} {a:θ} {v:Value} (κ:au S B σ a v):cD P (Instr.fieldAt ty v f) S B H σ (nA T ty f σ a):=by
 unfold nA;split
 ·rename_i id n i j;split
  ·rename_i o za t k l Υ υ;split
   ·rename_i Ε;cases κ with
    | an I R ν=>
     rw[υ] at I;cases I;refine λK ζ=>F' Η Υ (iz.same χ ζ ?_);rw[Nat.add_assoc];exact .an υ Ε ν
    | jG v I R=>rw[υ] at I;cases I;simp only[Row.g1] at R;omega
   ·exact .bad
  ·exact .bad
 ·exact .bad
theorem qT {ex:Bool} {k:Nat} {l:List θ} {v:Value} (h:au S B σ (.sl ex k l) v):∃base cap,v=.slice base l.length cap/\l.length<=cap/\(ex=true->cap=l.length)/\(l≠[]->∃(b o:Nat) (w:Nat->Nat->Value),base=some ⟨b,o,none⟩/\(∀(i:Nat) (e:θ),l[i]?=some e->e.cells.length=k)/\
  (∀(i:Nat) (e:θ),l[i]?=some e->∀(j:Nat) (c:θ),e.cells[j]?=some c->S b (o+i*k+j)=some (w i j))/\(∀(i:Nat) (e:θ),l[i]?=some e->∀(j:Nat) (c:θ),e.cells[j]?=some c->au S B σ c (w i j))):=by
 cases h with
 | ix base cap h=>exact⟨base,cap,rfl,Nat.zero_le _,h,λx=>absurd rfl x⟩
 | sl b o cap w I R ν Ι aB=>exact⟨_,cap,rfl,R,I,λ_=>⟨b,o,w,rfl,ν,Ι,aB⟩⟩
theorem S0 {ex:Bool} {k:Nat} {l:List θ} {base:Option Addr} {len cap i:Nat} {e:θ} (h:au S B σ (.sl ex k l) (.slice base len cap)) (he:l[i]?=some e):∃b o,base=some ⟨b,o,none⟩/\au S B σ (.aa e.cells) (.pointer (some ⟨b,o+i*k,none⟩)):=by
 obtain⟨S1,LA,hv,_,_,I⟩:=qT h;cases hv;obtain⟨b,o,w,rfl,R,ν,Ι⟩:=I (by rintro rfl;simp at he);exact⟨b,o,rfl,.aa b (o+i*k) (w i) (ν i e he) (Ι i e he)⟩
def hS (T:a9) (ty:TypeId):Option (TypeId×Nat×Option Nat):=match T ty with
 | some i=>match i.bE with
  | .slice e=>match T e with|some bU=>some (e,bU.size,none)|none=>none
  | .array n e=>match T e with|some bU=>some (e,bU.size,some n)|none=>none
  | _=>none
 | none=>none
theorem Cd {ty e:TypeId} {k:Nat} (h:hS T ty=some (e,k,none)):∃i bU,T ty=some i/\i.bE=.slice e/\T e=some bU/\bU.size=k:=by
 unfold hS at h;split at h
 ·rename_i i hi;split at h
  ·rename_i aH hu;split at h
   ·rename_i bU he;cases h;exact⟨i,bU,hi,hu,he,rfl⟩
   ·cases h
  ·split at h<;>cases h
  ·cases h
 ·cases h
theorem S2 {ty e:TypeId} {k n:Nat} (h:hS T ty=some (e,k,some n)):∃i bU,T ty=some i/\i.bE=.array n e/\T e=some bU/\bU.size=k:=by
 unfold hS at h;split at h
 ·rename_i i hi;split at h
  ·split at h<;>cases h
  ·rename_i aH iL hu;split at h
   ·rename_i bU he;cases h;exact⟨i,bU,hi,hu,he,rfl⟩
   ·cases h
  ·cases h
 ·cases h
def Ce (T:a9) (ty:TypeId) (a bY:θ):cu:=
 match hS T ty,bY with
 | some (_,pD,none),.z (.int _ n)=>match a with
  | .sl _ k l=>if k=pD then .bX (0<=n/\n<l.length) (.ok (.aa (l.getD n.toNat .cg).cells)) else .bad
  | _=>.bad
 | some (_,pD,some m),.z (.int _ n)=>match a with
  | .aa cells=>.bX (0<=n/\n<m) (.ok (.aa (cells.drop (n.toNat*pD))))
  | _=>.bad
 | _,_=>.bad
def nB (T:a9) (ty:TypeId) (σ:List Row) (a bY:θ):cH:=
 match hS T ty,bY with
 | some (_,pD,none),.z (.int _ n)=>match a with
  | .ms id m i len=>match σ[id]? with
   | some (.cells _ k l)=>if k=pD/\l.length=m then .bX (0<=n/\n<len) (.ok (.an id m (i+n.toNat) 0) σ) else .bad
   | _=>.bad
  | _=>.bad
 | some (_,pD,some len),.z (.int _ n)=>match a with
  | .an id m i j=>match σ[id]? with
   | some (.cells _ _ l)=>if l.length=m then .bX (0<=n/\n<len) (.ok (.an id m i (j+n.toNat*pD)) σ) else .bad
   | _=>.bad
  | _=>.bad
 | _,_=>.bad
theorem LB (Η:bT P T) {ty e:TypeId} {k:Nat} (he:hS T ty=some (e,k,none)) {b o len cap:Nat} {kk:IntKind} {n:Int} (Ε:0<=n/\n<len) {K:Value->π->Prop} {E:Value->π->Prop}
  (h:K (.pointer (some ⟨b,o+n.toNat*k,none⟩)) H):ξ P (Instr.indexAt ty (.slice (some ⟨b,o,none⟩) len cap) (.int kk n)) H K E:=by
 obtain⟨i,bU,hi,hu,Ga,rfl⟩:=Cd he;unfold Instr.indexAt;refine ξ.bind' ?_;refine ξ.bind' (Η.bE hi ?_);rw[hu];refine ξ.bind' (ξ.pure' ?_);refine ξ.bind' (Η.bE hi ?_);rw[hu];simp only[Ε,and_self,if_true];refine ξ.bind' (Η.size Ga ?_);rw[tk];exact h
theorem LC (Η:bT P T) {ty e:TypeId} {k m:Nat} (he:hS T ty=some (e,k,some m)) {b o:Nat} {kk:IntKind} {n:Int} (Ε:0<=n/\n<m) {K:Value->π->Prop} {E:Value->π->Prop}
  (h:K (.pointer (some ⟨b,o+n.toNat*k,none⟩)) H):ξ P (Instr.indexAt ty (.pointer (some ⟨b,o,none⟩)) (.int kk n)) H K E:=by
 obtain⟨i,bU,hi,hu,Ga,rfl⟩:=S2 he;unfold Instr.indexAt;refine ξ.bind' ?_;refine ξ.bind' (Η.bE hi ?_);rw[hu];refine ξ.bind' (ξ.bind' (ξ.pure' ?_));refine ξ.bind' (Η.bE hi ?_);rw[hu];simp only[Ε,and_self,if_true];refine ξ.bind' (Η.size Ga ?_);rw[tk];exact h
theorem S3 (Η:bT P T) (χ:Holds S B σ H) {ty:TypeId} {a bY:θ} {v w:Value} (κ:au S B σ a v) (U:au S B σ bY w):cD P (Instr.indexAt ty v w) S B H σ ((Ce T ty a bY).dq σ):=by
 unfold Ce;split
 ·rename_i e pD kk n he;cases U;split
  ·rename_i ex k l;split
   ·rename_i ψ;subst ψ;refine .bX λΕ=>?_;obtain⟨base,cap,rfl,_⟩:=qT κ;have aI:n.toNat<l.length:=γ;have m2:l[n.toNat]?=some l[n.toNat]:=ba aI;obtain⟨b,o,rfl,ι⟩:=S0 κ m2;refine λK ζ=>LB Η he Ε (iz.same χ ζ ?_);rw[List.getD_eq_getElem?_getD,m2];exact ι
   ·exact .bad
  ·exact .bad
 ·rename_i e pD m kk n he;cases U;split
  ·rename_i cells;refine .bX λΕ=>?_;cases κ with
   | aa b o w I R=>exact λK ζ=>LC Η he Ε (iz.same χ ζ (Lz (.aa b o w I R) _))
  ·exact .bad
 ·exact .bad
theorem S4 (Η:bT P T) (χ:Holds S B σ H) {ty:TypeId} {a bY:θ} {v w:Value} (κ:au S B σ a v) (U:au S B σ bY w):cD P (Instr.indexAt ty v w) S B H σ (nB T ty σ a bY):=by
 unfold nB;split
 ·rename_i e pD kk n he;cases U;split
  ·rename_i id m i len;split
   ·rename_i t k l υ;split
    ·rename_i ψ;obtain⟨rfl,hm⟩:=ψ;refine .bX λΕ=>?_;cases κ with
     | ms cap I R ν Ι aB bn=>
      rw[υ] at I;cases I;rcases bn with bn|⟨b,N,rfl,rfl,bn⟩
      ·omega
      ·refine λK ζ=>LB Η he Ε (iz.same χ ζ ?_);have:i*k+n.toNat*k=(i+n.toNat)*k+0:=by rw[Nat.add_mul];rfl
       rw[this];exact .an υ hm ν
     | iY v I R=>rw[υ] at I;cases I;simp only[Row.g1] at R;omega
    ·exact .bad
   ·exact .bad
  ·exact .bad
 ·rename_i e pD len kk n he;cases U;split
  ·rename_i id m i j;split
   ·rename_i t k l υ;split
    ·rename_i hm;refine .bX λΕ=>?_;cases κ with
     | an I R ν=>
      rw[υ] at I;cases I;refine λK ζ=>LC Η he Ε (iz.same χ ζ ?_);rw[Nat.add_assoc];exact .an υ hm ν
     | jG v I R=>rw[υ] at I;cases I;simp only[Row.g1] at R;omega
    ·exact .bad
   ·exact .bad
  ·exact .bad
 ·exact .bad
end
def θ.bd (σ:List Row):θ->Bool
 | .z v=>match v with|.agg _|.tuple _=>false|_=>true
 | .a6 _|.a3 _|.cg=>false
 | .an id n _ _|.ms id n _ _=>match σ[id]? with|some (.cells _ _ l)=>decide (l.length<=n)|_=>false
 | .mp id=>match σ[id]? with|some (.map _)=>true|_=>false
 | .it id=>match σ[id]? with|some (.iter ..)=>true|_=>false
 | _=>true
def θ.rW:θ->Nat->List θ->θ
 | .a6 l,j,cs=>.a6 (l.take j++cs++l.drop (j+cs.length))
 | _,0,[c]=>c
 | e,_,_=>e
theorem θ.Gb {σ:List Row} {a:θ} (h:a.bd σ=true):a.cells=[a]:=by
 cases a<;>first|rfl|cases h
theorem θ.LD {σ:List Row} {e:θ} {j:Nat} {cs:List θ} (hle:j+cs.length<=e.cells.length) (ei:∀c∈cs,θ.bd σ c=true):(e.rW j cs).cells=e.cells.take j++cs++e.cells.drop (j+cs.length):=by
 by_cases he:∃l,e=.a6 l
 ·obtain⟨l,rfl⟩:=he;rfl
 ·have I:e.cells=[e]:=by cases e<;>first|rfl|exact absurd ⟨_,rfl⟩ he
  rw[I] at hle ⊢;cases cs with
  | nil=>
   have:e.rW j []=e:=by cases e<;>cases j<;>first|rfl|exact absurd ⟨_,rfl⟩ he
   rw[this,I]
   match j with
   | 0=>rfl
   | j+1=>simp
  | cons c cs=>
   simp at hle;have δ:j=0:=γ;have ig:cs=[]:=by cases cs<;>simp at hle ⊢;omega
   subst δ;subst ig;have:e.rW 0 [c]=c:=by cases e<;>first|rfl|exact absurd ⟨_,rfl⟩ he
   rw[this,θ.Gb (ei c η)];simp
section
variable {P:Program} {T:a9} {S:aD} {B:aP} {H:π} {σ:List Row}
theorem au.zb {a:θ} {v:Value} (h:au S B σ a v) (Α:a.bd σ=true):One v:=by
 cases h with
 | z v=>cases v<;>first|trivial|cases Α
 | jG v I R=>
  simp only[θ.bd,I] at Α;split at Α
  ·rename_i e;cases e;simp only[Row.g1] at R;simp at Α;omega
  ·cases Α
 | iY v I R=>
  simp only[θ.bd,I] at Α;split at Α
  ·rename_i e;cases e;simp only[Row.g1] at R;simp at Α;omega
  ·cases Α
 | lA v I=>simp[θ.bd,I] at Α
 | m0 v I=>simp[θ.bd,I] at Α
 | a6|a3|cg=>cases Α
 | _=>trivial
theorem One.cells {v:Value} (h:One v):v.cells=#[v]:=by cases v<;>first|rfl|exact h.elim
theorem au.cells {a:θ} {v:Value} (h:au S B σ a v) (κ:a.cells.all (θ.bd σ)=true):v.cells.size=a.cells.length/\∀(j:Nat) (c:θ),a.cells[j]?=some c->∃x,v.cells[j]?=some x/\au S B σ c x/\One x:=by
 have single:a.cells=[a]->v.cells.size=a.cells.length/\∀(j:Nat) (c:θ),a.cells[j]?=some c->∃x,v.cells[j]?=some x/\au S B σ c x/\One x:=λe=>by
  rw[e] at κ ⊢;simp at κ;have Α:=h.zb κ;rw[Α.cells];refine⟨rfl,λj c δ=>?_⟩
  match j with
  | 0=>simp at δ;subst δ;exact⟨v,rfl,h,Α⟩
  | j+1=>simp at δ
 cases h with
 | a6 vs I R=>
  refine⟨I.symm,λj c δ=>?_⟩;have aI:j<vs.size:=by rw[<-I];exact(bV.1 δ).1
  have hv:vs[j]?=some vs[j]:=gF aI
  have ι:=R j c _ δ hv;exact⟨_,hv,ι,ι.zb (List.all_eq_true.1 κ c (cx δ))⟩
 | _=>exact single rfl
theorem Cf (χ:Holds S B σ H) {id k:Nat} {t:TypeId} {l:List θ} (h:σ[id]?=some (.cells t k l)):∀(j:Nat) left cur,σ[j]?≠some (Row.iter id left cur):=λj left cur δ=>by
 obtain⟨bo,hb⟩:=Lv χ δ;obtain⟨_,_,_,_,_,_,_,_,_,⟨es,R⟩,_⟩:=χ.row j _ bo δ hb;rw[h] at R;cases R
theorem LF {i eN k bI lo hi:Nat} (δ:bI<k) (oI:hi<=k) (h:eN≠i):¬(i*k+lo<=eN*k+bI/\eN*k+bI<i*k+hi):=by
 rintro⟨I,R⟩;rcases Nat.lt_or_gt_of_ne h with h|h
 ·have:(eN+1)*k<=i*k:=Nat.mul_le_mul_right k h;rw[Nat.add_mul] at this;omega
 ·have:(i+1)*k<=eN*k:=Nat.mul_le_mul_right k h;rw[Nat.add_mul] at this;omega
def wV (P:Program) (s:Sem Unit) (S:aD) (B:aP) (H:π) (σ:List Row) (r:cH):Prop:=
 ∀K:θ->List Row->Prop,r.holds K->ξ P s H (λ_ H'=>iz S B H σ K undef H') (λ_ _=>False)
theorem wV.next {s:Sem Unit} {r:cH} (h:wV P s S B H σ r):Does P (do s;pure .skip) S B H σ r:=λK ζ=>
 ξ.bind' (ξ.mono (λ_ G hb=>ξ.pure' ⟨undef,rfl,hb⟩) (λ_ _ h=>h) _ (h K ζ))
theorem wV.bad {s:Sem Unit}:wV P s S B H σ .bad:=λK ζ=>ζ.elim
theorem S5 (χ:Holds S B σ H) {id k i j b N:Nat} {t:TypeId} {l:List θ} {e a:θ} {v:Value} (υ:σ[id]?=some (.cells t k l)) (hb:B[id]?=some (some (b,N))) (he:l[i]?=some e) (κ:au S B σ a v) (ei:a.cells.all (θ.bd σ)=true)
  (δ:j+a.cells.length<=k) :
  (∀x∈v.cells.toList,One x)/\(∀x,x<a.cells.length->H.owns b (i*k+j+x))/\H.row b=some (t,N)/\
  (let σ':=σ.set id (.cells t k (l.set i (e.rW j a.cells)));Holds S (B.set id (some (b,N))) σ' (H.hn b (i*k+j) v.cells.toList)/\Ext S B H S (B.set id (some (b,N))) (H.hn b (i*k+j) v.cells.toList)/\bQ S S B (B.set id (some (b,N))) σ σ'):=by
 obtain⟨cC,ig⟩:=κ.cells ei;have hlen:v.cells.toList.length=a.cells.length:=by simpa using cC
 obtain⟨bN,c5,fU,w,hw⟩:=χ.row id _ _ υ hb;have j2:i<l.length:=(bV.1 he).1;have LG:(i+1)*k<=N:=Nat.le_trans (Nat.mul_le_mul_right k j2) c5;have fα:i*k+k<=N:=by rw[Nat.add_mul] at LG;omega
 have Gc:=(hw i e he).1
 have Gd:∀c∈a.cells,θ.bd σ c=true:=List.all_eq_true.1 ei
 have b2:=θ.LD (σ:=σ) (e:=e) (j:=j) (cs:=a.cells) (by rw[Gc];exact δ) Gd;refine⟨λx U=>?_,λx U=>?_,bN,?_⟩
 ·obtain⟨y,Φ⟩:=List.getElem?_of_mem U;have aI:y<a.cells.length:=by rw[<-hlen];exact(bV.1 Φ).1
  obtain⟨de,I,_,R⟩:=ig y _ (ba aI);rw[Array.getElem?_toList] at Φ;rw[Φ] at I;cases I;exact R
 ·obtain⟨u,hu⟩:=fU (i*k+j+x) γ;exact⟨u,hu⟩
 ·refine χ.wR (r':=.cells t k (l.set i (e.rW j a.cells))) (bo':=some (b,N)) υ trivial hb (.inl ⟨_,rfl,η,rfl⟩) (λΨ e2 aH=>.inl ⟨e2,aH⟩) (λΨ I _=>?_) π.F5 (Cf χ υ) (λkF=>?_)
  ·have bC:Ψ≠b:=λaH=>by subst aH;exact I N rfl
   exact⟨λo=>by simp[π.hn,bC],rfl,rfl⟩
  ·refine⟨bN,by simpa using c5,λo Α=>?_,λeN bI=>if eN=i/\j<=bI/\bI<j+a.cells.length then(v.cells[bI-j]?).getD undef else w eN bI,λeN aH bp=>?_⟩
   ·simp only[π.hn];split
    ·exact⟨_,rfl⟩
    ·exact fU o Α
   ·by_cases tl:eN=i
    ·subst tl;rw[List.getElem?_set_self j2] at bp;cases bp;rw[b2];refine⟨by simp;omega,λbI c ε=>?_⟩;by_cases a4:j<=bI/\bI<j+a.cells.length
     ·have bg:a.cells[bI-j]?=some c:=by
       rw[List.append_assoc,h4 (by simp;omega)] at ε;simp only[List.length_take] at ε;rw[dv γ] at ε;have:bI-min j e.cells.length=bI-j:=γ;rw[this] at ε;exact ε
      obtain⟨x,I,R,ν⟩:=ig _ _ bg;simp only[a4,and_self,if_true,I,Option.getD_some];refine⟨?_,R.later kF,ν⟩;simp only[π.hn,hlen];rw[if_pos ⟨trivial,γ,γ⟩];have:eN*k+bI-(eN*k+j)=bI-j:=γ;rw[this,Array.getElem?_toList,I];rfl
     ·have bg:e.cells[bI]?=some c:=by
       by_cases hp:bI<j
       ·rw[List.append_assoc,dv (by simp;omega),List.getElem?_take_of_lt hp] at ε;exact ε
       ·rw[h4 (by simp;omega)] at ε;rw[List.getElem?_drop] at ε;have:j+a.cells.length+(bI-(e.cells.take j++a.cells).length)=bI:=by simp;omega
        rw[this] at ε;exact ε
      simp only[a4,and_false,if_false];obtain⟨I,R,ν⟩:=(hw eN e he).2 bI c bg;refine⟨?_,R.later kF,ν⟩;simp only[π.hn,hlen];rw[if_neg (λx=>a4 ⟨γ,γ⟩)];exact I
    ·rw[List.getElem?_set_ne (Ne.symm tl)] at bp;obtain⟨I,R⟩:=hw eN aH bp;refine⟨I,λbI c ε=>?_⟩;obtain⟨ν,Ι,aB⟩:=R bI c ε;have oJ:bI<k:=by rw[<-I];exact(bV.1 ε).1
     simp only[tl,false_and,if_false];refine⟨?_,Ι.later kF,aB⟩;simp only[π.hn,hlen];rw[if_neg (λx=>LF (lo:=j) (hi:=j+a.cells.length) oJ δ tl ⟨x.2.1,γ⟩)];exact ν
def Cg (T:a9) (ty:TypeId) (σ:List Row) (p a:θ):cH:=match p with
 | .an id n i j=>match T ty,σ[id]? with
  | some kM,some (.cells t k l)=>match l[i]? with
   | some e=>if l.length=n/\a.cells.length=kM.size/\j+kM.size<=k/\a.cells.all (θ.bd σ)=true then .ok .cg (σ.set id (.cells t k (l.set i (e.rW j a.cells)))) else .bad
   | none=>.bad
  | _,_=>.bad
 | _=>.bad
theorem S6 (Η:bT P T) (χ:Holds S B σ H) {ty:TypeId} {p a:θ} {u v:Value} (ς:au S B σ p u) (κ:au S B σ a v):wV P (Instr.storeAt ty u v) S B H σ (Cg T ty σ p a):=by
 unfold Cg;split
 ·rename_i id n i j;split
  ·rename_i kM t k l hi υ;split
   ·rename_i e he;split
    ·rename_i ε;obtain⟨Ε,cC,oJ,ei⟩:=ε;cases ς with
     | an I R ν=>
      rename_i b N;rw[υ] at I;cases I;intro K ζ;obtain⟨c1,c2,c3,c4⟩:=S5 χ υ ν he κ ei (by omega:j+a.cells.length<=k);obtain⟨Ge,_⟩:=κ.cells ei;refine ξ.bind' (ξ.pure' ?_);unfold storeVar;refine ξ.bind' (Η.size hi ?_);rw[if_neg γ];refine ξ.storeCells (G:=H) rfl ⟨t,N,c3⟩ v.cells.toList 0 H c1 (λx _ U=>c2 x (by simp at U;omega)) rfl ?_;exact⟨S,_,_,.cg,ζ,c4.2.1,c4.1,c4.2.2,.cg _⟩
     | jG v I R=>rw[υ] at I;cases I;simp only[Row.g1] at R;omega
    ·exact .bad
   ·exact .bad
  ·exact .bad
 ·exact .bad
end
section
variable {P:Program} {T:a9} {S:aD} {B:aP} {H:π} {σ:List Row}
def fK (S:aD) (B:aP) (σ:List Row) (c:Array Value) (k:Nat) (l:List θ):Prop:=
 l.length*k<=c.size/\∀(i:Nat) (e:θ),l[i]?=some e->e.cells.length=k/\∀(j:Nat) (a:θ),e.cells[j]?=some a->∃x,c[i*k+j]?=some x/\au S B σ a x/\One x
theorem Ch {a:θ} (h:a.bd []=true):a.bd σ=true:=by
 cases a<;>first|exact h|(simp[θ.bd] at h)
theorem wW {l:List θ} (h:l.all (θ.bd [])=true):l.all (θ.bd σ)=true:=by
 rw[List.all_eq_true] at *;exact λa κ=>Ch (h a κ)
theorem fK.put {c:Array Value} {k:Nat} {l:List θ} (h:fK S B σ c k l) {i j:Nat} {e a:θ} {v:Value} (he:l[i]?=some e) (κ:au S B σ a v) (ei:a.cells.all (θ.bd σ)=true) (δ:j+a.cells.length<=k) :
  let c':=v.cells.zipIdx.foldl (λcs (x:Value×Nat)=>cs.setIfInBounds (i*k+j+x.2) x.1) c
  c'.size=c.size/\fK S B σ c' k (l.set i (e.rW j a.cells)):=by
 obtain⟨cC,ig⟩:=κ.cells ei;have j2:i<l.length:=(bV.1 he).1;have Gc:=(h.2 i e he).1;have Gd:∀c∈a.cells,θ.bd σ c=true:=List.all_eq_true.1 ei;have b2:=θ.LD (σ:=σ) (e:=e) (j:=j) (cs:=a.cells) (by rw[Gc];exact δ) Gd;have key:∀(vs:List Value) (n:Nat) (c:Array Value),((vs.zipIdx n).foldl (λcs (x:Value×Nat)=>cs.setIfInBounds (i*k+j+x.2) x.1) c).size=c.size/\
   ∀p,((vs.zipIdx n).foldl (λcs (x:Value×Nat)=>cs.setIfInBounds (i*k+j+x.2) x.1) c)[p]?=if i*k+j+n<=p/\p<i*k+j+n+vs.length/\p<c.size then vs[p-(i*k+j+n)]? else c[p]?:=by
  intro vs
  induction vs with
  | nil=>intro n c;refine⟨rfl,λp=>?_⟩;rw[if_neg (by simp;omega)];rfl
  | cons v vs ω=>
   intro n c;obtain⟨I,R⟩:=ω (n+1) (c.setIfInBounds (i*k+j+n) v);simp only[List.zipIdx_cons,List.foldl_cons];refine⟨by rw[I];simp,λp=>?_⟩;rw[R p];simp only[Array.size_setIfInBounds,List.length_cons];by_cases ς:p=i*k+j+n
   ·subst ς;rw[if_neg γ];by_cases aI:i*k+j+n<c.size
    ·rw[if_pos ⟨γ,γ,aI⟩,Array.getElem?_setIfInBounds_self_of_lt aI];simp
    ·rw[if_neg γ,Array.getElem?_eq_none (by simp;omega),Array.getElem?_eq_none γ]
   ·by_cases a4:i*k+j+(n+1)<=p/\p<i*k+j+(n+1)+vs.length/\p<c.size
    ·rw[if_pos a4,if_pos ⟨γ,γ,a4.2.2⟩];have:p-(i*k+j+n)=(p-(i*k+j+(n+1)))+1:=γ;rw[this,List.getElem?_cons_succ]
    ·rw[if_neg a4,if_neg γ,Array.getElem?_setIfInBounds_ne (Ne.symm ς)]
 obtain⟨k1,bG⟩:=key v.cells.toList 0 c;have cW:v.cells.zipIdx.foldl (λcs (x:Value×Nat)=>cs.setIfInBounds (i*k+j+x.2) x.1) c=(v.cells.toList.zipIdx 0).foldl (λcs (x:Value×Nat)=>cs.setIfInBounds (i*k+j+x.2) x.1) c:=by
  rw[<-Array.foldl_toList];simp
 intro c';have bg:c'=(v.cells.toList.zipIdx 0).foldl (λcs (x:Value×Nat)=>cs.setIfInBounds (i*k+j+x.2) x.1) c:=cW;rw[bg];have hlen:v.cells.toList.length=a.cells.length:=by simpa using cC
 have LG:i*k+k<=c.size:=by
  have I:(i+1)*k<=l.length*k:=Nat.mul_le_mul_right k j2
  have R:=h.1;rw[Nat.add_mul] at I;omega
 refine⟨k1,by rw[k1];simpa using h.1,λeN aH bp=>?_⟩;by_cases tl:eN=i
 ·subst tl;rw[List.getElem?_set_self j2] at bp;cases bp;rw[b2];refine⟨by simp;omega,λbI c2 ε=>?_⟩;rw[bG,hlen];by_cases a4:j<=bI/\bI<j+a.cells.length
  ·have Gf:a.cells[bI-j]?=some c2:=by
    rw[List.append_assoc,h4 (by simp;omega)] at ε;simp only[List.length_take] at ε;rw[dv γ] at ε;have:bI-min j e.cells.length=bI-j:=γ;rw[this] at ε;exact ε
   obtain⟨x,I,R,ν⟩:=ig _ _ Gf;rw[if_pos ⟨γ,γ,γ⟩];have:eN*k+bI-(eN*k+j+0)=bI-j:=γ;rw[this,Array.getElem?_toList];exact⟨x,I,R,ν⟩
  ·have Gf:e.cells[bI]?=some c2:=by
    by_cases hp:bI<j
    ·rw[List.append_assoc,dv (by simp;omega),List.getElem?_take_of_lt hp] at ε;exact ε
    ·rw[h4 (by simp;omega)] at ε;rw[List.getElem?_drop] at ε;have:j+a.cells.length+(bI-(e.cells.take j++a.cells).length)=bI:=by simp;omega
     rw[this] at ε;exact ε
   rw[if_neg (λx=>a4 ⟨γ,γ⟩)];exact(h.2 eN e he).2 bI c2 Gf
 ·rw[List.getElem?_set_ne (Ne.symm tl)] at bp;obtain⟨I,R⟩:=h.2 eN aH bp;refine⟨I,λbI c2 ε=>?_⟩;have oJ:bI<k:=by rw[<-I];exact(bV.1 ε).1
  rw[bG,hlen,if_neg (λx=>LF (lo:=j) (hi:=j+a.cells.length) oJ δ tl ⟨γ,γ⟩)];exact R bI c2 ε
theorem fK.LH {z:Value} {a:θ} (κ:au S B σ a z) (ei:a.cells.all (θ.bd σ)=true) {k n m:Nat} (ψ:a.cells.length=k) (hm:n*k<=m) (jI:Array Value) (Μ:jI=z.cells) :
  fK S B σ ((Array.range m).map (jI[· % jI.size]!)) k (List.replicate n a):=by
 obtain⟨cC,ig⟩:=κ.cells ei;subst Μ;refine⟨by simpa using hm,λi e hi=>?_⟩;obtain⟨I,R⟩:=bV.1 hi;simp at I R;subst R;refine⟨ψ,λj c ε=>?_⟩;obtain⟨x,Γ,Θ,bO⟩:=ig j c ε;have δ:j<k:=by rw[<-ψ];exact(bV.1 ε).1
 have aI:i*k+j<m:=by
  have:(i+1)*k<=n*k:=Nat.mul_le_mul_right k I;rw[Nat.add_mul] at this;omega
 refine⟨x,?_,Θ,bO⟩;rw[Array.getElem?_map,Array.getElem?_range,if_pos aI];simp only[Option.map_some];have:(i*k+j) % z.cells.size=j:=by
  rw[cC,ψ,Nat.mul_comm,Nat.mul_add_mod];exact Nat.mod_eq_of_lt δ
 rw[this];have bk:j<z.cells.size:=γ;rw[gF bk] at Γ;cases Γ;rw[getElem!_pos z.cells j bk]
theorem fK.later {az:aD} {B':aP} {σ':List Row} (υ:bQ S az B B' σ σ') {c:Array Value} {k:Nat} {l:List θ} (h:fK S B σ c k l):fK az B' σ' c k l:=
 ⟨h.1,λi e hi=>⟨(h.2 i e hi).1,λj a δ=>by obtain⟨x,I,R,ν⟩:=(h.2 i e hi).2 j a δ;exact⟨x,I,R.later υ,ν⟩⟩⟩
theorem fK.one {a:θ} {v:Value} (κ:au S B σ a v) (ei:a.cells.all (θ.bd σ)=true):fK S B σ v.cells a.cells.length [a]:=by
 obtain⟨cC,ig⟩:=κ.cells ei;refine⟨by simp[cC],λi e hi=>?_⟩
 match i with
 | 0=>
  simp at hi;subst hi;refine⟨rfl,λj c ε=>?_⟩;rw[Nat.zero_mul,Nat.zero_add];exact ig j c ε
 | i+1=>simp at hi
theorem zc (χ:Holds S B σ H) {c:Array Value} {k:Nat} {l:List θ} (ε:fK S B σ c k l) (t:TypeId) {K:Nat->π->Prop} {E:Value->π->Prop}
  (h:∀r,H.fresh r->Holds S (B++[some (r,c.size)]) (σ++[.cells t k l]) (H.dz r c t)->Ext S B H S (B++[some (r,c.size)]) (H.dz r c t)->bQ S S B (B++[some (r,c.size)]) σ (σ++[.cells t k l])->K r (H.dz r c t)) :
  ξ P (newObj (.cells c t)) H K E:=by
 refine⟨rfl,λr ι=>?_⟩;have cT:∀b,(∀N,some (r,c.size)≠some (b,N))->ky H (H.dz r c t) b:=λb hb=>by
  have bC:b≠r:=λe=>by subst e;exact hb _ rfl
  exact⟨λo=>by simp[π.dz,bC],by simp[π.dz,bC],rfl⟩
 have bN:bQ S S B (B++[some (r,c.size)]) σ (σ++[.cells t k l])->jH S (B++[some (r,c.size)]) (σ++[.cells t k l]) (H.dz r c t) (.cells t k l) (some (r,c.size)):=λυ=>by
  have bg:=ε.later υ;refine⟨by simp[π.dz],ε.1,λo Α=>⟨c[o],by simp[π.dz,Α]⟩,λi j=>(c[i*k+j]?).getD undef,λi e hi=>⟨(bg.2 i e hi).1,λj a δ=>?_⟩⟩;obtain⟨x,Γ,Θ,bO⟩:=(bg.2 i e hi).2 j a δ;simp only[Γ,Option.getD_some];exact⟨by simp[π.dz,Γ],Θ,bO⟩
 obtain⟨I,R,ν⟩:=χ.push (λb N e=>by cases e;exact ι) cT bN;exact h r ι I R ν
theorem zd (χ:Holds S B σ H) (c:Array Value) (t:TypeId) {K:Nat->π->Prop} {E:Value->π->Prop}
  (h:∀r,Holds (S.lay r c) B σ (H.dz r c t)->Ext S B H (S.lay r c) B (H.dz r c t)->bQ S (S.lay r c) B B σ σ->K r (H.dz r c t)) :
  ξ P (newObj (.cells c t)) H K E:=by
 refine⟨rfl,λr ι=>?_⟩;obtain⟨I,R,ν⟩:=χ.lay (c:=c) (t:=t) ι;exact h r I R ν
theorem LI {r:Nat} {c:Array Value} {a:θ} {k:Nat} (υ:bQ S (S.lay r c) B B σ σ) (ε:fK S B σ c k [a]):au (S.lay r c) B σ (.aa a.cells) (.pointer (some ⟨r,0,none⟩)):=by
 have bg:=ε.later υ;refine .aa r 0 (λj=>(c[j]?).getD undef) (λj x δ=>?_) (λj x δ=>?_)
 ·obtain⟨y,Γ,_⟩:=(bg.2 0 a rfl).2 j x δ;rw[Nat.zero_mul,Nat.zero_add] at Γ;simp[aD.lay,Γ]
 ·obtain⟨y,Γ,Θ,_⟩:=(bg.2 0 a rfl).2 j x δ;rw[Nat.zero_mul,Nat.zero_add] at Γ;simp only[Γ,Option.getD_some];exact Θ
theorem Ci {r:Nat} {c:Array Value} {k cap:Nat} {l:List θ} (ex:Bool) (υ:bQ S (S.lay r c) B B σ σ) (ε:fK S B σ c k l) (wX:l.length<=cap) (hex:ex=true->cap=l.length):au (S.lay r c) B σ (.sl ex k l) (.slice (some ⟨r,0,none⟩) l.length cap):=by
 have bg:=ε.later υ;refine .sl r 0 cap (λi j=>(c[i*k+j]?).getD undef) hex wX (λi e hi=>(bg.2 i e hi).1) (λi e hi j x δ=>?_) (λi e hi j x δ=>?_)
 ·obtain⟨y,Γ,_⟩:=(bg.2 i e hi).2 j x δ;simp[aD.lay,Γ]
 ·obtain⟨y,Γ,Θ,_⟩:=(bg.2 i e hi).2 j x δ;simp only[Γ,Option.getD_some];exact Θ
end
end Go.TL
