import Derived.IntWalk
import Derived.Laws.Sem
import Derived.Test.YtlabjopijpkiaaaGreatLAB
set_option maxHeartbeats 16000000
set_option maxRecDepth 20000
set_option linter.unusedSectionVars false
set_option linter.unusedSimpArgs false
set_option linter.unusedVariables false
namespace Go.TL
open Go.IntKind (i64)
open Go.Conc
def P' (S:κ) (B:Z5) (σ:Ξ) (es:List (Ψ×Ψ)) (xs:Array MapEntry) (a:Nat):Prop:=
 es.length=xs.size/\(∀(i:Nat) (e:Ψ×Ψ) (y:MapEntry),es[i]?=some e->xs[i]?=some y->υ S B σ e.1 y.key/\υ S B σ e.2 y.val/\y.born<a)/\
 ∀(i j:Nat) (y z:MapEntry),xs[i]?=some y->xs[j]?=some z->i<j->y.born<z.born
def Kb (S:κ) (B:Z5) (σ:Ξ) (left:List (Ψ×Ψ)) (c:Option (Ψ×Ψ)) (xs:Array MapEntry) (d:Nat) (seen:Array Nat):Prop:=
 (∃a:List MapEntry,a=xs.toList.filter (λe=>!seen.contains e.born)/\left.length=a.length/\∀(i:Nat) (e:Ψ×Ψ) (y:MapEntry),left[i]?=some e->a[i]?=some y->υ S B σ e.1 y.key/\υ S B σ e.2 y.val)/\
 (∀y∈xs,y.born<d)/\
 ∀e,c=some e->∃b y,seen.back?=some b/\xs.find? (·.born==b)=some y/\υ S B σ e.1 y.key/\υ S B σ e.2 y.val
def U7 (S:κ) (B:Z5) (σ:Ξ) (H:Τ) (r:Row) (bo:Option (Nat×Nat)):Prop:=
 match r with
 | .cells t k l=>match bo with
  | none=>l=[]
  | some (b,N)=>H.row b=some (t,N)/\l.length*k<=N/\(∀o,o<N->∃w,H.η b o=some (w,true))/\
   ∃w:Nat->Nat->Value,∀(i:Nat) (e:Ψ),l[i]?=some e->e.cells.length=k/\∀(j:Nat) (a:Ψ),e.cells[j]?=some a->H.η b (i*k+j)=some (w i j,true)/\υ S B σ a (w i j)/\One (w i j)
 | .map es=>∃b N xs c,bo=some (b,N)/\H.obj b=some (.map xs c)/\P' S B σ es xs c
 | .iter m left f=>∃b N d g xs c seen,bo=some (b,N)/\B[m]?=some (some (d,g))/\(∃es,σ[m]?=some (.map es))/\H.obj b=some (.mapIter (some d) c seen c)/\H.obj d=some (.map xs c)/\Kb S B σ left f xs c seen
 | .dead=>True
def Row.live (r:Row):Prop:=match r with|.dead=>False|_=>True
structure Holds (S:κ) (B:Z5) (σ:Ξ) (H:Τ):Prop where
 Yy:∀b o v,S b o=some v->∃p,H.η b o=some (v,p)
 len:B.length=σ.length
 row:∀(id:Nat) (r:Row) (bo:Option (Nat×Nat)),σ[id]?=some r->B[id]?=some bo->U7 S B σ H r bo
 inj:∀(i j:Nat) (a c:Row) (b d e:Nat),i≠j->σ[i]?=some a->σ[j]?=some c->a.live->c.live->B[i]?=some (some (b,d))->B[j]?=some (some (b,e))->False
 sep:∀(id:Nat) (r:Row) (b N:Nat),σ[id]?=some r->r.live->B[id]?=some (some (b,N))->∀o,S b o=none
def Z5.has (B:Z5) (b:Nat):Prop:=∃N,some (b,N)∈B
def SY (c:κ) (a H:Τ) (b:Nat):Prop:=
 (∀o,H.η b o=a.η b o\/∃v p,c b o=some v/\a.η b o=some (v,p)/\H.η b o=some (v,false))/\H.row b=a.row b/\H.obj b=a.obj b
theorem SY.of {c:κ} {a H:Τ} {b:Nat} (h:(∀o,H.η b o=a.η b o)/\H.row b=a.row b/\H.obj b=a.obj b):SY c a H b:=⟨λo=>.inl (h.1 o),h.2⟩
structure Ext (c:κ) (d:Z5) (a:Τ) (S:κ) (B:Z5) (H:Τ):Prop where
 Yy:∀b o v,c b o=some v->S b o=some v
 W7:∀b,¬d.has b->¬a.fresh b->SY c a H b
 blocks:∀b,B.has b->d.has b\/a.fresh b
 QZ:∀b o v,S b o=some v->c b o=some v\/d.has b\/a.fresh b
 grow:∀b,H.fresh b->a.fresh b
theorem Ext.refl (S:κ) (B:Z5) (H:Τ):Ext S B H S B H:=⟨λ_ _ _ h=>h,λ_ _ _=>SY.of ⟨λ_=>rfl,rfl,rfl⟩,λ_ h=>.inl h,λ_ _ _ h=>.inl h,λ_ h=>h⟩
theorem Ext.trans {j l m:κ} {n d r:Z5} {s f t:Τ} (h:Ext j n s l d f) (k:Ext l d f m r t):Ext j n s m r t:=by
 refine⟨λb o v x=>k.Yy b o v (h.Yy b o v x),λb a c=>?_,λb a=>?_,λb o v hv=>?_,λb x=>h.grow b (k.grow b x)⟩
 .have g:=h.W7 b a c
  have C:¬f.fresh b:=λx=>c (h.grow b x)
  have D:¬d.has b:=λx=>(h.blocks b x).elim a c
  have Ρ:=k.W7 b D C;refine⟨λo=>?_,Ρ.2.1.trans g.2.1,Ρ.2.2.trans g.2.2⟩;rcases Ρ.1 o with x|⟨v,p,w,E,A⟩<;>rcases g.1 o with y|⟨u,q,i,B,F⟩
  .exact .inl (x.trans y)
  .exact .inr ⟨u,q,i,B,x.trans F⟩
  .rcases h.QZ b o v w with z|z|z
   .exact .inr ⟨v,p,z,by rw[<-y];exact E,A⟩
   .exact absurd z a
   .exact absurd z c
  .have e:=h.Yy b o u i
   have:v=u:=by rw[w] at e;exact WW e
   subst this;exact .inr ⟨v,q,i,B,A⟩
 .rcases k.blocks b a with x|x
  .exact h.blocks b x
  .exact .inr (h.grow b x)
 .rcases k.QZ b o v hv with x|x|x
  .exact h.QZ b o v x
  .exact .inr (h.blocks b x)
  .exact .inr (.inr (h.grow b x))
abbrev Β:=List (Nat×Ψ)
abbrev Ya:=Ψ->Β->Ξ->Prop
abbrev XO:=Zz->Β->Ξ->Prop
def Z3:Β->Nat->Ψ
 | [],_=>.Ze
 |(j,a)::r,i=>if j=i then a else Z3 r i
def Yv (S:κ) (B:Z5) (σ:Ξ) (env:Β) (t:ζ):Prop:=∀i,υ S B σ (Z3 env i) (t.getD i undef)
theorem Yv.later {S a:κ} {B B':Z5} {σ σ':Ξ} {env:Β} {t:ζ} (h:Yv S B σ env t) (b:Zm S a B B' σ σ'):Yv a B' σ' env t:=λi=>(h i).later b
theorem Yv.put {S:κ} {B:Z5} {σ:Ξ} {env:Β} {t:ζ} (h:Yv S B σ env t) {d:Nat} (hd:d<t.size) {a:Ψ} {v:Value} (b:υ S B σ a v):Yv S B σ ((d,a)::env) (t.setIfInBounds d v):=by
 intro i;simp only[Z3];split
 .rename_i e;subst e;simpa[Wr,hd] using b
 .rename_i e;have:=h i;rw[Wr] at this ⊢
  rwa [UC e]
theorem EO {S:κ} {B:Z5} {σ:Ξ} {H:Τ} (a:Holds S B σ H) {id:Nat} {r:Row} (h:σ[id]?=some r):∃bo,B[id]?=some bo:=by
 have:id<B.length:=by rw[a.len];exact(Zo.1 h).1
 exact⟨_,Z7 this⟩
def Uj:TypeDesc->Bool
 | .struct _|.array _ _=>true
 | _=>false
section
variable {P:Program} {α β:Type} {G:Τ} {E:Value->Τ->Prop}
theorem Φ.mono {K K':α->Τ->Prop} {E':Value->Τ->Prop} (j:∀a G,K a G->K' a G) (l:∀v G,E v G->E' v G) (s:Sem α):∀{G:Τ},Φ P s G K E->Φ P s G K' E':=by
 induction s with
 | pure a=>intro G h;exact j _ _ h
 | load m a k b=>intro G ⟨d,e,v,p,f,g⟩;exact⟨d,e,v,p,f,b v g⟩
 | store m a v k b=>intro G ⟨d,e,f,g,u,w⟩;exact⟨d,e,f,g,u,b w⟩
 | new o k b=>
  intro G h;cases o with
  | cells c t y=>exact⟨h.1,λr i=>b r (h.2 r i)⟩
  | _=>exact λr i=>b r (h r i)
 | shape r k b=>intro G ⟨t,n,d,e⟩;exact⟨t,n,d,b _ e⟩
 | freeze a n k b=>intro G h;exact h.elim
 | frozen a k b=>intro G ⟨d,e⟩;exact⟨d,b _ e⟩
 | getObj r k b=>intro G ⟨o,d,e,f⟩;exact⟨o,d,e,b _ f⟩
 | setObj r o k b=>intro G ⟨d,e,f,g⟩;exact⟨d,e,f,b g⟩
 | choose q k b=>
  intro G h;simp only[Φ] at h ⊢;split
  .rw[if_pos ‹_›] at h;exact b _ h
  .rw[if_neg ‹_›] at h;exact λn=>b _ (h n)
 | sys c k b=>intro G h;exact h.elim
 | program k b=>intro G h;exact b P h
 | mark m k b=>intro G ⟨d,e⟩;exact⟨d,b e⟩
 | halt x=>
  intro G h;cases x<;>first|exact h.elim|exact l _ _ h
theorem Φ.bind {f:α->Sem β} {K:β->Τ->Prop} (s:Sem α):∀{G:Τ},Φ P s G (λa G'=>Φ P (f a) G' K E) E->Φ P (s.bind f) G K E:=by
 induction s with
 | pure a=>intro G h;exact h
 | load m a k b=>intro G ⟨d,e,v,p,g,i⟩;exact⟨d,e,v,p,g,b v i⟩
 | store m a v k b=>intro G ⟨d,e,g,i,l,u⟩;exact⟨d,e,g,i,l,b u⟩
 | new o k b=>
  intro G h;cases o with
  | cells c t w=>exact⟨h.1,λr j=>b r (h.2 r j)⟩
  | _=>exact λr j=>b r (h r j)
 | shape r k b=>intro G ⟨t,n,d,e⟩;exact⟨t,n,d,b _ e⟩
 | freeze a n k b=>intro G h;exact h.elim
 | frozen a k b=>intro G ⟨d,e⟩;exact⟨d,b _ e⟩
 | getObj r k b=>intro G ⟨o,d,e,g⟩;exact⟨o,d,e,b _ g⟩
 | setObj r o k b=>intro G ⟨d,e,g,i⟩;exact⟨d,e,g,b i⟩
 | choose q k b=>
  intro G h;simp only[Φ] at h;simp only[Sem.bind,Φ];split
  .rw[if_pos ‹_›] at h;exact b _ h
  .rw[if_neg ‹_›] at h;exact λn=>b _ (h n)
 | sys c k b=>intro G h;exact h.elim
 | program k b=>intro G h;exact b P h
 | mark m k b=>intro G ⟨d,e⟩;exact⟨d,b e⟩
 | halt x=>
  intro G h;cases x<;>first|exact h.elim|exact h
theorem Φ.bind' {f:α->Sem β} {K:β->Τ->Prop} {s:Sem α} (h:Φ P s G (λa G'=>Φ P (f a) G' K E) E):Φ P (s >>= f) G K E:=Φ.bind s h
theorem Φ.pure' {a:α} {K:α->Τ->Prop} (h:K a G):Φ P (pure a) G K E:=h
theorem Φ.underlying {t:TypeId} {d:TypeDesc} {K:TypeDesc->Τ->Prop} (hd:P.underlying t=some d) (h:K d G):Φ P (Go.underlying t) G K E:=by
 unfold Go.underlying;refine Φ.bind' ?_;show Φ P (match P.underlying t with|some d=>pure d|none=>_) G K E;rw[hd];exact h
theorem Φ.typeInfo {t:TypeId} {i:TypeInfo} {K:TypeInfo->Τ->Prop} (hi:P.info? t=some i) (h:K i G):Φ P (Go.typeInfo t) G K E:=by
 unfold Go.typeInfo;refine Φ.bind' ?_;show Φ P (match P.info? t with|some i=>pure i|none=>_) G K E;have:P.info? t=some i:=hi;rw[this];exact h
theorem Φ.sizeOf {t:TypeId} {i:TypeInfo} {K:Nat->Τ->Prop} (hi:P.info? t=some i) (h:K i.size G):Φ P (Go.sizeOf t) G K E:=by
 unfold Go.sizeOf;exact Φ.bind' (Φ.typeInfo hi (Φ.pure' h))
theorem Φ.isAgg {t:TypeId} {d:TypeDesc} {K:Bool->Τ->Prop} (hd:P.underlying t=some d) (h:K (Uj d) G):Φ P (Go.isAgg t) G K E:=by
 unfold Go.isAgg;refine Φ.bind' (Φ.underlying hd ?_);cases d<;>exact h
theorem Φ.zeroValue {t:TypeId} {i:TypeInfo} {v:Value} {K:Value->Τ->Prop} (hi:P.info? t=some i) (a:i.zero=some v) (h:K v G):Φ P (Go.zeroValue t) G K E:=by
 unfold Go.zeroValue;refine Φ.bind' (Φ.typeInfo hi ?_);rw[a];exact h
theorem Φ.zF {a:Addr} (w:Nat->Value) {K:ζ->Τ->Prop}:∀(n i:Nat) (b:ζ),a.spot=none->(∀j,i<=j->j<i+n->∃p,G.η a.block (a.off+j)=some (w j,p))->K (b++((List.range n).map λj=>w (i+j)).toArray) G->Φ P (loadCellsFrom a i n b) G K E:=by
 intro n
 induction n with
 | zero=>intro i b _ _ h;simp at h;exact h
 | succ n e=>
  intro i b c d h;unfold loadCellsFrom;refine Φ.bind' ?_;obtain⟨p,f⟩:=d i (Z6 _) J;have g:(a.add i).spot=none:=by unfold Addr.add;split<;>simp[c]
  have Ρ:(a.add i).block=a.block:=by unfold Addr.add;split<;>rfl
  have k:(a.add i).off=a.off+i:=by unfold Addr.add;split<;>simp_all
  refine⟨U,g,w i,p,by rw[Ρ,k];exact f,?_⟩;refine e (i+1) (b.push (w i)) c (λj l m=>d j J J) ?_;have:b.push (w i)++((List.range n).map λj=>w (i+1+j)).toArray=b++((List.range (n+1)).map λj=>w (i+j)).toArray:=by
   rw[List.range_succ_eq_map];apply Nx;simp[Function.comp_def,Ub,Mb 1]
  rw[this];exact h
theorem Φ.loadCells {a:Addr} (w:Nat->Value) {n:Nat} {K:ζ->Τ->Prop} (b:a.spot=none) (c:∀j,j<n->∃p,G.η a.block (a.off+j)=some (w j,p)) (h:K ((List.range n).map w).toArray G):Φ P (Go.loadCells a n) G K E:=by
 unfold Go.loadCells;exact Φ.zF w n 0 #[] b (λj _ d=>c j J) (by simpa using h)
def Τ.Wd (G:Τ) (b o:Nat) (vs:List Value):Τ:={G with η:=λa o'=>if a=b/\o<=o'/\o'<o+vs.length then some ((vs[o'-o]?).getD undef,true) else G.η a o'}
theorem Τ.Hx {H:Τ} {b o:Nat} {vs:List Value}:∀r,(H.Wd b o vs).fresh r->H.fresh r:=
 Τ.HB (λa o' h=>by
  simp only[Τ.Wd] at h;split at h
  .cases h
  .exact h) (λ_ h=>h) (λ_ h=>h)
theorem Φ.storeCells {a:Addr} {K:Unit->Τ->Prop} (m:a.spot=none) (o:∃t n,G.row a.block=some (t,n)):∀(vs:List Value) (i:Nat) (G':Τ),(∀v∈vs,One v)->(∀j,i<=j->j<i+vs.length->G'.owns a.block (a.off+j))->(G'.row=G.row)->K () (G'.Wd a.block (a.off+i) vs)->Φ P (Go.storeCells a vs i) G' K E:=by
 intro vs
 induction vs with
 | nil=>
  intro i G' _ _ _ h;have:G'.Wd a.block (a.off+i) []=G':=by
   unfold Τ.Wd;have:∀b o',¬(b=a.block/\a.off+i<=o'/\o'<a.off+i+([]:List Value).length):=λb o' h=>by simp at h;omega
   simp only[this,if_false]
  rw[this] at h;exact h
 | cons v vs p=>
  intro i G' g k l h;unfold Go.storeCells;refine Φ.bind' ?_;have r:(a.add i).spot=none:=by unfold Addr.add;split<;>simp[m]
  have Ρ:(a.add i).block=a.block:=by unfold Addr.add;split<;>rfl
  have d:(a.add i).off=a.off+i:=by unfold Addr.add;split<;>simp_all
  refine⟨U,r,by rw[Ρ,d];exact k i (Z6 _) Ω,by rw[Ρ,l];exact o,g v Ω,?_⟩;refine p (i+1) _ (λv hv=>g v (by simp[hv])) (λj e f=>?_) l ?_
  .obtain⟨u,s⟩:=k j J (by simp;omega);refine⟨u,?_⟩;simp only[Τ.Om,Ρ,d];rw[if_neg J];exact s
  .have:(G'.Om (a.add i) v).Wd a.block (a.off+(i+1)) vs=G'.Wd a.block (a.off+i) (v::vs):=by
    unfold Τ.Wd Τ.Om;simp only[Ρ,d];congr 1
    funext b o'
    by_cases c:b=a.block
    .subst c;by_cases e:o'=a.off+i
     .subst e;rw[if_neg J,if_pos ⟨U,rfl⟩,if_pos ⟨U,J,Ω⟩];simp
     .by_cases f:a.off+(i+1)<=o'/\o'<a.off+(i+1)+vs.length
      .rw[if_pos ⟨U,f⟩,if_pos ⟨U,J,by simp;omega⟩];have:o'-(a.off+i)=(o'-(a.off+(i+1)))+1:=J;rw[this,List.getElem?_cons_succ]
      .rw[if_neg (by intro x;exact f x.2),if_neg (by intro x;exact e x.2),if_neg (by intro x;simp at x;omega)]
    .rw[if_neg (λx=>c x.1),if_neg (λx=>c x.1),if_neg (λx=>c x.1)]
   rw[this];exact h
end
def Uv (H H':Τ) (b:Nat):Prop:=(∀o,H'.η b o=H.η b o)/\H'.row b=H.row b/\H'.obj b=H.obj b
theorem SY.P9 {a:κ} {c H:Τ} {b:Nat} (h:SY a c H b) (e:∀o,a b o=none):Uv c H b:=
 ⟨λo=>(h.1 o).elim id λ⟨v,p,d,_⟩=>(by rw[e o] at d;cases d),h.2⟩
section
variable {S Yl:κ} {B B':Z5} {σ σ':Ξ} {H H':Τ}
theorem P'.later (c:Zm S Yl B B' σ σ') {es:List (Ψ×Ψ)} {xs:Array MapEntry} {d:Nat} (h:P' S B σ es xs d):P' Yl B' σ' es xs d:=
 ⟨h.1,λi e y a b=>⟨(h.2.1 i e y a b).1.later c,(h.2.1 i e y a b).2.1.later c,(h.2.1 i e y a b).2.2⟩,h.2.2⟩
theorem Kb.later (f:Zm S Yl B B' σ σ') {left:List (Ψ×Ψ)} {g:Option (Ψ×Ψ)} {xs:Array MapEntry} {j:Nat} {seen:Array Nat} (h:Kb S B σ left g xs j seen):Kb Yl B' σ' left g xs j seen:=by
 obtain⟨⟨l,m,n,k⟩,o,p⟩:=h;refine⟨⟨l,m,n,λi e y a b=>⟨(k i e y a b).1.later f,(k i e y a b).2.later f⟩⟩,o,λe r=>?_⟩;obtain⟨st,y,a,b,c,d⟩:=p e r;exact⟨st,y,a,b,c.later f,d.later f⟩
theorem U7.later (g:Zm S Yl B B' σ σ') {r:Row} {bo:Option (Nat×Nat)} (h:U7 S B σ H r bo) (n:∀b N,bo=some (b,N)->Uv H H' b)
  (C:∀m left p,r=.iter m left p->σ'[m]?=σ[m]?/\B'[m]?=B[m]?/\∀b N,B[m]?=some (some (b,N))->Uv H H' b):U7 Yl B' σ' H' r bo:=by
 cases r with
 | cells t k l=>
  cases bo with
  | none=>exact h
  | some x=>
   obtain⟨b,N⟩:=x;obtain⟨v,D,_⟩:=n b N U;obtain⟨c,d,s,w,f⟩:=h;refine⟨by rw[D];exact c,d,λo E=>by rw[v];exact s o E,w,λi e hi=>⟨(f i e hi).1,λj a F=>?_⟩⟩;obtain⟨I,J,K⟩:=(f i e hi).2 j a F;exact⟨by rw[v];exact I,J.later g,K⟩
 | map es=>
  obtain⟨b,N,xs,u,rfl,c,d⟩:=h;exact⟨b,N,xs,u,U,by rw[(n b N U).2.2];exact c,d.later g⟩
 | iter m left p=>
  obtain⟨b,N,y,A,xs,u,seen,rfl,c,d,s,f,L⟩:=h;obtain⟨M,O,P⟩:=C m left p U;exact⟨b,N,y,A,xs,u,seen,U,by rw[O];exact c,by rw[M];exact d,by rw[(n b N U).2.2];exact s,by rw[(P y A c).2.2];exact f,L.later g⟩
 | dead=>trivial
theorem R7 {id:Nat} {b N:Nat} (h:B[id]?=some (some (b,N))):B.has b:=⟨N,Y1 h⟩
theorem Holds.SE (d:Holds S B σ H) {id b N:Nat} {r:Row} (f:σ[id]?=some r) (g:r.live) (i:B[id]?=some (some (b,N))):¬H.fresh b:=λc=>by
 have h:=d.row id r _ f i;cases r with
 | cells t k l=>have:=h.1;rw[c.2.1] at this;cases this
 | map es=>
  obtain⟨j,n,xs,o,e,a,_⟩:=h;cases e;rw[c.2.2.1] at a;cases a
 | iter m left p=>
  obtain⟨j,n,s,u,xs,o,seen,e,_,_,a,_⟩:=h;cases e;rw[c.2.2.1] at a;cases a
 | dead=>exact g
theorem zE {id:Nat} {r r':Row} {bo bo':Option (Nat×Nat)} (b:σ[id]?=some r) (c:B[id]?=some bo) (f:r.to r' (some bo) (some bo')):Zm S S B (B.set id bo') σ (σ.set id r'):=by
 have g:id<σ.length:=(Zo.1 b).1
 have i:id<B.length:=(Zo.1 c).1;refine⟨λ_ _ _ h=>h,λj d a=>?_⟩;by_cases e:id=j
 .subst e;rw[b] at a;cases a;refine⟨r',by rw[V0 g],?_⟩;rw[c,V0 i];exact f
 .exact⟨d,by rw[Vp e];exact a,by rw[Vp e];exact d.Qa _⟩
theorem Holds.Nn (g:Holds S B σ H) {id:Nat} {r r':Row} {bo bo':Option (Nat×Nat)} (w:σ[id]?=some r) (C:r.live) (t:B[id]?=some bo) (ag:r.to r' (some bo) (some bo'))
  (A:∀b u,bo'=some (b,u)->(∃N,bo=some (b,N))\/H.fresh b) (L:∀b,(∀N,bo≠some (b,N))->(∀N,bo'≠some (b,N))->Uv H H' b) (ah:∀b,H'.fresh b->H.fresh b)
  (ai:∀(j:Nat) left M,σ[j]?≠some (Row.iter id left M)) (aj:Zm S S B (B.set id bo') σ (σ.set id r')->U7 S (B.set id bo') (σ.set id r') H' r' bo') :
  Holds S (B.set id bo') (σ.set id r') H'/\Ext S B H S (B.set id bo') H'/\Zm S S B (B.set id bo') σ (σ.set id r'):=by
 have O:=zE (S:=S) w t ag
 have ak:id<σ.length:=(Zo.1 w).1
 have D:id<B.length:=(Zo.1 t).1
 have Y:∀(j:Nat) (f:Row) (b N:Nat),j≠id->σ[j]?=some f->f.live->B[j]?=some (some (b,N))->Uv H H' b:=λj f b N c P k d=>by
  refine L b (λu e=>?_) (λu e=>?_)
  .exact g.inj j id f r b N u c P w k C d (by rw[t,e])
  .rcases A b u e with⟨n,a⟩|a
   .exact g.inj j id f r b N n c P w k C d (by rw[t,a])
   .exact g.SE P k d a
 refine⟨⟨λb o v hv=>?_,by simp[g.len],λj f Z c d=>?_,λi j l f b I E J hi c Q k R d=>?_,λj f b N c k d o=>?_⟩,⟨λ_ _ _ h=>h,λb K al=>?_,λb K=>?_,λb o v hv=>.inl hv,ah⟩,O⟩
 .have aa:=g.Yy b o v hv
  have ab:∀N,bo≠some (b,N):=λN e=>by
   have:=g.sep id r b N w C (by rw[t,e]) o;rw[hv] at this;cases this
  have am:∀N,bo'≠some (b,N):=λN e=>by
   rcases A b N e with⟨n,a⟩|a
   .exact ab n a
   .obtain⟨p,F⟩:=aa;rw[a.1 o] at F;cases F
  rw[(L b ab am).1];exact aa
 .by_cases e:id=j
  .subst e;rw[V0 ak] at c;rw[V0 D] at d;cases c;cases d;exact aj O
  .rw[Vp e] at c d;by_cases k:f.live
   .refine(g.row j f Z c d).later O (λb N an=>Y j f b N (YF e) c k (by rw[d,an])) λm left M ao=>?_;subst ao;have T:id≠m:=λx=>by subst x;exact ai j left M c
    refine⟨by rw[Vp T],by rw[Vp T],λb N ap=>?_⟩;obtain⟨_,_,au,av,xs,aw,seen,_,s,⟨es,a⟩,_⟩:=g.row j _ Z c d;exact Y m _ b N (YF T) a trivial ap
   .cases f<;>first|exact absurd trivial k|trivial
 .have U:∀(i:Nat) (l:Row) (N:Nat),(σ.set id r')[i]?=some l->l.live->(B.set id bo')[i]?=some (some (b,N))->i≠id->(σ[i]?=some l/\B[i]?=some (some (b,N))):=λi l N s _ y V=>by
   rw[Vp (YF V)] at s y;exact⟨s,y⟩
  have ad:∀(i:Nat) (l:Row) (N u:Nat),i≠id->σ[i]?=some l->l.live->B[i]?=some (some (b,N))->bo'=some (b,u)->False:=λi l N u V s a y W=>by
   rcases A b u W with⟨n,X⟩|X
   .exact g.inj i id l r b N n V s w a C y (by rw[t,X])
   .exact g.SE s a y X
  by_cases ae:i=id
  .subst ae;rw[V0 D] at R;obtain⟨s,a⟩:=U j f E c k d (YF J);exact ad j f E I (YF J) s k a (by simpa using R)
  .obtain⟨s,a⟩:=U i l I hi Q R ae;by_cases af:j=id
   .subst af;rw[V0 D] at d;exact ad i l I E J s Q a (by simpa using d)
   .obtain⟨y,W⟩:=U j f E c k d af;exact g.inj i j l f b I E J s y Q k a W
 .by_cases e:id=j
  .subst e;rw[V0 D] at d;have aq:bo'=some (b,N):=by simpa using d
   rcases A b N aq with⟨n,a⟩|a
   .exact g.sep id r b n w C (by rw[t,a]) o
   .cases hv:S b o with
    | none=>rfl
    | some v=>obtain⟨p,F⟩:=g.Yy b o v hv;rw[a.1 o] at F;cases F
  .rw[Vp e] at c d;exact g.sep j f b N c k d o
 .refine SY.of (L b (λN e=>K (R7 (id:=id) (N:=N) (by rw[t,e]))) λN e=>?_);rcases A b N e with⟨n,a⟩|a
  .exact K (R7 (id:=id) (N:=n) (by rw[t,a]))
  .exact al a
 .obtain⟨N,ar⟩:=K;obtain⟨j,c⟩:=Sl ar;by_cases e:id=j
  .subst e;rw[V0 D] at c;rcases A b N (by simpa using c) with⟨n,a⟩|a
   .exact .inl (R7 (id:=id) (N:=n) (by rw[t,a]))
   .exact .inr a
  .rw[Vp e] at c;exact .inl (R7 c)
theorem zD {r:Row} {bo:Option (Nat×Nat)} (d:B.length=σ.length):Zm S S B (B++[bo]) σ (σ++[r]):=by
 refine⟨λ_ _ _ h=>h,λj a b=>?_⟩;have c:=(Zo.1 b).1;exact⟨a,by rw[Yz c];exact b,by rw[Yz J];exact a.Qa _⟩
theorem Holds.push (d:Holds S B σ H) {r:Row} {bo:Option (Nat×Nat)} (g:∀b N,bo=some (b,N)->H.fresh b) (F:∀b,(∀N,bo≠some (b,N))->Uv H H' b)
  (Z:Zm S S B (B++[bo]) σ (σ++[r])->U7 S (B++[bo]) (σ++[r]) H' r bo) :
  Holds S (B++[bo]) (σ++[r]) H'/\Ext S B H S (B++[bo]) H'/\Zm S S B (B++[bo]) σ (σ++[r]):=by
 have K:=zD (S:=S) (r:=r) (bo:=bo) d.len
 have C:=d.len
 have aa:∀b,H'.fresh b->H.fresh b:=by
  have u:∀b,((∀o,H'.η b o=none)->∀o,H.η b o=none)/\(H'.row b=none->H.row b=none)/\(H'.obj b=none->H.obj b=none):=λb=>by
   by_cases e:∀N,bo≠some (b,N)
   .obtain⟨ab,ad,ae⟩:=F b e;exact⟨λh o=>by rw[<-ab o];exact h o,λh=>by rw[<-ad];exact h,λh=>by rw[<-ae];exact h⟩
   .obtain⟨N,L⟩:=Classical.not_forall.1 e;have D:=g b N (Classical.not_not.1 L);exact⟨λ_=>D.1,λ_=>D.2.1,λ_=>D.2.2.1⟩
  exact λb w=>⟨(u b).1 w.1,(u b).2.1 w.2.1,(u b).2.2 w.2.2.1,λA M=>⟨(u A).1 (w.2.2.2 A M).1,(u A).2.1 (w.2.2.2 A M).2.1,(u A).2.2 (w.2.2.2 A M).2.2⟩⟩
 have P:∀(j:Nat) (c:Row) (b N:Nat),σ[j]?=some c->c.live->B[j]?=some (some (b,N))->Uv H H' b:=λj c b N af f a=>
  F b λag e=>d.SE af f a (g b ag e)
 have I:∀{O:Type} (l:List O) (x:O) (j:Nat) (y:O),(l++[x])[j]?=some y->(j<l.length/\l[j]?=some y)\/(j=l.length/\x=y):=λl x j y h=>by
  by_cases k:j<l.length
  .rw[Yz k] at h;exact .inl ⟨k,h⟩
  .rw[Xj J] at h;have:j-l.length=0:=by
    have:=(Zo.1 h).1;simp at this;omega
   rw[this] at h;simp at h;exact .inr ⟨J,h⟩
 refine⟨⟨λb o v hv=>?_,by simp[C],λj c Q k a=>?_,λi j R c b T U ah hi k V f t a=>?_,λj c b N k f a o=>?_⟩,⟨λ_ _ _ h=>h,λb W D=>?_,λb W=>?_,λb o v hv=>.inl hv,aa⟩,K⟩
 .obtain⟨p,E⟩:=d.Yy b o v hv;rw[(F b λN e=>by have:=(g b N e).1 o;rw[E] at this;cases this).1];exact⟨p,E⟩
 .rcases I σ r j c k with⟨n,s⟩|⟨n,rfl⟩
  .rw[Yz J] at a;by_cases f:c.live
   .refine(d.row j c Q s a).later K (λb N ai=>P j c b N s f (by rw[a,ai])) λm left am aj=>?_;subst aj;obtain⟨_,_,an,ao,xs,ap,seen,_,aq,⟨es,Ρ⟩,_⟩:=d.row j _ Q s a;have ak:=(Zo.1 Ρ).1;exact⟨by rw[Yz ak],by rw[Yz J],λb N al=>P m _ b N Ρ trivial al⟩
   .cases c<;>first|exact absurd trivial f|trivial
  .rw[n,<-C] at a;simp at a;subst a;exact Z K
 .rcases I σ r i R hi with⟨n,s⟩|⟨n,rfl⟩<;>rcases I σ r j c k with⟨X,Y⟩|⟨X,rfl⟩
  .rw[Yz J] at t a;exact d.inj i j R c b T U ah s Y V f t a
  .rw[Yz J] at t;rw[X,<-C] at a;simp at a;exact d.SE s V t (g b U a)
  .rw[Yz J] at a;rw[n,<-C] at t;simp at t;exact d.SE Y f a (g b T t)
  .omega
 .rcases I σ r j c k with⟨n,s⟩|⟨n,rfl⟩
  .rw[Yz J] at a;exact d.sep j c b N s f a o
  .rw[n,<-C] at a;simp at a;cases hv:S b o with
   | none=>rfl
   | some v=>obtain⟨p,E⟩:=d.Yy b o v hv;rw[(g b N a).1 o] at E;cases E
 .exact SY.of (F b λN e=>D (g b N e))
 .obtain⟨N,L⟩:=W;rcases V4.1 L with h|h
  .exact .inl ⟨N,h⟩
  .simp at h;exact .inr (g b N h.symm)
def κ.lay (S:κ) (r:Nat) (c:ζ):κ:=λb o=>if b=r then c[o]? else S b o
theorem Holds.lay (d:Holds S B σ H) {r:Nat} {c:ζ} {t:TypeId} (f:H.fresh r) :
  Holds (S.lay r c) B σ (H.Ym r c t)/\Ext S B H (S.lay r c) B (H.Ym r c t)/\Zm S (S.lay r c) B B σ σ:=by
 have A:∀o,S r o=none:=λo=>by
  cases hv:S r o with
  | none=>rfl
  | some v=>obtain⟨p,s⟩:=d.Yy r o v hv;rw[f.1 o] at s;cases s
 have u:∀b o v,S b o=some v->S.lay r c b o=some v:=λb o v h=>by
  unfold κ.lay;rw[if_neg (λe=>by subst e;rw[A] at h;cases h)];exact h
 have w:Zm S (S.lay r c) B B σ σ:=⟨u,λ_ a h=>⟨a,h,a.Qa _⟩⟩
 have l:∀b,b≠r->Uv H (H.Ym r c t) b:=λb n=>⟨λo=>by simp[Τ.Ym,n],by simp[Τ.Ym,n],U⟩;refine⟨⟨λb o v hv=>?_,d.len,λj a x g i=>?_,d.inj,λj a b N g k i o=>?_⟩,⟨u,λb _ C=>SY.of (l b λe=>C (e▸f)),λb n=>.inl n,λb o v hv=>?_,Τ.ER f c t⟩,w⟩
 .unfold κ.lay at hv;split at hv
  .rename_i e;subst e;exact⟨true,by simp[Τ.Ym,hv]⟩
  .rename_i e;rw[(l b e).1];exact d.Yy b o v hv
 .by_cases k:a.live
  .have y:∀(j:Nat) (a:Row) (b N:Nat),σ[j]?=some a->a.live->B[j]?=some (some (b,N))->b≠r:=λj a b N D E F e=>d.SE D E F (e▸f);refine(d.row j a x g i).later w (λb N I=>l b (y j a b N g k (by rw[i,I]))) λm left L J=>?_;subst J;obtain⟨_,_,M,O,xs,P,seen,_,Q,⟨es,Ρ⟩,_⟩:=d.row j _ x g i;exact⟨U,U,λb N K=>l b (y m _ b N Ρ trivial K)⟩
  .cases a<;>first|exact absurd trivial k|trivial
 .unfold κ.lay;rw[if_neg (λe:b=r=>d.SE g k i (e▸f))];exact d.sep j a b N g k i o
 .unfold κ.lay at hv;split at hv
  .rename_i e;subst e;exact .inr (.inr f)
  .exact .inl hv
end
def LU:Value->Ψ
 | .slice none 0 0=>.sl true 0 []
 | v=>.z v
def Wc:Value->Ψ
 | .agg vs=>.ZW (vs.toList.map LU)
 | v=>LU v
def ε (env:Β):Operand->Ψ
 | .tmp n=>Z3 env n
 | .const v=>Wc v
 | .global _=>.Ze
 | .func f=>.fn (.func f) [] []
theorem EN {S:κ} {B:Z5} {σ:Ξ} (v:Value):υ S B σ (LU v) v:=by
 unfold LU;split
 .exact .VY none 0 λ_=>rfl
 .exact .z v
theorem RD {S:κ} {B:Z5} {σ:Ξ} (v:Value):υ S B σ (Wc v) v:=by
 unfold Wc;split
 .rename_i vs;refine .ZW vs Ω λi a w b c=>?_;rw[Yc,Wh,c] at b;cases b;exact EN w
 .exact EN _
theorem T3 {S:κ} {B:Z5} {σ:Ξ} {env:Β} {t:ζ} (h:Yv S B σ env t) (o:Operand):υ S B σ (ε env o) (ZJ t o):=by
 cases o with
 | tmp n=>exact h n
 | const v=>exact RD v
 | global g=>exact .Ze _
 | func f=>exact .fn #[] #[] rfl rfl (λi a v hi=>by simp at hi) (λi a v hi=>by simp at hi)
inductive YP where
 | ok (a:Ψ) (σ:Ξ)
 | Y0 (p:Prop) (r:YP)
 | all (n:Nat) (f:Nat->YP)
 | bad
def YP.holds (K:Ψ->Ξ->Prop):YP->Prop
 | .ok a σ=>K a σ
 | .Y0 p r=>p/\r.holds K
 | .all n f=>∀i,i<n->(f i).holds K
 | .bad=>False
def EM:Next->Option Value
 | .value v=>some v
 | .skip=>some undef
 | _=>none
def Vv:TypeDesc->Bool
 | .int _|.string|.bool=>true
 | _=>false
def Hw (P:Program) (t:TypeId):Option (List (TypeDesc×Nat))->Prop
 | none=>True
 | some a=>P.eqGuardType P.depth t=false/\a.map (·.2)=List.range a.length/\
  ((∃b,P.underlying t=some (.struct b)/\P.stoodInHeld t=false/\a=b.toList.map (λf=>((P.underlying f.type).getD .invalid,f.offset))/\∀f∈b.toList,f.name≠ "_" /\ ∃d,P.underlying f.type=some d/\Vv d=true)\/
   ∃n e d f,P.underlying t=some (.array n e)/\P.underlying e=some d/\Vv d=true/\P.info? e=some f/\f.size=1/\a=(List.range n).map λi=>(d,i))
structure VX where
 size:Nat
 ZE:TypeDesc
 zero:Value
 bytes:Nat
 eqs:Option (List (TypeDesc×Nat))
def VX.agg (i:VX):Bool:=Uj i.ZE
abbrev ZR:=TypeId->Option VX
def Zv (P:Program) (T:ZR):Prop:=∀t i,T t=some i->(P.underlying t=some i.ZE/\Hw P t i.eqs)/\∃f,P.info? t=some f/\f.size=i.size/\f.zero=some i.zero/\f.bytes=i.bytes
def Vu (S:κ) (B:Z5) (H:Τ) (σ:Ξ) (K:Ψ->Ξ->Prop) (v:Value) (H':Τ):Prop:=
 ∃b B' σ' a,K a σ'/\Ext S B H b B' H'/\Holds b B' σ' H'/\Zm S b B B' σ σ'/\υ b B' σ' a v
def YS (P:Program) (s:Sem Value) (S:κ) (B:Z5) (H:Τ) (σ:Ξ) (r:YP):Prop:=
 ∀K:Ψ->Ξ->Prop,r.holds K->Φ P s H (Vu S B H σ K) (λ_ _=>False)
def Does (P:Program) (s:Sem Next) (S:κ) (B:Z5) (H:Τ) (σ:Ξ) (r:YP):Prop:=
 ∀K:Ψ->Ξ->Prop,r.holds K->Φ P s H (λa H'=>∃v,EM a=some v/\Vu S B H σ K v H') (λ_ _=>False)
section
variable {P:Program} {T:ZR} {S:κ} {B:Z5} {H:Τ} {σ:Ξ} {env:Β} {t:ζ}
theorem YS.next {s:Sem Value} {r:YP} (h:YS P s S B H σ r):Does P (do pure (.value (<-s))) S B H σ r:=λK a=>
 Φ.bind' (Φ.mono (λv G b=>Φ.pure' ⟨v,U,b⟩) (λ_ _ h=>h) _ (h K a))
theorem Vu.same {K:Ψ->Ξ->Prop} {a:Ψ} {v:Value} (b:Holds S B σ H) (c:K a σ) (d:υ S B σ a v):Vu S B H σ K v H:=⟨S,B,σ,a,c,.refl _ _ _,b,.refl _ _ _,d⟩
theorem YS.pure {a:Ψ} {v:Value} (b:Holds S B σ H) (c:υ S B σ a v):YS P (pure v) S B H σ (.ok a σ):=λK d=>
 Φ.pure' (.same b d c)
theorem YS.bad {s:Sem Value}:YS P s S B H σ .bad:=λK a=>a.elim
theorem YS.Y0 {s:Sem Value} {p:Prop} {r:YP} (h:p->YS P s S B H σ r):YS P s S B H σ (.Y0 p r):=λK a=>h a.1 K a.2
theorem Does.val {a:Ψ} {v:Value} (b:Holds S B σ H) (c:υ S B σ a v):Does P (pure (.value v)) S B H σ (.ok a σ):=λK d=>
 Φ.pure' ⟨v,U,.same b d c⟩
theorem Does.bad {s:Sem Next}:Does P s S B H σ .bad:=λK a=>a.elim
theorem Zv.size (b:Zv P T) {a:TypeId} {i:VX} (h:T a=some i) {G:Τ} {K:Nat->Τ->Prop} {E:Value->Τ->Prop} (c:K i.size G):Φ P (sizeOf a) G K E:=by
 obtain⟨_,f,d,e,_⟩:=b a i h;exact Φ.sizeOf d (by rw[e];exact c)
theorem Zv.ZE (b:Zv P T) {a:TypeId} {i:VX} (h:T a=some i) {G:Τ} {K:TypeDesc->Τ->Prop} {E:Value->Τ->Prop} (c:K i.ZE G):Φ P (underlying a) G K E:=
 Φ.underlying (b a i h).1.1 c
theorem Zv.agg (b:Zv P T) {a:TypeId} {i:VX} (h:T a=some i) {G:Τ} {K:Bool->Τ->Prop} {E:Value->Τ->Prop} (c:K i.agg G):Φ P (isAgg a) G K E:=
 Φ.isAgg (b a i h).1.1 c
theorem Zv.zero (b:Zv P T) {a:TypeId} {i:VX} (h:T a=some i) {G:Τ} {K:Value->Τ->Prop} {E:Value->Τ->Prop} (c:K i.zero G):Φ P (zeroValue a) G K E:=by
 obtain⟨_,f,d,_,e,_⟩:=b a i h;exact Φ.zeroValue d e c
theorem Zv.info (b:Zv P T) {a:TypeId} {i:VX} (h:T a=some i) {G:Τ} {K:TypeInfo->Τ->Prop} {E:Value->Τ->Prop} (c:∀f:TypeInfo,f.bytes=i.bytes->K f G):Φ P (typeInfo a) G K E:=by
 obtain⟨_,f,d,_,_,e⟩:=b a i h;exact Φ.typeInfo d (c f e)
end
inductive Y8 where
 | ok (a:Ψ)
 | Y0 (p:Prop) (r:Y8)
 | bad
def Y8.Yo (σ:Ξ):Y8->YP
 | .ok a=>.ok a σ
 | .Y0 p r=>.Y0 p (r.Yo σ)
 | .bad=>.bad
section
variable {P:Program} {T:ZR} {S:κ} {B:Z5} {H:Τ} {σ:Ξ} {env:Β} {t:ζ}
def XT (k:IntKind) (a b:Int):Int:=k.wrap (BitVec.ofInt k.bits a&&&BitVec.ofInt k.bits b).toNat
def QY (k:IntKind) (a b:Int):Int:=k.wrap (BitVec.ofInt k.bits a|||BitVec.ofInt k.bits b).toNat
def LS (k:IntKind) (a b:Int):Int:=k.wrap (BitVec.ofInt k.bits a^^^BitVec.ofInt k.bits b).toNat
def Uu (k:IntKind) (a b:Int):Int:=k.wrap (BitVec.ofInt k.bits a&&&~~~BitVec.ofInt k.bits b).toNat
def LR (a b:ByteArray):Bool:=Op.bytesLess a.toList b.toList
def Vl (a b:ByteArray):Bool:=Op.bytesLess a.toList b.toList||a.toList==b.toList
def P8 (d:BinOp) (x y:Value):Y8:=
 match d,x,y with
 | .shl,.int k a,.int _ b=>.Y0 (0<=b) (.ok (.z (.int k (k.wrap (a*2 ^ (min b.toNat k.bits))))))
 | .shr,.int k a,.int _ b=>.Y0 (0<=b) (.ok (.z (.int k (a.fdiv (2 ^ (min b.toNat k.bits))))))
 | .add,.int k a,.int c b=>if k=c then .ok (.z (.int k (k.wrap (a+b)))) else .bad
 | .sub,.int k a,.int c b=>if k=c then .ok (.z (.int k (k.wrap (a-b)))) else .bad
 | .mul,.int k a,.int c b=>if k=c then .ok (.z (.int k (k.wrap (a*b)))) else .bad
 | .quo,.int k a,.int c b=>if k=c then .Y0 (b≠0) (.ok (.z (.int k (k.wrap (a.tdiv b))))) else .bad
 | .rem,.int k a,.int c b=>if k=c then .Y0 (b≠0) (.ok (.z (.int k (a.tmod b)))) else .bad
 | .and,.int k a,.int c b=>if k=c then .ok (.z (.int k (XT k a b))) else .bad
 | .or,.int k a,.int c b=>if k=c then .ok (.z (.int k (QY k a b))) else .bad
 | .xor,.int k a,.int c b=>if k=c then .ok (.z (.int k (LS k a b))) else .bad
 | .andNot,.int k a,.int c b=>if k=c then .ok (.z (.int k (Uu k a b))) else .bad
 | .eql,.int k a,.int c b=>if k=c then .ok (.z (.bool (a==b))) else .bad
 | .neq,.int k a,.int c b=>if k=c then .ok (.z (.bool (a != b))) else .bad
 | .lss,.int k a,.int c b=>if k=c then .ok (.z (.bool (decide (a<b)))) else .bad
 | .leq,.int k a,.int c b=>if k=c then .ok (.z (.bool (decide (a<=b)))) else .bad
 | .gtr,.int k a,.int c b=>if k=c then .ok (.z (.bool (decide (a > b)))) else .bad
 | .geq,.int k a,.int c b=>if k=c then .ok (.z (.bool (decide (a>=b)))) else .bad
 | .add,.string a,.string b=>.Y0 (((a.size+b.size:Nat):Int)<=i64.max) (.ok (.z (.string (a++b))))
 | .eql,.string a,.string b=>.ok (.z (.bool (a.toList==b.toList)))
 | .neq,.string a,.string b=>.ok (.z (.bool !(a.toList==b.toList)))
 | .lss,.string a,.string b=>.ok (.z (.bool (LR a b)))
 | .leq,.string a,.string b=>.ok (.z (.bool (Vl a b)))
 | .gtr,.string a,.string b=>.ok (.z (.bool (!(Vl a b))))
 | .geq,.string a,.string b=>.ok (.z (.bool (!(LR a b))))
 | _,_,_=>.bad
theorem zC (a:Holds S B σ H) (c:BinOp) (d:TypeId) (p q:Operand) (x y:Value):YS P (do eqGuard c d p q x y;binOp c d x y) S B H σ ((P8 c x y).Yo σ):=by
 unfold P8;split
 case h_25=>exact .bad
 case h_1=>
  refine .Y0 λh=>?_;have b:¬(_:Int)<0:=OE.2 h;simp only[eqGuard,binOp,Op.shift,b,if_false];exact .pure a (.z _)
 case h_2=>
  refine .Y0 λh=>?_;have b:¬(_:Int)<0:=OE.2 h;simp only[eqGuard,binOp,Op.shift,b,if_false];exact .pure a (.z _)
 case h_6=>
  split
  .rename_i e;subst e;exact .Y0 λh=>by simp only[eqGuard,binOp,Op.intDiv,h,if_false,ne_eq,not_true_eq_false];exact .pure a (.z _)
  .exact .bad
 case h_7=>
  split
  .rename_i e;subst e;exact .Y0 λh=>by simp only[eqGuard,binOp,Op.intDiv,h,if_false,ne_eq,not_true_eq_false];exact .pure a (.z _)
  .exact .bad
 case h_18=>
  refine .Y0 λh=>?_;have b:¬((_:Int) > i64.max):=OE.2 h;simp only[eqGuard,binOp,Op.stringOp,b,if_false];exact .pure a (.z _)
 all_goals first
  | exact .pure a (.z _)
  |(split
    .rename_i e;subst e;simp only[eqGuard,binOp,Op.intArith,Op.intBits,Op.intCmp,ne_eq,not_true_eq_false,if_false];exact .pure a (.z _)
    .exact .bad)
def Nm (a:UnOp):Ψ->Y8
 | .z (.bool b)=>match a with|.not=>.ok (.z (.bool !b))|_=>.bad
 | .z (.int k n)=>match a with|.neg=>.ok (.z (.int k (k.wrap (0-n))))|_=>.bad
 | _=>.bad
theorem zB (b:Holds S B σ H) (c:UnOp) {a:Ψ} {v:Value} (d:υ S B σ a v):YS P (Op.unary c v) S B H σ ((Nm c a).Yo σ):=by
 unfold Nm;split
 .cases d;split
  .exact .pure b (.z _)
  .exact .bad
 .cases d;split
  .exact .pure b (.z _)
  .exact .bad
 .exact .bad
def Ka (i:Nat):Ψ->Y8
 | .ZY l=>match l[i]? with|some a=>.ok a|none=>.bad
 | .z (.tuple vs)=>match vs[i]? with|some v=>.ok (Wc v)|none=>.bad
 | _=>.bad
theorem zA (b:Holds S B σ H) (i:Nat) {a:Ψ} {v:Value} (c:υ S B σ a v):YS P (Instr.extract v i) S B H σ ((Ka i a).Yo σ):=by
 unfold Ka;split
 .rename_i l;cases c with
  | ZY vs e f=>
   cases d:l[i]? with
   | none=>exact .bad
   | some a=>
    have g:i<vs.size:=by rw[<-e];exact(Zo.1 d).1
    have hv:vs[i]?=some vs[i]:=Xu g;simp only[Instr.extract,hv];exact .pure b (f i a _ d hv)
 .rename_i vs;cases c;cases hv:vs[i]? with
  | none=>exact .bad
  | some v=>simp only[Instr.extract,hv];exact .pure b (RD v)
 .exact .bad
def J' (T:ZR) (b:TypeId) (a:Ψ):Y8:=match T b with
 | some i=>match i.ZE with|.interface _=>.bad|_=>.ok (.W6 b a)
 | none=>.bad
theorem zz (d:Zv P T) (e:Holds S B σ H) (b:TypeId) {a:Ψ} {v:Value} (f:υ S B σ a v):YS P (Instr.makeInterface b v) S B H σ ((J' T b a).Yo σ):=by
 unfold J';cases hi:T b with
 | none=>exact .bad
 | some i=>
  intro K c;unfold Instr.makeInterface;refine Φ.bind' (d.ZE hi ?_);cases g:i.ZE<;>simp only[g,Y8.Yo,YP.holds] at c<;>first|exact c.elim|exact Φ.pure' (.same e c (.W6 v f))
def Ol (T:ZR) (c:TypeId) (b:Bool) (a:Ψ):Y8:=match T c with
 | some i=>match i.ZE with
  | .interface _=>.bad
  | _=>match a with
   | .W6 t x=>if t=c then .ok (if b then .ZY [x,.z (.bool true)] else x) else if b then .ok (.ZY [Wc i.zero,.z (.bool false)]) else .bad
   | .z .nilIface=>if b then .ok (.ZY [Wc i.zero,.z (.bool false)]) else .bad
   | _=>.bad
 | none=>.bad
theorem Nl {a b:Ψ} {v w:Value} (h:υ S B σ a v) (k:υ S B σ b w):υ S B σ (.ZY [a,b]) (.tuple #[v,w]):=by
 refine .ZY _ U λi e f c d=>?_
 match i with
 | 0=>simp at c d;subst c;subst d;exact h
 | 1=>simp at c d;subst c;subst d;exact k
 | i+2=>simp at c
theorem zy (f:Zv P T) (g:Holds S B σ H) (n h:TypeId) (j:Bool) {a:Ψ} {v:Value} (l:υ S B σ a v):YS P (Instr.typeAssert v n h j) S B H σ ((Ol T h j a).Yo σ):=by
 unfold Ol;cases hi:T h with
 | none=>exact .bad
 | some i=>
  simp only;by_cases b:∃w,i.ZE=.interface w
  .obtain⟨w,o⟩:=b;rw[o];exact .bad
  have e:∀r:Y8,(match i.ZE with|.interface _=>Y8.bad|_=>r)=r:=λr=>by
   cases p:i.ZE<;>first|rfl|exact absurd ⟨_,p⟩ b
  rw[e];clear e;split
  .rename_i t x;cases l with
   | W6 w m=>
    split
    .rename_i e;subst e;intro K c;unfold Instr.typeAssert;refine Φ.bind' (f.ZE hi ?_);generalize i.ZE=d at b ⊢;cases d<;>first
      | exact absurd ⟨_,rfl⟩ b
      |(simp only[if_true]
        cases j
        .exact Φ.pure' (.same g c m)
        .exact Φ.pure' (.same g c (Nl m (.z _))))
    .rename_i s;split
     .rename_i k;subst k;intro K c;unfold Instr.typeAssert;refine Φ.bind' (f.ZE hi ?_);generalize i.ZE=d at b ⊢;cases d<;>first
       | exact absurd ⟨_,rfl⟩ b
       |(simp only[s,if_false,if_true]
         exact Φ.bind' (f.zero hi (Φ.pure' (.same g c (Nl (RD _) (.z _))))))
     .exact .bad
  .cases l;split
   .rename_i k;subst k;intro K c;unfold Instr.typeAssert;refine Φ.bind' (f.ZE hi ?_);generalize i.ZE=d at b ⊢;cases d<;>first
     | exact absurd ⟨_,rfl⟩ b
     |(simp only[if_true]
       exact Φ.bind' (f.zero hi (Φ.pure' (.same g c (Nl (RD _) (.z _))))))
   .exact .bad
  .exact .bad
end
section
variable {P:Program} {T:ZR} {S:κ} {B:Z5} {H:Τ} {σ:Ξ}
def QX (i:VX) (l:μ):Y8:=
 if i.agg then(if i.size<=l.length then .ok (.ZW (l.take i.size)) else .bad)
 else match l with
  | a::_=>.ok a
  | []=>.bad
def J9 (T:ZR) (a:TypeId):Ψ->Y8
 | .ξ b=>match T a with|some i=>QX i b|none=>.bad
 | _=>.bad
def SD (T:ZR) (a:TypeId) (σ:Ξ):Ψ->YP
 | .Δ id n i j=>match T a,σ[id]? with
  | some b,some (.cells _ _ l)=>if l.length=n then match l[i]? with
   | some e=>(QX b (e.cells.drop j)).Yo σ
   | none=>.bad else .bad
  | _,_=>.bad
 | _=>.bad
theorem J8 (f:Zv P T) (g:Holds S B σ H) {h:TypeId} {i:VX} (hi:T h=some i) {b o:Nat} {l:μ} (w:Nat->Value) (k:∀(j:Nat) (a:Ψ),l[j]?=some a->∃p,H.η b (o+j)=some (w j,p)) (m:∀(j:Nat) (a:Ψ),l[j]?=some a->υ S B σ a (w j)) :
  YS P (loadVar h ⟨b,o,none⟩) S B H σ ((QX i l).Yo σ):=by
 intro K c;unfold QX at c;unfold loadVar;refine Φ.bind' (f.agg hi ?_);cases n:i.agg with
 | true=>
  rw[n] at c;simp only[if_true] at c ⊢;split at c
  .rename_i t;refine Φ.bind' (f.size hi (Φ.bind' (Φ.loadCells w U (λj d=>?_) ?_)))
   .have:l[j]?=some l[j]:=Z7 J;exact k j _ this
   .refine Φ.pure' (.same g c (.ZW _ (by simp;omega) λj a v e r=>?_));have d:j<i.size:=by have:=(Zo.1 e).1;simp at this;omega
    rw[S' d] at e;simp[d] at r;subst r;exact m j a e
  .exact c.elim
 | false=>
  rw[n] at c;simp only[WX,if_false] at c ⊢;cases l with
  | nil=>exact c.elim
  | cons a l=>
   obtain⟨p,s⟩:=k 0 a U;exact⟨U,U,w 0,p,s,Vu.same g c (m 0 a U)⟩
theorem zx (e:Zv P T) (d:Holds S B σ H) {c:TypeId} {a:Ψ} {v:Value} (f:υ S B σ a v):YS P (Instr.loadAt c v) S B H σ ((J9 T c a).Yo σ):=by
 unfold J9;split
 .rename_i l;cases hi:T c with
  | none=>exact .bad
  | some i=>
   cases f with
   | ξ b o w g h=>exact J8 e d hi w (λj a k=>d.Yy _ _ _ (g j a k)) h
 .exact .bad
theorem EL (f:Holds S B σ H) {id k i b N:Nat} {t:TypeId} {l:μ} {e:Ψ} (g:σ[id]?=some (.cells t k l)) (h:B[id]?=some (some (b,N))) (c:l[i]?=some e) :
  e.cells.length=k/\∃w:Nat->Value,∀(j:Nat) (a:Ψ),e.cells[j]?=some a->H.η b (i*k+j)=some (w j,true)/\υ S B σ a (w j)/\One (w j):=by
 obtain⟨_,_,_,w,d⟩:=f.row id _ _ g h;exact⟨(d i e c).1,w i,(d i e c).2⟩
theorem zw (o:Zv P T) (f:Holds S B σ H) {g:TypeId} {a:Ψ} {v:Value} (p:υ S B σ a v):YS P (Instr.loadAt g v) S B H σ (SD T g σ a):=by
 unfold SD;split
 .rename_i id n i j;split
  .rename_i u t k l hi d;split
   .rename_i y;cases r:l[i]? with
    | none=>exact .bad
    | some e=>
     cases p with
     | Δ b h s=>
      rw[d] at b;cases b;obtain⟨A,w,m⟩:=EL f d s r;refine J8 o f hi (λx=>w (j+x)) (λx a c=>⟨true,?_⟩) (λx a c=>?_)
      .rw[TI] at c;rw[Ub];exact(m _ a c).1
      .rw[TI] at c;exact(m _ a c).2.1
     | U8 v b h=>rw[d] at b;cases b;simp only[Row.Wo] at h;omega
   .exact .bad
  .exact .bad
 .exact .bad
def W5 (T:ZR) (a:TypeId) (f:Nat):Option (Nat×TypeId):=match T a with
 | some i=>match i.ZE with
  | .struct b=>match b[f]? with
   | some x=>match T x.type with
    | some c=>if c.size=0 then none else some (x.offset,x.type)
    | none=>none
   | none=>none
  | _=>none
 | none=>none
def J7 (T:ZR) (a:TypeId) (f:Nat):Ψ->Y8
 | .ξ c=>match W5 T a f with|some (o,_)=>.ok (.ξ (c.drop o))|none=>.bad
 | .z (.pointer (some ⟨b,o',none⟩))=>match W5 T a f with|some (o,_)=>.ok (.z (.pointer (some ⟨b,o'+o,none⟩)))|none=>.bad
 | _=>.bad
def SC (T:ZR) (a:TypeId) (f:Nat) (σ:Ξ):Ψ->YP
 | .Δ id n i j=>match W5 T a f,σ[id]? with
  | some (o,_),some (.cells _ _ l)=>if l.length=n then .ok (.Δ id n i (j+o)) σ else .bad
  | _,_=>.bad
 | _=>.bad
theorem Pk (b o n:Nat):(⟨b,o,none⟩:Addr).add n=⟨b,o+n,none⟩:=by
 unfold Addr.add;split
 .simp_all
 .rfl
theorem EK {d:μ} {b o:Nat} (h:υ S B σ (.ξ d) (.pointer (some ⟨b,o,none⟩))) (n:Nat):υ S B σ (.ξ (d.drop n)) (.pointer (some ⟨b,o+n,none⟩)):=by
 cases h with
 | ξ b o w e f=>
  refine .ξ b (o+n) (λj=>w (n+j)) (λj a c=>?_) (λj a c=>?_)
  .rw[TI] at c;rw[Ub];exact e _ a c
  .rw[TI] at c;exact f _ a c
theorem Hv (c:Zv P T) {d:TypeId} {f o:Nat} {e:TypeId} (a:W5 T d f=some (o,e)) {b o':Nat} {K:Value->Τ->Prop} {E:Value->Τ->Prop} (h:K (.pointer (some ⟨b,o'+o,none⟩)) H) :
  Φ P (Instr.fieldAt d (.pointer (some ⟨b,o',none⟩)) f) H K E:=by
 unfold W5 at a;split at a<;>try cases a
 rename_i i hi;split at a<;>try cases a
 rename_i m g;split at a<;>try cases a
 rename_i x j;split at a<;>try cases a
 rename_i n k;split at a<;>try cases a
 rename_i l;unfold Instr.fieldAt;refine Φ.bind' (c.ZE hi ?_);rw[g];simp only[j];refine Φ.bind' ?_;unfold fieldPlace;refine Φ.bind' (Φ.bind' (c.size k ?_));rw[if_neg l,Pk];exact Φ.pure' (Φ.pure' h)
theorem zv (g:Zv P T) (h:Holds S B σ H) {c:TypeId} {f:Nat} {a:Ψ} {v:Value} (i:υ S B σ a v):YS P (Instr.fieldAt c v f) S B H σ ((J7 T c f a).Yo σ):=by
 unfold J7;split
 .rename_i m;cases d:W5 T c f with
  | none=>exact .bad
  | some x=>
   obtain⟨o,j⟩:=x;cases i with
   | ξ b o' w k l=>exact λK e=>Hv g d (Vu.same h e (EK (.ξ b o' w k l) o))
 .rename_i b o';cases d:W5 T c f with
  | none=>exact .bad
  | some x=>
   obtain⟨o,j⟩:=x;cases i;exact λK e=>Hv g d (Vu.same h e (.z _))
 .exact .bad
theorem zu (g:Zv P T) (h:Holds S B σ H) {d:TypeId} {f:Nat} {a:Ψ} {v:Value} (m:υ S B σ a v):YS P (Instr.fieldAt d v f) S B H σ (SC T d f σ a):=by
 unfold SC;split
 .rename_i id n i j;split
  .rename_i o w t k l p c;split
   .rename_i r;cases m with
    | Δ b e s=>
     rw[c] at b;cases b;refine λK u=>Hv g p (Vu.same h u ?_);rw[Ub];exact .Δ c r s
    | U8 v b e=>rw[c] at b;cases b;simp only[Row.Wo] at e;omega
   .exact .bad
  .exact .bad
 .exact .bad
theorem QW {ex:Bool} {k:Nat} {l:μ} {v:Value} (h:υ S B σ (.sl ex k l) v):∃base cap,v=.slice base l.length cap/\l.length<=cap/\(ex=true->cap=l.length)/\(l≠[]->∃(b o:Nat) (w:Nat->Nat->Value),base=some ⟨b,o,none⟩/\(∀(i:Nat) (e:Ψ),l[i]?=some e->e.cells.length=k)/\
  (∀(i:Nat) (e:Ψ),l[i]?=some e->∀(j:Nat) (c:Ψ),e.cells[j]?=some c->S b (o+i*k+j)=some (w i j))/\(∀(i:Nat) (e:Ψ),l[i]?=some e->∀(j:Nat) (c:Ψ),e.cells[j]?=some c->υ S B σ c (w i j))):=by
 cases h with
 | VY base cap h=>exact⟨base,cap,rfl,Α _,h,λx=>absurd rfl x⟩
 | sl b o cap w a d f g m=>exact⟨_,cap,rfl,d,a,λ_=>⟨b,o,w,rfl,f,g,m⟩⟩
theorem zt {ex:Bool} {k:Nat} {l:μ} {base:Option Addr} {len cap i:Nat} {e:Ψ} (h:υ S B σ (.sl ex k l) (.slice base len cap)) (a:l[i]?=some e):∃b o,base=some ⟨b,o,none⟩/\υ S B σ (.ξ e.cells) (.pointer (some ⟨b,o+i*k,none⟩)):=by
 obtain⟨g,j,hv,_,_,c⟩:=QW h;cases hv;obtain⟨b,o,w,rfl,m,d,f⟩:=c (by rintro rfl;simp at a);exact⟨b,o,U,.ξ b (o+i*k) (w i) (d i e a) (f i e a)⟩
def Wn (T:ZR) (b:TypeId):Option (TypeId×Nat×Option Nat):=match T b with
 | some i=>match i.ZE with
  | .slice e=>match T e with|some a=>some (e,a.size,none)|none=>none
  | .array n e=>match T e with|some a=>some (e,a.size,some n)|none=>none
  | _=>none
 | none=>none
theorem J6 {b e:TypeId} {k:Nat} (h:Wn T b=some (e,k,none)):∃i a,T b=some i/\i.ZE=.slice e/\T e=some a/\a.size=k:=by
 unfold Wn at h;split at h
 .rename_i i hi;split at h
  .rename_i f c;split at h
   .rename_i a d;cases h;exact⟨i,a,hi,c,d,U⟩
   .cases h
  .split at h<;>cases h
  .cases h
 .cases h
theorem zs {b e:TypeId} {k n:Nat} (h:Wn T b=some (e,k,some n)):∃i a,T b=some i/\i.ZE=.array n e/\T e=some a/\a.size=k:=by
 unfold Wn at h;split at h
 .rename_i i hi;split at h
  .split at h<;>cases h
  .rename_i f g c;split at h
   .rename_i a d;cases h;exact⟨i,a,hi,c,d,U⟩
   .cases h
  .cases h
 .cases h
def J5 (T:ZR) (c:TypeId) (a d:Ψ):Y8:=
 match Wn T c,d with
 | some (_,b,none),.z (.int _ n)=>match a with
  | .sl _ k l=>if k=b then .Y0 (0<=n/\n<l.length) (.ok (.ξ (l.getD n.toNat .Ze).cells)) else .bad
  | _=>.bad
 | some (_,b,some m),.z (.int _ n)=>match a with
  | .ξ e=>.Y0 (0<=n/\n<m) (.ok (.ξ (e.drop (n.toNat*b))))
  | _=>.bad
 | _,_=>.bad
def SB (T:ZR) (c:TypeId) (σ:Ξ) (a d:Ψ):YP:=
 match Wn T c,d with
 | some (_,b,none),.z (.int _ n)=>match a with
  | .ms id m i len=>match σ[id]? with
   | some (.cells _ k l)=>if k=b/\l.length=m then .Y0 (0<=n/\n<len) (.ok (.Δ id m (i+n.toNat) 0) σ) else .bad
   | _=>.bad
  | _=>.bad
 | some (_,b,some len),.z (.int _ n)=>match a with
  | .Δ id m i j=>match σ[id]? with
   | some (.cells _ _ l)=>if l.length=m then .Y0 (0<=n/\n<len) (.ok (.Δ id m i (j+n.toNat*b)) σ) else .bad
   | _=>.bad
  | _=>.bad
 | _,_=>.bad
theorem EJ (a:Zv P T) {c e:TypeId} {k:Nat} (f:Wn T c=some (e,k,none)) {b o len cap:Nat} {kk:IntKind} {n:Int} (g:0<=n/\n<len) {K:Value->Τ->Prop} {E:Value->Τ->Prop}
  (h:K (.pointer (some ⟨b,o+n.toNat*k,none⟩)) H):Φ P (Instr.indexAt c (.slice (some ⟨b,o,none⟩) len cap) (.int kk n)) H K E:=by
 obtain⟨i,l,hi,d,j,rfl⟩:=J6 f;unfold Instr.indexAt;refine Φ.bind' ?_;refine Φ.bind' (a.ZE hi ?_);rw[d];refine Φ.bind' (Φ.pure' ?_);refine Φ.bind' (a.ZE hi ?_);rw[d];simp only[g,and_self,if_true];refine Φ.bind' (a.size j ?_);rw[Pk];exact h
theorem EI (a:Zv P T) {c e:TypeId} {k m:Nat} (f:Wn T c=some (e,k,some m)) {b o:Nat} {kk:IntKind} {n:Int} (g:0<=n/\n<m) {K:Value->Τ->Prop} {E:Value->Τ->Prop}
  (h:K (.pointer (some ⟨b,o+n.toNat*k,none⟩)) H):Φ P (Instr.indexAt c (.pointer (some ⟨b,o,none⟩)) (.int kk n)) H K E:=by
 obtain⟨i,l,hi,d,j,rfl⟩:=zs f;unfold Instr.indexAt;refine Φ.bind' ?_;refine Φ.bind' (a.ZE hi ?_);rw[d];refine Φ.bind' (Φ.bind' (Φ.pure' ?_));refine Φ.bind' (a.ZE hi ?_);rw[d];simp only[g,and_self,if_true];refine Φ.bind' (a.size j ?_);rw[Pk];exact h
theorem zr (h:Zv P T) (i:Holds S B σ H) {j:TypeId} {a p:Ψ} {v w:Value} (c:υ S B σ a v) (r:υ S B σ p w):YS P (Instr.indexAt j v w) S B H σ ((J5 T j a p).Yo σ):=by
 unfold J5;split
 .rename_i e t kk n d;cases r;split
  .rename_i ex k l;split
   .rename_i u;subst u;refine .Y0 λf=>?_;obtain⟨base,cap,rfl,_⟩:=QW c;have x:n.toNat<l.length:=J;have s:l[n.toNat]?=some l[n.toNat]:=Z7 x;obtain⟨b,o,rfl,y⟩:=zt c s;refine λK g=>EJ h d f (Vu.same i g ?_);rw[WB,s];exact y
   .exact .bad
  .exact .bad
 .rename_i e t m kk n d;cases r;split
  .rename_i D;refine .Y0 λf=>?_;cases c with
   | ξ b o w A C=>exact λK g=>EI h d f (Vu.same i g (EK (.ξ b o w A C) _))
  .exact .bad
 .exact .bad
theorem zq (u:Zv P T) (x:Holds S B σ H) {y:TypeId} {a A:Ψ} {v w:Value} (C:υ S B σ a v) (D:υ S B σ A w):YS P (Instr.indexAt y v w) S B H σ (SB T y σ a A):=by
 unfold SB;split
 .rename_i e E kk n g;cases D;split
  .rename_i id m i len;split
   .rename_i t k l d;split
    .rename_i F;obtain⟨rfl,h⟩:=F;refine .Y0 λo=>?_;cases C with
     | ms cap c f p I J r=>
      rw[d] at c;cases c;rcases r with r|⟨b,N,rfl,rfl,r⟩
      .omega
      .refine λK s=>EJ u g o (Vu.same x s ?_);have:i*k+n.toNat*k=(i+n.toNat)*k+0:=by rw[Wg];rfl
       rw[this];exact .Δ d h p
     | Vm v c f=>rw[d] at c;cases c;simp only[Row.Wo] at f;omega
    .exact .bad
   .exact .bad
  .exact .bad
 .rename_i e E len kk n g;cases D;split
  .rename_i id m i j;split
   .rename_i t k l d;split
    .rename_i h;refine .Y0 λo=>?_;cases C with
     | Δ c f p=>
      rw[d] at c;cases c;refine λK s=>EI u g o (Vu.same x s ?_);rw[Ub];exact .Δ d h p
     | U8 v c f=>rw[d] at c;cases c;simp only[Row.Wo] at f;omega
    .exact .bad
   .exact .bad
  .exact .bad
 .exact .bad
end
def Ψ.Yr (σ:Ξ):Ψ->Bool
 | .z v=>match v with|.agg _|.tuple _=>false|_=>true
 | .ZW _|.ZY _|.Ze=>false
 | .Δ id n _ _|.ms id n _ _=>match σ[id]? with|some (.cells _ _ l)=>decide (l.length<=n)|_=>false
 | .mp id=>match σ[id]? with|some (.map _)=>true|_=>false
 | .it id=>match σ[id]? with|some (.iter ..)=>true|_=>false
 | _=>true
def Ψ.P7:Ψ->Nat->μ->Ψ
 | .ZW l,j,cs=>.ZW (l.take j++cs++l.drop (j+cs.length))
 | _,0,[c]=>c
 | e,_,_=>e
theorem Ψ.Hu {σ:Ξ} {a:Ψ} (h:a.Yr σ=true):a.cells=[a]:=by
 cases a<;>first|rfl|cases h
theorem Ψ.EH {σ:Ξ} {e:Ψ} {j:Nat} {cs:μ} (b:j+cs.length<=e.cells.length) (f:∀c∈cs,Ψ.Yr σ c=true):(e.P7 j cs).cells=e.cells.take j++cs++e.cells.drop (j+cs.length):=by
 by_cases a:∃l,e=.ZW l
 .obtain⟨l,rfl⟩:=a;rfl
 .have d:e.cells=[e]:=by cases e<;>first|rfl|exact absurd ⟨_,rfl⟩ a
  rw[d] at b ⊢;cases cs with
  | nil=>
   have:e.P7 j []=e:=by cases e<;>cases j<;>first|rfl|exact absurd ⟨_,rfl⟩ a
   rw[this,d]
   match j with
   | 0=>rfl
   | j+1=>simp
  | cons c cs=>
   simp at b;have g:j=0:=J;have h:cs=[]:=by cases cs<;>simp at b ⊢;omega
   subst g;subst h;have:e.P7 0 [c]=c:=by cases e<;>first|rfl|exact absurd ⟨_,rfl⟩ a
   rw[this,Ψ.Hu (f c Ω)];simp
section
variable {P:Program} {T:ZR} {S:κ} {B:Z5} {H:Τ} {σ:Ξ}
theorem υ.LQ {a:Ψ} {v:Value} (h:υ S B σ a v) (b:a.Yr σ=true):One v:=by
 cases h with
 | z v=>cases v<;>first|trivial|cases b
 | U8 v c d=>
  simp only[Ψ.Yr,c] at b;split at b
  .rename_i e;cases e;simp only[Row.Wo] at d;simp at b;omega
  .cases b
 | Vm v c d=>
  simp only[Ψ.Yr,c] at b;split at b
  .rename_i e;cases e;simp only[Row.Wo] at d;simp at b;omega
  .cases b
 | T4 v c=>simp[Ψ.Yr,c] at b
 | SZ v c=>simp[Ψ.Yr,c] at b
 | ZW|ZY|Ze=>cases b
 | _=>trivial
theorem One.cells {v:Value} (h:One v):v.cells=#[v]:=by cases v<;>first|rfl|exact h.elim
theorem υ.cells {a:Ψ} {v:Value} (h:υ S B σ a v) (d:a.cells.all (Ψ.Yr σ)=true):v.cells.size=a.cells.length/\∀(j:Nat) (c:Ψ),a.cells[j]?=some c->∃x,v.cells[j]?=some x/\υ S B σ c x/\One x:=by
 have k:a.cells=[a]->v.cells.size=a.cells.length/\∀(j:Nat) (c:Ψ),a.cells[j]?=some c->∃x,v.cells[j]?=some x/\υ S B σ c x/\One x:=λe=>by
  rw[e] at d ⊢;simp at d;have f:=h.LQ d;rw[f.cells];refine⟨U,λj c b=>?_⟩
  match j with
  | 0=>simp at b;subst b;exact⟨v,rfl,h,f⟩
  | j+1=>simp at b
 cases h with
 | ZW vs g l=>
  refine⟨g.symm,λj c b=>?_⟩;have m:j<vs.size:=by rw[<-g];exact(Zo.1 b).1
  have hv:vs[j]?=some vs[j]:=Xu m
  have i:=l j c _ b hv;exact⟨_,hv,i,i.LQ (V5.1 d c (Y1 b))⟩
 | _=>exact k rfl
theorem J4 (a:Holds S B σ H) {id k:Nat} {t:TypeId} {l:μ} (h:σ[id]?=some (.cells t k l)):∀(j:Nat) left b,σ[j]?≠some (Row.iter id left b):=λj left b c=>by
 obtain⟨bo,e⟩:=EO a c;obtain⟨_,_,_,_,_,_,_,_,_,⟨es,d⟩,_⟩:=a.row j _ bo c e;rw[h] at d;cases d
theorem EG {i a k b lo hi:Nat} (c:b<k) (d:hi<=k) (h:a≠i):¬(i*k+lo<=a*k+b/\a*k+b<i*k+hi):=by
 rintro⟨e,f⟩;rcases Nat.lt_or_gt_of_ne h with h|h
 .have:(a+1)*k<=i*k:=Sk k h;rw[Wg] at this;omega
 .have:(i+1)*k<=a*k:=Sk k h;rw[Wg] at this;omega
def Nk (P:Program) (s:Sem Unit) (S:κ) (B:Z5) (H:Τ) (σ:Ξ) (r:YP):Prop:=
 ∀K:Ψ->Ξ->Prop,r.holds K->Φ P s H (λ_ H'=>Vu S B H σ K undef H') (λ_ _=>False)
theorem Nk.next {s:Sem Unit} {r:YP} (h:Nk P s S B H σ r):Does P (do s;pure .skip) S B H σ r:=λK a=>
 Φ.bind' (Φ.mono (λ_ G b=>Φ.pure' ⟨undef,U,b⟩) (λ_ _ h=>h) _ (h K a))
theorem Nk.bad {s:Sem Unit}:Nk P s S B H σ .bad:=λK a=>a.elim
theorem zp (C:Holds S B σ H) {id k i j b N:Nat} {t:TypeId} {l:μ} {e a:Ψ} {v:Value} (D:σ[id]?=some (.cells t k l)) (O:B[id]?=some (some (b,N))) (E:l[i]?=some e) (aa:υ S B σ a v) (P:a.cells.all (Ψ.Yr σ)=true)
  (Q:j+a.cells.length<=k) :
  (∀x∈v.cells.toList,One x)/\(∀x,x<a.cells.length->H.owns b (i*k+j+x))/\H.row b=some (t,N)/\
  (let σ':=σ.set id (.cells t k (l.set i (e.P7 j a.cells)));Holds S (B.set id (some (b,N))) σ' (H.Wd b (i*k+j) v.cells.toList)/\Ext S B H S (B.set id (some (b,N))) (H.Wd b (i*k+j) v.cells.toList)/\Zm S S B (B.set id (some (b,N))) σ σ'):=by
 obtain⟨ab,R⟩:=aa.cells P;have r:v.cells.toList.length=a.cells.length:=by simpa using ab
 obtain⟨T,V,W,w,F⟩:=C.row id _ _ D O;have X:i<l.length:=(Zo.1 E).1;have ad:(i+1)*k<=N:=XQ (Sk k X) V;have aq:i*k+k<=N:=by rw[Wg] at ad;omega
 have ae:=(F i e E).1
 have af:∀c∈a.cells,Ψ.Yr σ c=true:=V5.1 P
 have ag:=Ψ.EH (σ:=σ) (e:=e) (j:=j) (cs:=a.cells) (by rw[ae];exact Q) af;refine⟨λx Y=>?_,λx Y=>?_,T,?_⟩
 .obtain⟨y,I⟩:=Sl Y;have ah:y<a.cells.length:=by rw[<-r];exact(Zo.1 I).1
  obtain⟨ar,g,_,m⟩:=R y _ (Z7 ah);rw[Wh] at I;rw[I] at g;cases g;exact m
 .obtain⟨u,ai⟩:=W (i*k+j+x) J;exact⟨u,ai⟩
 .refine C.Nn (r':=.cells t k (l.set i (e.P7 j a.cells))) (bo':=some (b,N)) D trivial O (.inl ⟨_,U,Ω,U⟩) (λZ aj n=>.inl ⟨aj,n⟩) (λZ g _=>?_) Τ.Hx (J4 C D) (λK=>?_)
  .have ak:Z≠b:=λn=>by subst n;exact g N U
   exact⟨λo=>by simp[Τ.Wd,ak],U,U⟩
  .refine⟨T,by simpa using V,λo al=>?_,λh d=>if h=i/\j<=d/\d<j+a.cells.length then(v.cells[d-j]?).getD undef else w h d,λh n s=>?_⟩
   .simp only[Τ.Wd];split
    .exact⟨_,U⟩
    .exact W o al
   .by_cases A:h=i
    .subst A;rw[V0 X] at s;cases s;rw[ag];refine⟨by simp;omega,λd c f=>?_⟩;by_cases L:j<=d/\d<j+a.cells.length
     .have M:a.cells[d-j]?=some c:=by
       rw[TH,Xj (by simp;omega)] at f;simp only[Qm] at f;rw[Yz J] at f;have:d-min j e.cells.length=d-j:=J;rw[this] at f;exact f
      obtain⟨x,g,m,p⟩:=R _ _ M;simp only[L,and_self,if_true,g,Option.getD_some];refine⟨?_,m.later K,p⟩;simp only[Τ.Wd,r];rw[if_pos ⟨trivial,J,J⟩];have:h*k+d-(h*k+j)=d-j:=J;rw[this,Wh,g];rfl
     .have M:e.cells[d]?=some c:=by
       by_cases am:d<j
       .rw[TH,Yz (by simp;omega),S' am] at f;exact f
       .rw[Xj (by simp;omega)] at f;rw[TI] at f;have:j+a.cells.length+(d-(e.cells.take j++a.cells).length)=d:=by simp;omega
        rw[this] at f;exact f
      simp only[L,and_false,if_false];obtain⟨g,m,p⟩:=(F h e E).2 d c M;refine⟨?_,m.later K,p⟩;simp only[Τ.Wd,r];rw[if_neg (λx=>L ⟨J,J⟩)];exact g
    .rw[Vp (YF A)] at s;obtain⟨g,m⟩:=F h n s;refine⟨g,λd c f=>?_⟩;obtain⟨p,an,ao⟩:=m d c f;have ap:d<k:=by rw[<-g];exact(Zo.1 f).1
     simp only[A,false_and,if_false];refine⟨?_,an.later K,ao⟩;simp only[Τ.Wd,r];rw[if_neg (λx=>EG (lo:=j) (hi:=j+a.cells.length) ap Q A ⟨x.2.1,J⟩)];exact p
def J3 (T:ZR) (c:TypeId) (σ:Ξ) (p a:Ψ):YP:=match p with
 | .Δ id n i j=>match T c,σ[id]? with
  | some b,some (.cells t k l)=>match l[i]? with
   | some e=>if l.length=n/\a.cells.length=b.size/\j+b.size<=k/\a.cells.all (Ψ.Yr σ)=true then .ok .Ze (σ.set id (.cells t k (l.set i (e.P7 j a.cells)))) else .bad
   | none=>.bad
  | _,_=>.bad
 | _=>.bad
theorem zo (r:Zv P T) (s:Holds S B σ H) {g:TypeId} {p a:Ψ} {u v:Value} (w:υ S B σ p u) (h:υ S B σ a v):Nk P (Instr.storeAt g u v) S B H σ (J3 T g σ p a):=by
 unfold J3;split
 .rename_i id n i j;split
  .rename_i M t k l hi d;split
   .rename_i e y;split
    .rename_i A;obtain⟨O,Q,R,m⟩:=A;cases w with
     | Δ c o C=>
      rename_i b N;rw[d] at c;cases c;intro K D;obtain⟨E,F,I,f⟩:=zp s d C y h m (by omega:j+a.cells.length<=k);obtain⟨V,_⟩:=h.cells m;refine Φ.bind' (Φ.pure' ?_);unfold storeVar;refine Φ.bind' (r.size hi ?_);rw[if_neg J];refine Φ.storeCells (G:=H) U ⟨t,N,I⟩ v.cells.toList 0 H E (λx _ L=>F x (by simp at L;omega)) U ?_;exact⟨S,_,_,.Ze,D,f.2.1,f.1,f.2.2,.Ze _⟩
     | U8 v c o=>rw[d] at c;cases c;simp only[Row.Wo] at o;omega
    .exact .bad
   .exact .bad
  .exact .bad
 .exact .bad
end
section
variable {P:Program} {T:ZR} {S:κ} {B:Z5} {H:Τ} {σ:Ξ}
def W4 (S:κ) (B:Z5) (σ:Ξ) (c:ζ) (k:Nat) (l:μ):Prop:=
 l.length*k<=c.size/\∀(i:Nat) (e:Ψ),l[i]?=some e->e.cells.length=k/\∀(j:Nat) (a:Ψ),e.cells[j]?=some a->∃x,c[i*k+j]?=some x/\υ S B σ a x/\One x
theorem J2 {a:Ψ} (h:a.Yr []=true):a.Yr σ=true:=by
 cases a<;>first|exact h|(simp[Ψ.Yr] at h)
theorem Nj {l:μ} (h:l.all (Ψ.Yr [])=true):l.all (Ψ.Yr σ)=true:=by
 rw[V5] at *;exact λa b=>J2 (h a b)
theorem W4.put {c:ζ} {k:Nat} {l:μ} (h:W4 S B σ c k l) {i j:Nat} {e a:Ψ} {v:Value} (t:l[i]?=some e) (K:υ S B σ a v) (y:a.cells.all (Ψ.Yr σ)=true) (A:j+a.cells.length<=k) :
  let c':=v.cells.zipIdx.foldl (λcs (x:Value×Nat)=>cs.setIfInBounds (i*k+j+x.2) x.1) c
  c'.size=c.size/\W4 S B σ c' k (l.set i (e.P7 j a.cells)):=by
 obtain⟨L,M⟩:=K.cells y;have C:i<l.length:=(Zo.1 t).1;have N:=(h.2 i e t).1;have O:∀c∈a.cells,Ψ.Yr σ c=true:=V5.1 y;have P:=Ψ.EH (σ:=σ) (e:=e) (j:=j) (cs:=a.cells) (by rw[N];exact A) O;have Q:∀(vs:List Value) (n:Nat) (c:ζ),((vs.zipIdx n).foldl (λcs (x:Value×Nat)=>cs.setIfInBounds (i*k+j+x.2) x.1) c).size=c.size/\
   ∀p,((vs.zipIdx n).foldl (λcs (x:Value×Nat)=>cs.setIfInBounds (i*k+j+x.2) x.1) c)[p]?=if i*k+j+n<=p/\p<i*k+j+n+vs.length/\p<c.size then vs[p-(i*k+j+n)]? else c[p]?:=by
  intro vs
  induction vs with
  | nil=>intro n c;refine⟨rfl,λp=>?_⟩;rw[if_neg (by simp;omega)];rfl
  | cons v vs R=>
   intro n c;obtain⟨f,g⟩:=R (n+1) (c.setIfInBounds (i*k+j+n) v);simp only[List.zipIdx_cons,List.foldl_cons];refine⟨by rw[f];simp,λp=>?_⟩;rw[g p];simp only[Ta,List.length_cons];by_cases D:p=i*k+j+n
   .subst D;rw[if_neg J];by_cases E:i*k+j+n<c.size
    .rw[if_pos ⟨J,J,E⟩,Tc E];simp
    .rw[if_neg J,NH (by simp;omega),NH J]
   .by_cases m:i*k+j+(n+1)<=p/\p<i*k+j+(n+1)+vs.length/\p<c.size
    .rw[if_pos m,if_pos ⟨J,J,m.2.2⟩];have:p-(i*k+j+n)=(p-(i*k+j+(n+1)))+1:=J;rw[this,List.getElem?_cons_succ]
    .rw[if_neg m,if_neg J,UC (YF D)]
 obtain⟨F,H⟩:=Q v.cells.toList 0 c;have T:v.cells.zipIdx.foldl (λcs (x:Value×Nat)=>cs.setIfInBounds (i*k+j+x.2) x.1) c=(v.cells.toList.zipIdx 0).foldl (λcs (x:Value×Nat)=>cs.setIfInBounds (i*k+j+x.2) x.1) c:=by
  rw[<-Array.foldl_toList];simp
 intro c';have U:c'=(v.cells.toList.zipIdx 0).foldl (λcs (x:Value×Nat)=>cs.setIfInBounds (i*k+j+x.2) x.1) c:=T;rw[U];have I:v.cells.toList.length=a.cells.length:=by simpa using L
 have Z:i*k+k<=c.size:=by
  have f:(i+1)*k<=l.length*k:=Sk k C
  have g:=h.1;rw[Wg] at f;omega
 refine⟨F,by rw[F];simpa using h.1,λo V s=>?_⟩;by_cases u:o=i
 .subst u;rw[V0 C] at s;cases s;rw[P];refine⟨by simp;omega,λb r d=>?_⟩;rw[H,I];by_cases m:j<=b/\b<j+a.cells.length
  .have w:a.cells[b-j]?=some r:=by
    rw[TH,Xj (by simp;omega)] at d;simp only[Qm] at d;rw[Yz J] at d;have:b-min j e.cells.length=b-j:=J;rw[this] at d;exact d
   obtain⟨x,f,g,W⟩:=M _ _ w;rw[if_pos ⟨J,J,J⟩];have:o*k+b-(o*k+j+0)=b-j:=J;rw[this,Wh];exact⟨x,f,g,W⟩
  .have w:e.cells[b]?=some r:=by
    by_cases X:b<j
    .rw[TH,Yz (by simp;omega),S' X] at d;exact d
    .rw[Xj (by simp;omega)] at d;rw[TI] at d;have:j+a.cells.length+(b-(e.cells.take j++a.cells).length)=b:=by simp;omega
     rw[this] at d;exact d
   rw[if_neg (λx=>m ⟨J,J⟩)];exact(h.2 o e t).2 b r w
 .rw[Vp (YF u)] at s;obtain⟨f,g⟩:=h.2 o V s;refine⟨f,λb r d=>?_⟩;have Y:b<k:=by rw[<-f];exact(Zo.1 d).1
  rw[H,I,if_neg (λx=>EG (lo:=j) (hi:=j+a.cells.length) Y A u ⟨J,J⟩)];exact g b r d
theorem W4.EF {z:Value} {a:Ψ} (p:υ S B σ a z) (r:a.cells.all (Ψ.Yr σ)=true) {k n m:Nat} (b:a.cells.length=k) (s:n*k<=m) (d:ζ) (t:d=z.cells) :
  W4 S B σ ((Array.range m).map (d[· % d.size]!)) k (List.replicate n a):=by
 obtain⟨u,v⟩:=p.cells r;subst t;refine⟨by simpa using s,λi e hi=>?_⟩;obtain⟨f,g⟩:=Zo.1 hi;simp at f g;subst g;refine⟨b,λj c h=>?_⟩;obtain⟨x,l,Ρ,w⟩:=v j c h;have y:j<k:=by rw[<-b];exact(Zo.1 h).1
 have A:i*k+j<m:=by
  have:(i+1)*k<=n*k:=Sk k f;rw[Wg] at this;omega
 refine⟨x,?_,Ρ,w⟩;rw[Px,Array.getElem?_range,if_pos A];simp only[Option.map_some];have:(i*k+j) % z.cells.size=j:=by
  rw[u,b,Nat.mul_comm,Nat.mul_add_mod];exact Ql y
 rw[this];have o:j<z.cells.size:=J;rw[Xu o] at l;cases l;rw[getElem!_pos z.cells j o]
theorem W4.later {b:κ} {B':Z5} {σ':Ξ} (d:Zm S b B B' σ σ') {c:ζ} {k:Nat} {l:μ} (h:W4 S B σ c k l):W4 b B' σ' c k l:=
 ⟨h.1,λi e hi=>⟨(h.2 i e hi).1,λj a f=>by obtain⟨x,g,m,n⟩:=(h.2 i e hi).2 j a f;exact⟨x,g,m.later d,n⟩⟩⟩
theorem W4.one {a:Ψ} {v:Value} (b:υ S B σ a v) (d:a.cells.all (Ψ.Yr σ)=true):W4 S B σ v.cells a.cells.length [a]:=by
 obtain⟨f,g⟩:=b.cells d;refine⟨by simp[f],λi e hi=>?_⟩
 match i with
 | 0=>
  simp at hi;subst hi;refine⟨U,λj c h=>?_⟩;rw[Pt,US];exact g j c h
 | i+1=>simp at hi
theorem LP (p:Holds S B σ H) {c:ζ} {k:Nat} {l:μ} (d:W4 S B σ c k l) (t:TypeId) {K:Nat->Τ->Prop} {E:Value->Τ->Prop}
  (h:∀r,H.fresh r->Holds S (B++[some (r,c.size)]) (σ++[.cells t k l]) (H.Ym r c t)->Ext S B H S (B++[some (r,c.size)]) (H.Ym r c t)->Zm S S B (B++[some (r,c.size)]) σ (σ++[.cells t k l])->K r (H.Ym r c t)) :
  Φ P (newObj (.cells c t)) H K E:=by
 refine⟨U,λr f=>?_⟩;have s:∀b,(∀N,some (r,c.size)≠some (b,N))->Uv H (H.Ym r c t) b:=λb u=>by
  have g:b≠r:=λe=>by subst e;exact u _ U
  exact⟨λo=>by simp[Τ.Ym,g],by simp[Τ.Ym,g],U⟩
 have v:Zm S S B (B++[some (r,c.size)]) σ (σ++[.cells t k l])->U7 S (B++[some (r,c.size)]) (σ++[.cells t k l]) (H.Ym r c t) (.cells t k l) (some (r,c.size)):=λw=>by
  have m:=d.later w;refine⟨by simp[Τ.Ym],d.1,λo y=>⟨c[o],by simp[Τ.Ym,y]⟩,λi j=>(c[i*k+j]?).getD undef,λi e hi=>⟨(m.2 i e hi).1,λj a A=>?_⟩⟩;obtain⟨x,n,Ρ,C⟩:=(m.2 i e hi).2 j a A;simp only[n,Option.getD_some];exact⟨by simp[Τ.Ym,n],Ρ,C⟩
 obtain⟨D,F,I⟩:=p.push (λb N e=>by cases e;exact f) s v;exact h r f D F I
theorem LO (a:Holds S B σ H) (c:ζ) (t:TypeId) {K:Nat->Τ->Prop} {E:Value->Τ->Prop}
  (h:∀r,Holds (S.lay r c) B σ (H.Ym r c t)->Ext S B H (S.lay r c) B (H.Ym r c t)->Zm S (S.lay r c) B B σ σ->K r (H.Ym r c t)) :
  Φ P (newObj (.cells c t)) H K E:=by
 refine⟨U,λr b=>?_⟩;obtain⟨d,e,f⟩:=a.lay (c:=c) (t:=t) b;exact h r d e f
theorem EE {r:Nat} {c:ζ} {a:Ψ} {k:Nat} (f:Zm S (S.lay r c) B B σ σ) (g:W4 S B σ c k [a]):υ (S.lay r c) B σ (.ξ a.cells) (.pointer (some ⟨r,0,none⟩)):=by
 have e:=g.later f;refine .ξ r 0 (λj=>(c[j]?).getD undef) (λj x d=>?_) (λj x d=>?_)
 .obtain⟨y,b,_⟩:=(e.2 0 a U).2 j x d;rw[Pt,US] at b;simp[κ.lay,b]
 .obtain⟨y,b,Ρ,_⟩:=(e.2 0 a U).2 j x d;rw[Pt,US] at b;simp only[b,Option.getD_some];exact Ρ
theorem J1 {r:Nat} {c:ζ} {k cap:Nat} {l:μ} (ex:Bool) (f:Zm S (S.lay r c) B B σ σ) (g:W4 S B σ c k l) (h:l.length<=cap) (m:ex=true->cap=l.length):υ (S.lay r c) B σ (.sl ex k l) (.slice (some ⟨r,0,none⟩) l.length cap):=by
 have a:=g.later f;refine .sl r 0 cap (λi j=>(c[i*k+j]?).getD undef) m h (λi e hi=>(a.2 i e hi).1) (λi e hi j x b=>?_) (λi e hi j x b=>?_)
 .obtain⟨y,d,_⟩:=(a.2 i e hi).2 j x b;simp[κ.lay,d]
 .obtain⟨y,d,Ρ,_⟩:=(a.2 i e hi).2 j x b;simp only[d,Option.getD_some];exact Ρ
end
section
variable {P:Program} {T:ZR} {S:κ} {B:Z5} {H:Τ} {σ:Ξ}
def J0 (σ:Ξ) (a:Ψ):YP:=if a.cells.all (Ψ.Yr σ)=true then .ok (.ξ a.cells) σ else .bad
def Ni (a:Ψ):Y8:=if a.cells.all (Ψ.Yr [])=true then .ok (.ξ a.cells) else .bad
def Nh (t:TypeId) (σ:Ξ) (a:Ψ):YP:=if a.cells.all (Ψ.Yr σ)=true then .ok (.Δ σ.length 1 0 0) (σ++[.cells t a.cells.length [a]]) else .bad
theorem Ht (d:Holds S B σ H) (b:TypeId) {a:Ψ} {v:Value} (e:υ S B σ a v) (f:a.cells.all (Ψ.Yr σ)=true):YS P (do pure (.pointer (some (<-newVar b v)))) S B H σ (.ok (.ξ a.cells) σ):=by
 intro K g;refine Φ.bind' ?_;unfold newVar newRow;refine Φ.bind' (LO d v.cells b λr h i c=>Φ.pure' (Φ.pure' ⟨_,_,_,_,g,i,h,c,?_⟩));exact EE c (W4.one e f)
theorem zn (c:Holds S B σ H) (b:TypeId) {a:Ψ} {v:Value} (d:υ S B σ a v):YS P (Instr.box b v) S B H σ (J0 σ a):=by
 unfold J0;split
 .rename_i e;exact Ht c b d e
 .exact .bad
theorem zm (c:Holds S B σ H) (b:TypeId) {a:Ψ} {v:Value} (d:υ S B σ a v):YS P (Instr.box b v) S B H σ ((Ni a).Yo σ):=by
 unfold Ni;split
 .rename_i e;exact Ht c b d (Nj e)
 .exact .bad
theorem ED (d:Holds S B σ H) (c:TypeId) {a:Ψ} {v:Value} (e:υ S B σ a v):YS P (do pure (.pointer (some (<-newVar c v)))) S B H σ (Nh c σ a):=by
 unfold Nh;split
 .rename_i f;intro K g;refine Φ.bind' ?_;unfold newVar newRow;refine Φ.bind' (LP d (W4.one e f) c λr _ h m o=>Φ.pure' (Φ.pure' ⟨_,_,_,_,g,m,h,o,?_⟩));have:=υ.Δ (S:=S) (B:=B++[some (r,v.cells.size)]) (σ:=σ++[.cells c a.cells.length [a]]) (id:=σ.length) (n:=1) (i:=0) (j:=0) (k:=a.cells.length) (t:=c) (l:=[a]) (b:=r) (N:=v.cells.size) Ω U (by rw[<-d.len];simp);simpa using this
 .exact .bad
theorem zl (c:Holds S B σ H) (b:TypeId) {a:Ψ} {v:Value} (d:υ S B σ a v):YS P (Instr.box b v) S B H σ (Nh b σ a):=ED c b d
def JZ (T:ZR) (a:TypeId) (σ:Ξ):YP:=match T a with|some i=>Nh a σ (Wc i.zero)|none=>.bad
def JY (T:ZR) (a:TypeId):Y8:=match T a with|some i=>Ni (Wc i.zero)|none=>.bad
theorem zk (b:Zv P T) (c:Holds S B σ H) (a:TypeId):YS P (Instr.alloc a true (.tuple #[])) S B H σ (JZ T a σ):=by
 unfold JZ;cases hi:T a with
 | none=>exact .bad
 | some i=>
  intro K d;unfold Instr.alloc;exact Φ.bind' (b.zero hi (ED c a (RD i.zero) K d))
theorem zj (b:Zv P T) (c:Holds S B σ H) (a:TypeId):YS P (Instr.alloc a true (.tuple #[])) S B H σ ((JY T a).Yo σ):=by
 unfold JY;cases hi:T a with
 | none=>exact .bad
 | some i=>
  simp only[Ni];split
  .rename_i d;intro K e;unfold Instr.alloc;exact Φ.bind' (b.zero hi (Ht c a (RD i.zero) (Nj d) K e))
  .exact .bad
def QV (b:Nat->Option (Nat×Nat×Nat)) (k:Nat) (c:Ψ->Bool) (l:μ):List (Nat×Ψ)->Option (μ)
 | []=>some l
 |(x,a)::r=>match b x with
  | some (i,j,n)=>match l[i]? with
   | some e=>if a.cells.length=n/\j+n<=k/\a.cells.all c=true then QV b k c (l.set i (e.P7 j a.cells)) r else none
   | none=>none
  | none=>none
theorem Hs {k:Nat} {r:Ψ->Bool} (y:∀a:Ψ,r a=true->a.Yr σ=true) {s:Nat->Option (Nat×Nat×Nat)} {place:Nat->Option (Nat×Nat)} (A:∀x i j n,s x=some (i,j,n)->place x=some (i*k+j,n)) {env:Β} {t:ζ} (C:Yv S B σ env t) :
  ∀(b:List (Nat×Operand)) (c:ζ) (l d:μ),W4 S B σ c k l->QV s k r l (b.map λp=>(p.1,ε env p.2))=some d->
  ∃c',Instr.fill place c (b.map λp=>(p.1,ZJ t p.2))=some c'/\c'.size=c.size/\W4 S B σ c' k d/\d.length=l.length:=by
 intro b
 induction b with
 | nil=>intro c l d f h;cases h;exact⟨c,rfl,rfl,f,rfl⟩
 | cons p b D=>
  obtain⟨x,o⟩:=p;intro c l d f h;simp only[WZ,QV] at h;split at h<;>try cases h
  rename_i i j n E;split at h<;>try cases h
  rename_i e u;split at h<;>try cases h
  rename_i F;obtain⟨P,Q,v⟩:=F;have g:=T3 C o;have w:(ε env o).cells.all (Ψ.Yr σ)=true:=by
   rw[V5] at v ⊢;exact λa g=>y a (v a g)
  obtain⟨R,_⟩:=g.cells w;obtain⟨H,I⟩:=f.put u g w (by omega:j+(ε env o).cells.length<=k);obtain⟨c',J,Ρ,K,L⟩:=D _ _ _ I h;refine⟨c',?_,by rw[Ρ,H],K,by rw[L];simp⟩;have M:i<l.length:=(Zo.1 u).1;have T:i*k+j+(ZJ t o).cells.size<=c.size:=by
   have N:(i+1)*k<=l.length*k:=Sk k M
   have U:=f.1;rw[Wg] at N;omega
  simp only[WZ,Instr.fill,A x i j n E];have m:((ZJ t o).cells.size≠n)=False:=by simp;omega
  have O:(i*k+j+(ZJ t o).cells.size > c.size)=False:=by simp;omega
  simp only[bne_iff_ne,ne_eq,Md,decide_eq_true_eq,m,O];simp only[ne_eq] at m;simp only[m,or_self,if_false];exact J
def EC (T:ZR) (a:Array Field):Option (List (Nat×Nat)):=a.toList.mapM λf=>(T f.type).map λi=>(f.offset,i.size)
theorem zi (g:Zv P T) {K:Array (Nat×Nat)->Τ->Prop} {E:Value->Τ->Prop} {c:Array Field} {l:List (Nat×Nat)} (h:EC T c=some l) (b:K l.toArray H) :
  Φ P (c.mapM λf=>(do pure (f.offset,<-sizeOf f.type):Sem (Nat×Nat))) H K E:=by
 have j:∀(a:List Field) (l:List (Nat×Nat)) (K:List (Nat×Nat)->Τ->Prop),(a.mapM λf=>(T f.type).map λi=>(f.offset,i.size))=some l->K l H->Φ P (a.mapM λf=>(do pure (f.offset,<-sizeOf f.type):Sem (Nat×Nat))) H K E:=by
  intro a
  induction a with
  | nil=>intro l K h b;simp at h;subst h;exact Φ.pure' b
  | cons f a k=>
   intro l K h b;rw[List.mapM_cons] at h ⊢;cases d:T f.type with
   | none=>rw[d] at h;cases h
   | some i=>
    rw[d] at h;simp only[Option.map_some,Option.bind_eq_bind,Option.bind_some] at h;cases e:(a.mapM λf=>(T f.type).map λi=>(f.offset,i.size)) with
    | none=>rw[e] at h;cases h
    | some l2=>
     rw[e] at h;cases h;refine Φ.bind' (Φ.bind' (g.size d (Φ.pure' ?_)));refine Φ.bind' (k l2 _ e ?_);exact Φ.pure' b
 rw[Array.mapM_eq_mapM_toList];exact Φ.bind (c.toList.mapM _) (j c.toList l _ h (Φ.pure' b))
def Ty (T:ZR) (a:Ψ->Bool) (c:TypeId) (parts:List (Nat×Ψ)):Y8:=match T c with
 | some i=>
  let z:=Wc i.zero
  if z.cells.length=i.zero.cells.size/\z.cells.all (Ψ.Yr [])=true then match i.ZE with
   | .struct d=>match EC T d with
    | some f=>match QV (λx=>(f[x]?).map λp=>(0,p.1,p.2)) z.cells.length a [z] parts with
     | some [e]=>.ok (.ZW e.cells)
     | _=>.bad
    | none=>.bad
   | .array _ el=>match T el with
    | some b=>match QV (λx=>some (0,x*b.size,b.size)) z.cells.length a [z] parts with
     | some [e]=>.ok (.ZW e.cells)
     | _=>.bad
    | none=>.bad
   | _=>.bad
  else .bad
 | none=>.bad
theorem EB {c:ζ} {k:Nat} {e:Ψ} (h:W4 S B σ c k [e]) (d:c.size=k):υ S B σ (.ZW e.cells) (.agg c):=by
 obtain⟨f,g⟩:=h.2 0 e U;refine .ZW c (by rw[f,d]) λj a v i hv=>?_;obtain⟨x,b,Ρ,_⟩:=g j a i;rw[Pt,US,hv] at b;cases b;exact Ρ
theorem EA (b:Zv P T) (r:Holds S B σ H) {s:Ψ->Bool} (u:∀a:Ψ,s a=true->a.Yr σ=true) (c:TypeId) {env:Β} {t:ζ} (v:Yv S B σ env t) (parts:Array (Nat×Operand)) :
  YS P (Instr.build c (parts.map λ(i,x)=>(i,ZJ t x))) S B H σ ((Ty T s c (parts.toList.map λp=>(p.1,ε env p.2))).Yo σ):=by
 unfold Ty;cases hi:T c with
 | none=>exact .bad
 | some i=>
  simp only;split
  .rename_i E;obtain⟨w,F⟩:=E;have y:W4 S B σ i.zero.cells (Wc i.zero).cells.length [Wc i.zero]:=W4.one (RD i.zero) (Nj F);have A:(parts.map λ(i,x)=>(i,ZJ t x)).toList=parts.toList.map λp=>(p.1,ZJ t p.2):=Ω;split
   .rename_i L d;split
    .rename_i C I;split
     .rename_i e f;intro K g;unfold Instr.build;refine Φ.bind' (b.zero hi (Φ.bind' (b.ZE hi ?_)));rw[d];refine Φ.bind' (zi b I ?_);obtain⟨c',k,Ρ,l,_⟩:=Hs (place:=(C.toArray[·]?)) u (λx i j n h=>by
       cases o:C[x]? with
       | none=>rw[o] at h;cases h
       | some p=>rw[o] at h;cases h;simp[o]) v parts.toList _ _ _ y f
      rw[A,k];exact Φ.pure' (.same r g (EB l (by rw[Ρ,w])))
     .exact .bad
    .exact .bad
   .rename_i m el d;split
    .rename_i D J;split
     .rename_i e f;intro K g;unfold Instr.build;refine Φ.bind' (b.zero hi (Φ.bind' (b.ZE hi ?_)));rw[d];refine Φ.bind' (b.size J ?_);obtain⟨c',k,Ρ,l,_⟩:=Hs (place:=λi=>some (i*D.size,D.size)) u (λx i j n h=>by
       simp at h;obtain⟨rfl,rfl,rfl⟩:=h;simp) v parts.toList _ _ _ y f
      rw[A,k];exact Φ.pure' (.same r g (EB l (by rw[Ρ,w])))
     .exact .bad
    .exact .bad
   .exact .bad
  .exact .bad
def LN (T:ZR) (b:Ψ->Bool) (c:TypeId) (len:Nat) (parts:List (Nat×Ψ)):Option (TypeId×Nat×μ):=match Wn T c with
 | some (e,k,none)=>match T e with
  | some a=>if 0<k/\len*k<=2 ^ 24/\(Wc a.zero).cells.length=k/\(Wc a.zero).cells.all (Ψ.Yr [])=true then
    (QV (λx=>some (x,0,k)) k b (List.replicate len (Wc a.zero)) parts).map λl=>(e,k,l) else none
  | none=>none
 | _=>none
theorem Ez (m:Zv P T) {o:Ψ->Bool} (L:∀a:Ψ,o a=true->a.Yr σ=true) {y e:TypeId} {len k:Nat} {l:μ} {env:Β} {t:ζ} (M:Yv S B σ env t) {parts:Array (Nat×Operand)}
  (h:LN T o y len (parts.toList.map λp=>(p.1,ε env p.2))=some (e,k,l)) {K:Value->Τ->Prop} {E:Value->Τ->Prop}
  (A:∀c:ζ,W4 S B σ c k l->l.length=len->Φ P (newObj (.cells c e)) H (λr H'=>K (.slice (some ⟨r,0,none⟩) len len) H') E) :
  Φ P (Instr.buildSlice y len (parts.map λ(i,x)=>(i,ZJ t x))) H K E:=by
 unfold LN at h;split at h<;>try cases h
 rename_i ae C N;split at h<;>try cases h
 rename_i g s;split at h<;>try cases h
 rename_i O;obtain⟨af,ag,Q,R⟩:=O;obtain⟨i,ah,hi,V,D,W⟩:=J6 N;rw[s] at D;cases D;cases u:QV (λx=>some (x,0,C)) C o (List.replicate len (Wc g.zero)) (parts.toList.map λp=>(p.1,ε env p.2)) with
 | none=>rw[u] at h;cases h
 | some ai=>
  rw[u] at h;cases h;unfold Instr.buildSlice;refine Φ.bind' (m.ZE hi ?_);rw[V];refine Φ.bind' (m.size s ?_);rw[W];have X:¬(len*k > 2 ^ 24):=J;simp only[X,if_false];have Y:(parts.map λ(i,x)=>(i,ZJ t x)).toList=parts.toList.map λp=>(p.1,ZJ t p.2):=Ω;have F:∀b:ζ,(len=0\/b=g.zero.cells)->∃c',Instr.fill (λi=>some (i*k,k)) ((Array.range (len*k)).map (b[· % b.size]!)) (parts.map λ(i,x)=>(i,ZJ t x)).toList=some c'/\W4 S B σ c' k l/\l.length=len:=λb v=>by
   have Z:W4 S B σ ((Array.range (len*k)).map (b[· % b.size]!)) k (List.replicate len (Wc g.zero)):=by
    rcases v with rfl|v
    .exact⟨Ω,λi e hi=>by simp at hi⟩
    .exact W4.EF (RD g.zero) (Nj R) Q (Z6 _) b v
   obtain⟨c',d,Ρ,f,aa⟩:=Hs (place:=λi=>some (i*k,k)) L (λx i j n h=>by
    simp at h;obtain⟨rfl,rfl,rfl⟩:=h;simp) M parts.toList _ _ _ Z u
   rw[Y];exact⟨c',d,f,by rw[aa];simp⟩
  by_cases I:len=0
  .obtain⟨c',d,Ρ,f⟩:=F #[] (.inl I);have ab:len*k=0:=by rw[I];simp
   rw[if_pos ab];refine Φ.bind' (Φ.pure' ?_);rw[d];exact Φ.bind' (A c' Ρ f)
  .have ad:len*k≠0:=by
    intro w;rcases Nat.mul_eq_zero.1 w with w|w<;>omega
   obtain⟨c',d,Ρ,f⟩:=F _ (.inr U);rw[if_neg ad];refine Φ.bind' (m.zero s ?_);refine Φ.bind' (Φ.pure' ?_);rw[d];exact Φ.bind' (A c' Ρ f)
def LM (T:ZR) (a:Ψ->Bool) (b:TypeId) (len:Nat) (parts:List (Nat×Ψ)):Y8:=match LN T a b len parts with
 | some (_,k,l)=>.ok (.sl true k l)
 | none=>.bad
def JX (T:ZR) (a:TypeId) (len:Nat) (parts:List (Nat×Ψ)) (σ:Ξ):YP:=match LN T (Ψ.Yr σ) a len parts with
 | some (e,k,l)=>.ok (.ms σ.length len 0 len) (σ++[.cells e k l])
 | none=>.bad
theorem Ey (j:Zv P T) (m:Holds S B σ H) {b:Ψ->Bool} (n:∀a:Ψ,b a=true->a.Yr σ=true) (d:TypeId) (len:Nat) {env:Β} {t:ζ} (o:Yv S B σ env t) (parts:Array (Nat×Operand)) :
  YS P (Instr.buildSlice d len (parts.map λ(i,x)=>(i,ZJ t x))) S B H σ ((LM T b d len (parts.toList.map λp=>(p.1,ε env p.2))).Yo σ):=by
 unfold LM;split
 .rename_i e k l h;intro K s;refine Ez j n o h λc u f=>LO m c e λr v w g=>⟨_,_,_,_,s,w,v,g,?_⟩;have:=J1 (cap:=len) true g u J (λ_=>f.symm);rw[f] at this;exact this
 .exact .bad
theorem Ex {r n k:Nat} {t:TypeId} {l:μ} (b:B.length=σ.length) (c:ζ) (d:l.length*k<=c.size) (a:l.length=n):υ S (B++[some (r,c.size)]) (σ++[.cells t k l]) (.ms σ.length n 0 n) (.slice (some ⟨r,0,none⟩) n n):=by
 have:=υ.ms (S:=S) (B:=B++[some (r,c.size)]) (σ:=σ++[.cells t k l]) (id:=σ.length) (n:=n) (i:=0) (len:=n) (t:=t) (k:=k) (l:=l) (bo:=some (r,c.size)) (base:=some ⟨r,0,none⟩) n Ω a (by rw[<-b];simp) J (Z6 _) (.inr ⟨r,c.size,U,Ω,by subst a;simpa using d⟩);exact this
theorem zh (g:Zv P T) (b:Holds S B σ H) (d:TypeId) (len:Nat) {env:Β} {t:ζ} (j:Yv S B σ env t) (parts:Array (Nat×Operand)) :
  YS P (Instr.buildSlice d len (parts.map λ(i,x)=>(i,ZJ t x))) S B H σ (JX T d len (parts.toList.map λp=>(p.1,ε env p.2)) σ):=by
 unfold JX;split
 .rename_i e k l h;intro K m;exact Ez g (λa h=>h) j h λc f n=>LP b f e λr _ o s u=>⟨_,_,_,_,m,s,o,u,Ex b.len c f.1 n⟩
 .exact .bad
def LL (T:ZR) (d:TypeId) (a b:Ψ):Option (TypeId×Nat×Ψ×Int×Int):=match Wn T d,a,b with
 | some (e,k,none),.z (.int _ n),.z (.int _ m)=>match T e with
  | some c=>if 0<k/\(Wc c.zero).cells.length=k/\(Wc c.zero).cells.all (Ψ.Yr [])=true then some (e,k,Wc c.zero,n,c.bytes) else none
  | none=>none
 | _,_,_=>none
end
section
variable {P:Program} {T:ZR} {S:κ} {B:Z5} {H:Τ} {σ:Ξ}
theorem Ew (d:Zv P T) {o e:TypeId} {k:Nat} {z:Ψ} {n bytes:Int} {a b:Ψ} {u v:Value} (A:υ S B σ a u) (C:υ S B σ b v) (h:LL T o a b=some (e,k,z,n,bytes)) (D:∀kk m,b=.z (.int kk m)->m=n) (F:0<=n/\0<bytes/\bytes*n<=2 ^ 48) {K:Value->Τ->Prop} {E:Value->Τ->Prop}
  (p:∀c:ζ,W4 S B σ c k (List.replicate n.toNat z)->Φ P (newObj (.cells c e)) H (λr H'=>K (.slice (some ⟨r,0,none⟩) n.toNat n.toNat) H') E) :
  Φ P (Instr.makeSlice o u v) H K E:=by
 unfold LL at h;split at h<;>try cases h
 rename_i ab ad ae af ag m I;split at h<;>try cases h
 rename_i j g;split at h<;>try cases h
 rename_i L;obtain⟨ah,M,N⟩:=L;cases A;cases C;have O:=D _ _ U;subst O;obtain⟨i,ai,hi,Q,s,R⟩:=J6 I;rw[g] at s;cases s;obtain⟨V,aj,ak⟩:=F;have al:m<=2 ^ 48:=by
  have:1*m<=(j.bytes:Int)*m:=Int.mul_le_mul_of_nonneg_right J V;omega
 have W:i64.wrap m=m:=IntWalk.i64_in m ⟨J,J⟩;unfold Instr.makeSlice;refine Φ.bind' (d.ZE hi ?_);rw[Q];refine Φ.bind' (Φ.bind' (Φ.pure' (Φ.pure' ?_)));refine Φ.bind' (Φ.bind' (Φ.pure' (Φ.pure' ?_)));refine Φ.bind' (d.info g λf X=>?_);simp only[W,X];have Y:¬m<0:=J;have Z:¬((j.bytes:Int)*m > 2 ^ 48):=J;have aa:¬m > m:=J;simp only[Y,Z,aa,decide_false,Bool.or_false,WX,if_false];refine Φ.bind' ?_;have t:Φ P (do
   let w <-(do pure (m.toNat*(<-sizeOf e)):Sem Nat)
   let x <-if w=0 then pure #[] else do pure (<-zeroValue e).cells
   let a <-newRow e ((Array.range w).map (x[· % x.size]!))
   pure (.slice (some a) m.toNat m.toNat)) H K E:=by
  refine Φ.bind' (Φ.bind' (d.size g (Φ.pure' ?_)));rw[R];by_cases l:m.toNat*k=0
  .rw[if_pos l];refine Φ.bind' (Φ.pure' ?_);refine Φ.bind' (Φ.bind' ?_);refine p _ ?_;rcases Nat.mul_eq_zero.1 l with y|y
   .rw[y];exact⟨Ω,λi e hi=>by simp at hi⟩
   .omega
  .rw[if_neg l];refine Φ.bind' (d.zero g ?_);refine Φ.bind' (Φ.pure' ?_);refine Φ.bind' (Φ.bind' ?_);exact p _ (W4.EF (RD j.zero) (Nj N) M (Z6 _) _ U)
 unfold askRoom;split
 .refine⟨U,?_⟩;show Φ P _ H K E;have:=t;simpa using this
 .refine Φ.pure' ?_;show Φ P _ H K E;have:=t;simpa using this
def JW (T:ZR) (c:TypeId) (a b:Ψ) (σ:Ξ):YP:=match LL T c a b,b with
 | some (e,k,z,n,bytes),.z (.int _ m)=>.Y0 (m=n/\0<=n/\0<bytes/\bytes*n<=2 ^ 48) (.ok (.ms σ.length n.toNat 0 n.toNat) (σ++[.cells e k (List.replicate n.toNat z)]))
 | _,_=>.bad
theorem zg (i:Zv P T) (d:Holds S B σ H) {f:TypeId} {a b:Ψ} {u v:Value} (j:υ S B σ a u) (l:υ S B σ b v):YS P (Instr.makeSlice f u v) S B H σ (JW T f a b σ):=by
 unfold JW;split
 .rename_i e k z n bytes kk m h;refine .Y0 λ⟨o,p⟩ K s=>?_;refine Ew i j l h (λA C t=>by cases t;exact o) p λc g=>LP d g e λr _ w x y=>⟨_,_,_,_,s,x,w,y,?_⟩;exact Ex d.len c g.1 Ω
 .exact .bad
def JV (T:ZR) (c:TypeId) (a b:Ψ):Y8:=match LL T c a b,b with
 | some (_,k,z,n,bytes),.z (.int _ m)=>.Y0 (m=n/\0<=n/\0<bytes/\bytes*n<=2 ^ 48) (.ok (.sl true k (List.replicate n.toNat z)))
 | _,_=>.bad
theorem zf (g:Zv P T) (i:Holds S B σ H) {d:TypeId} {a b:Ψ} {u v:Value} (j:υ S B σ a u) (l:υ S B σ b v):YS P (Instr.makeSlice d u v) S B H σ ((JV T d a b).Yo σ):=by
 unfold JV;split
 .rename_i e k z n bytes kk m h;refine YS.Y0 (r:=(Y8.ok (.sl true k (List.replicate n.toNat z))).Yo σ) λ⟨o,p⟩ K s=>?_;refine Ew g j l h (λA C t=>by cases t;exact o) p λc w=>LO i c e λr x y f=>⟨_,_,_,_,s,y,x,f,?_⟩;have:=J1 (cap:=n.toNat) true f w Ω (λ_=>Ω);simpa using this
 .exact .bad
def Reads (H:Τ) (base:Option Addr) (m:Nat) (w:Nat->Value):Prop:=m=0\/∃b o,base=some ⟨b,o,none⟩/\∀j,j<m->∃p,H.η b (o+j)=some (w j,p)
theorem Hr {base:Option Addr} {k n cap:Nat} {len:Nat} {w:Nat->Value} (h:Reads H base (n*k) w) {K:ζ->Τ->Prop} {E:Value->Τ->Prop} (c:K ((List.range (n*k)).map w).toArray H) :
  Φ P (Builtin.firstCells k n (.slice base len cap)) H K E:=by
 rcases h with h|⟨b,o,rfl,h⟩
 .rw[h] at c;cases base with
  | none=>exact Φ.pure' c
  | some a=>
   show Φ P (loadCells a (n*k)) H K E;rw[h];exact Φ.pure' c
 .exact Φ.loadCells w U h c
theorem ze {a b:Nat} (h:b<a):Builtin.nextslicecap a b<=2*a+768:=by
 unfold Builtin.nextslicecap;have grow:∀r c,c<=2*a+768->Builtin.growBy a r c<=2*a+768:=by
  intro r
  induction r with
  | zero=>intro c d;exact d
  | succ r e=>
   intro c d;unfold Builtin.growBy;split
   .exact d
   .exact e _ J
 split
 .omega
 .split
  .omega
  .exact grow 4 b J
def VX.isInt (i:VX):Bool:=i.ZE matches .int _
def Ut (T:ZR) (st xt:TypeId):Option (TypeId×Nat×VX):=match Wn T st,T xt with
 | some (e,k,none),some b=>match T e with
  | some a=>if 0<k/\a.zero.cells.size=k/\0<a.bytes/\a.bytes<=4096/\b.isInt=false then some (e,k,a) else none
  | none=>none
 | _,_=>none
theorem Hq (c:Zv P T) {st xt w e:TypeId} {k:Nat} {g:VX} (h:Ut T st xt=some (e,k,g)) {base j:Option Addr} {sLen b n p:Nat} {wo l:Nat->Value} (x:Reads H base (sLen*k) wo) (s:Reads H j (n*k) l) (aa:sLen+n<=4294967296) {K:Value->Τ->Prop} {E:Value->Τ->Prop}
  (y:sLen+n<=b->Φ P (match base with|some a=>storeCells (a.add (sLen*k)) ((List.range (n*k)).map l)|none=>pure ()) H (λ_ H'=>K (.slice base (sLen+n) b) H') E)
  (A:b<sLen+n->∀m,sLen+n<=m->Φ P (newObj (.cells (((List.range (sLen*k)).map wo).toArray++((List.range (n*k)).map l).toArray++Builtin.zeroCells g.zero.cells (m-(sLen+n))) e)) H (λr H'=>K (.slice (some ⟨r,0,none⟩) (sLen+n) m) H') E) :
  Φ P (Builtin.append_ #[st,xt] w #[.slice base sLen b,.slice j n p]) H K E:=by
 unfold Ut at h;split at h<;>try cases h
 rename_i ab ad ae B C;split at h<;>try cases h
 rename_i D d;split at h<;>try cases h
 rename_i F;obtain⟨af,ag,ah,I,o⟩:=F;obtain⟨i,D,hi,L,t,M⟩:=J6 B;rw[d] at t;cases t;unfold Builtin.append_;simp only[List.getElem?_toArray,List.getElem?_cons_zero,List.getElem?_cons_succ];refine Φ.bind' (c.ZE hi ?_);rw[L];refine Φ.bind' (c.size d ?_);rw[M];refine Φ.bind' (Φ.bind' (c.ZE C ?_));split
 .rename_i N;unfold VX.isInt at o;rw[N] at o;cases o
 refine Φ.bind' (Φ.pure' ?_);simp only[WX,if_false,Bool.not_false,if_true];refine Φ.bind' (Φ.pure' ?_);split
 .rename_i O;refine Φ.bind' (Hr s ?_);have:=y O;cases base with
  | none=>exact this
  | some a=>exact Φ.bind' this
 .rename_i ai;have u:b<sLen+n:=J;refine Φ.bind' (c.info d λf Q=>?_);have R:¬(((sLen+n:Nat):Int) > i64.max/\(False\/f.bytes=0)):=by rw[Q];rintro⟨_,h|h⟩;exact h;omega
  simp only[R,if_false];refine Φ.bind' (c.info d λf2 S=>?_);have V:¬(Builtin.nextslicecap (sLen+n) b*f2.bytes > 2 ^ 48):=by
   rw[S];have W:=ze u;have aj:Builtin.nextslicecap (sLen+n) b*g.bytes<=(2*(sLen+n)+768)*4096:=Nz W I;omega
  simp only[V,if_false];refine Φ.bind' ?_;show Φ P (choose _) H _ E;unfold choose;simp only[Φ];have X:(Question.appendCap (sLen+n) b e).forced=false:=rfl;rw[X];simp only[WX,if_false];intro q;refine Φ.bind' (c.info d λf3 ak=>?_);have v:Φ P (do
    let Y <-Builtin.firstCells k sLen (.slice base sLen b)
    let Z <-Builtin.firstCells k n (.slice j n p)
    let rest <-(do pure (Builtin.zeroCells (<-zeroValue e).cells ((Question.appendCap (sLen+n) b e).cut q-(sLen+n))):Sem (ζ))
    pure (.slice (some (<-newRow e (Y++Z++rest))) (sLen+n) ((Question.appendCap (sLen+n) b e).cut q))) H K E:=by
   refine Φ.bind' (Hr x ?_);refine Φ.bind' (Hr s ?_);refine Φ.bind' (Φ.bind' (c.zero d (Φ.pure' ?_)));refine Φ.bind' (Φ.bind' ?_);exact A u _ (by simp[Question.cut])
  refine Φ.bind' ?_;unfold askRoom;split
  .refine⟨U,?_⟩;show Φ P _ H K E;simpa using v
  .refine Φ.pure' ?_;show Φ P _ H K E;simpa using v
end
section
variable {P:Program} {T:ZR} {S:κ} {B:Z5} {H:Τ} {σ:Ξ}
def RB (σ:Ξ):Ψ->Option (Nat×μ)
 | .sl _ k l=>some (k,l)
 | .ms id n i len=>match σ[id]? with
  | some (.cells _ k l)=>if l.length=n/\i+len<=n then some (k,(l.drop i).take len) else none
  | _=>none
 | _=>none
def Ng (S:κ) (B:Z5) (σ:Ξ) (w:Nat->Value) (k:Nat) (l:μ):Prop:=∀(i:Nat) (e:Ψ),l[i]?=some e->e.cells.length=k/\∀(j:Nat) (a:Ψ),e.cells[j]?=some a->υ S B σ a (w (i*k+j))
theorem zd {k i j:Nat} (a:j<k):(i*k+j) / k=i/\(i*k+j) % k=j:=by
 have b:0<k:=J;refine⟨?_,?_⟩
 .rw[Mb,Nat.add_mul_div_right _ _ b,Nat.div_eq_of_lt a,US]
 .rw[Mb,Nat.add_mul_mod_self_right];exact Ql a
theorem JU (P:Holds S B σ H) {a:Ψ} {v:Value} {k A:Nat} {l:μ} (Q:υ S B σ a v) (h:RB σ a=some (A,l)) (R:0<k) (T:l.isEmpty=true\/A=k) :
  ∃base cap w,v=.slice base l.length cap/\l.length<=cap/\Reads H base (l.length*k) w/\Ng S B σ w k l:=by
 have V:∀(b o:Nat) (u:Nat->Nat->Value),(∀(i:Nat) (e:Ψ),l[i]?=some e->e.cells.length=k)->(∀(i:Nat) (e:Ψ),l[i]?=some e->∀(j:Nat) (c:Ψ),e.cells[j]?=some c->∃p,H.η b (o+i*k+j)=some (u i j,p))->
   (∀(i:Nat) (e:Ψ),l[i]?=some e->∀(j:Nat) (c:Ψ),e.cells[j]?=some c->υ S B σ c (u i j))->Reads H (some ⟨b,o,none⟩) (l.length*k) (λm=>u (m / k) (m % k))/\Ng S B σ (λm=>u (m / k) (m % k)) k l:=by
  intro b o u d s y;refine⟨.inr ⟨b,o,U,λm Y=>?_⟩,λi e hi=>⟨d i e hi,λj c g=>?_⟩⟩
  .have hi:m / k<l.length:=(Nat.div_lt_iff_lt_mul R).2 Y
   have W:l[m / k]?=some l[m / k]:=Z7 hi
   have g:m % k<l[m / k].cells.length:=by rw[d _ _ W];exact Nat.mod_lt _ R
   obtain⟨p,Z⟩:=s _ _ W (m % k) _ (Z7 g);refine⟨p,?_⟩;have:o+m=o+m / k*k+m % k:=by have:=Nat.div_add_mod m k;rw[Nat.mul_comm] at this;omega
   rw[this];exact Z
  .have aa:j<k:=by rw[<-d i e hi];exact(Zo.1 g).1
   obtain⟨ab,Ρ⟩:=zd (i:=i) aa;simp only[ab,Ρ];exact y i e hi j c g
 have F:∀(base:Option Addr) (cap:Nat),l=[]->v=.slice base 0 cap->∃base cap w,v=.slice base l.length cap/\l.length<=cap/\Reads H base (l.length*k) w/\Ng S B σ w k l:=λbase cap r hv=>by
  subst r;exact⟨base,cap,λ_=>undef,hv,Α _,.inl Ω,λi e hi=>by simp at hi⟩
 unfold RB at h;split at h
 .cases h;obtain⟨base,cap,rfl,d,_,s⟩:=QW Q;by_cases r:l=[]
  .exact F base cap r (by rw[r];rfl)
  .obtain⟨b,o,w,rfl,y,X,I⟩:=s r;have K:A=k:=T.elim (λx=>absurd (Qk.1 x) r) id;subst K;obtain⟨L,M⟩:=V b o w y (λi e hi j c g=>P.Yy _ _ _ (X i e hi j c g)) I;exact⟨_,cap,_,U,d,L,M⟩
 .rename_i id n i len;split at h
  .rename_i t ag C r;split at h
   .rename_i ad;cases h;obtain⟨ah,ai⟩:=ad;have D:((C.drop i).take len).length=len:=by simp;omega
    cases Q with
    | ms cap d s y X I E=>
     rw[r] at d;cases d;rcases E with E|⟨b,N,rfl,rfl,E⟩
     .subst E;have:len=0:=J;subst this;exact F _ 0 Ω U
     .by_cases ae:len=0
      .subst ae;exact F _ cap Ω U
      .have af:¬((C.drop i).take len).isEmpty=true:=λx=>by
        rw[Qk] at x;rw[x] at D;simp at D;omega
       have K:=T.resolve_left af;subst K;obtain⟨aj,ak,al,w,O⟩:=P.row id _ _ r y;have el:∀(x:Nat) (e:Ψ),((C.drop i).take len)[x]?=some e->C[i+x]?=some e:=λx e f=>by
        rw[OH] at f;split at f
        .rw[TI] at f;exact f
        .cases f
       obtain⟨L,M⟩:=V b (i*A) (λx j=>w (i+x) j) (λx e f=>(O _ e (el x e f)).1) (λx e f j c g=>⟨true,by
        have:=((O _ e (el x e f)).2 j c g).1;rw[Wg] at this;exact this⟩) (λx e f j c g=>((O _ e (el x e f)).2 j c g).2.1)
       exact⟨_,cap,_,by rw[D],by rw[D];exact I,L,M⟩
    | Vm v d s=>rw[r] at d;cases d;simp only[Row.Wo] at s;omega
   .cases h
  .cases h
 .cases h
theorem Hp {w1 f:Nat->Value} {k:Nat} {l1 l2:μ} (g:Ng S B σ w1 k l1) (m:Ng S B σ f k l2) (r:l1.all (λe=>e.cells.all (Ψ.Yr σ))=true) (s:l2.all (λe=>e.cells.all (Ψ.Yr σ))=true) (z:ζ) :
  W4 S B σ (((List.range (l1.length*k)).map w1).toArray++((List.range (l2.length*k)).map f).toArray++z) k (l1++l2):=by
 have o:∀(l:μ),l.all (λe=>e.cells.all (Ψ.Yr σ))=true->∀e∈l,∀a∈e.cells,Ψ.Yr σ a=true:=λl h e n a t=>V5.1 (V5.1 h e n) a t;refine⟨by simp[Wg],λi e hi=>?_⟩;by_cases p:i<l1.length
 .rw[Yz p] at hi;refine⟨(g i e hi).1,λj a b=>?_⟩;have u:j<k:=by rw[<-(g i e hi).1];exact(Zo.1 b).1
  have d:i*k+j<l1.length*k:=by
   have:(i+1)*k<=l1.length*k:=Sk k p;rw[Wg] at this;omega
  have c:=(g i e hi).2 j a b;refine⟨w1 (i*k+j),?_,c,c.LQ (o l1 r e (Y1 hi) a (Y1 b))⟩;rw[OJ,NI (by simpa using d)];simp[d]
 .rw[Xj J] at hi;refine⟨(m _ e hi).1,λj a b=>?_⟩;have u:j<k:=by rw[<-(m _ e hi).1];exact(Zo.1 b).1
  have v:i-l1.length<l2.length:=(Zo.1 hi).1
  have d:(i-l1.length)*k+j<l2.length*k:=by
   have:(i-l1.length+1)*k<=l2.length*k:=Sk k v;rw[Wg] at this;omega
  have n:i*k+j=l1.length*k+((i-l1.length)*k+j):=by
   have:i=l1.length+(i-l1.length):=J
   conv=>lhs;rw[this,Wg]
   omega
  have c:=(m _ e hi).2 j a b;refine⟨f ((i-l1.length)*k+j),?_,c,c.LQ (o l2 s e (Y1 hi) a (Y1 b))⟩;rw[n,OJ,KS Ω];rw[NI (by simp;omega)];simp[d]
def Ψ.Nf (Yr:Ψ->Bool) (l:μ):Bool:=l.all λe=>e.cells.all Yr
def P6 (T:ZR) (st xt:TypeId) (b:Ψ->Bool) (σ:Ξ) (s x:Ψ):Y8:=
 match Ut T st xt,s,RB σ x with
 | some (_,k,_),.sl true c a,some (d,l1)=>
  if(a.isEmpty=true\/c=k)/\(l1.isEmpty=true\/d=k)/\Ψ.Nf b a=true/\Ψ.Nf b l1=true then .Y0 (a.length+l1.length<=4294967296) (.ok (.sl false k (a++l1))) else .bad
 | _,_,_=>.bad
theorem zc {k d:Nat} {a:μ} {v:Value} (h:υ S B σ (.sl true d a) v) (e:a.isEmpty=true\/d=k):υ S B σ (.sl false k a) v:=by
 by_cases c:a=[]
 .subst c;obtain⟨base,cap,rfl,_⟩:=QW h;exact .VY base cap Ω
 .have:=e.resolve_left (λx=>c (Qk.1 x));subst this;cases h with
  | VY=>exact absurd rfl c
  | sl b o cap w l f g i j=>exact .sl b o cap w Ω f g i j
theorem Ho {b:Ψ->Bool} (c:∀a:Ψ,b a=true->a.Yr σ=true) {l:μ} (h:Ψ.Nf b l=true):l.all (λe=>e.cells.all (Ψ.Yr σ))=true:=by
 unfold Ψ.Nf at h;rw[V5] at h ⊢;intro e d;have:=h e d;rw[V5] at this ⊢;exact λa f=>c a (this a f)
theorem Ev (D:Zv P T) (j:Holds S B σ H) {n:Ψ->Bool} (o:∀a:Ψ,n a=true->a.Yr σ=true) (st xt E:TypeId) {s x:Ψ} {u v:Value} (l:υ S B σ s u) (F:υ S B σ x v) :
  YS P (Builtin.append_ #[st,xt] E #[u,v]) S B H σ ((P6 T st xt n σ s x).Yo σ):=by
 unfold P6;split
 .rename_i e k I ah g ai l1 f J;split
  .rename_i L;obtain⟨p,M,N,O⟩:=L;refine YS.Y0 (r:=(Y8.ok (.sl false k (g++l1))).Yo σ) λQ K R=>?_;have t:0<k:=by
    unfold Ut at f;split at f<;>try cases f
    split at f<;>try cases f
    split at f<;>try cases f
    rename_i h;exact h.1
   obtain⟨base,cap,w,rfl,_,V,W⟩:=JU j l (k:=k) U t p;obtain⟨aj,ak,w1,rfl,_,X,Y⟩:=JU j F J t M;have al:cap=g.length:=by
    obtain⟨am,an,Z,_,Ρ,_⟩:=QW l;cases Z;exact Ρ U
   have m:∀i H' v,Holds i B σ H'->Ext S B H i B H'->Zm S i B B σ σ->υ i B σ (.sl false k (g++l1)) v->Vu S B H σ K v H':=λi H' v a b c d=>⟨i,B,σ,_,R,b,a,c,d⟩;refine Hq D f V X Q (λaa=>?_) (λ_ y ab=>?_)
   .have ad:l1=[]:=by
     cases l1 with
     | nil=>rfl
     | cons=>simp at aa;omega
    subst ad;have A:υ S B σ (.sl false k (g++[])) (.slice base (g.length+([]:μ).length) cap):=by
     rw[Ul];exact zc l p
    cases base with
    | none=>exact Φ.pure' (m S H _ j (.refl _ _ _) (.refl _ _ _) A)
    | some a=>
     have ae:((List.range (([]:μ).length*k)).map w1)=[]:=Ω;rw[ae];exact Φ.pure' (m S H _ j (.refl _ _ _) (.refl _ _ _) A)
   .refine LO j _ e λr af ag C=>m _ _ _ af ag C ?_;have:=J1 (cap:=y) false C (Hp W Y (Ho o N) (Ho o O) (Builtin.zeroCells I.zero.cells (y-(g.length+l1.length)))) (by simpa using ab) Ω;rw[Vz] at this;exact this
  .exact .bad
 .exact .bad
end
section
variable {P:Program} {T:ZR} {S:κ} {B:Z5} {H:Τ} {σ:Ξ}
theorem zb {st xt e:TypeId} {k:Nat} {a:VX} (h:Ut T st xt=some (e,k,a)):0<k/\a.zero.cells.size=k:=by
 unfold Ut at h;split at h<;>try cases h
 split at h<;>try cases h
 split at h<;>try cases h
 rename_i h;exact⟨h.1,h.2.1⟩
theorem JS {a:Type} (l:List a) (x:a):(l++[x])[l.length]?=some x:=Ω
theorem JR {B:Z5} {σ:Ξ} (a:B.length=σ.length) (bo:Option (Nat×Nat)):(B++[bo])[σ.length]?=some bo:=by rw[<-a];simp
def Oj (H:Τ) (bo:Option (Nat×Nat)) (m:Nat):Value:=match bo with|some (b,_)=>((H.η b m).map (·.1)).getD undef|none=>undef
theorem Eu (z:ζ) (n:Nat):(Builtin.zeroCells z n).size=n*z.size:=by simp[Builtin.zeroCells]
def JQ (T:ZR) (st xt:TypeId) (σ:Ξ) (s x:Ψ):YP:=
 match Ut T st xt,RB σ x with
 | some (e,k,_),some (a,l1)=>
  if(l1.isEmpty=true\/a=k)/\Ψ.Nf (Ψ.Yr σ) l1=true then match s with
   | .sl true _ b=>if b.isEmpty=true then .Y0 (l1.length<=4294967296) (.ok (.ms σ.length l1.length 0 l1.length) (σ++[.cells e k l1])) else .bad
   | .ms id n i len=>match σ[id]? with
    | some (.cells t c l)=>if i=0/\l.length=n/\len=n/\c=k/\t=e then .Y0 (n+l1.length<=4294967296) (.ok (.ms id (n+l1.length) 0 (n+l1.length)) (σ.set id (.cells t k (l++l1)))) else .bad
    | _=>.bad
   | _=>.bad
  else .bad
 | _,_=>.bad
theorem za (ay:Zv P T) (p:Holds S B σ H) (st xt aP:TypeId) {s x:Ψ} {u v:Value} (az:υ S B σ s u) (aQ:υ S B σ x v) :
  YS P (Builtin.append_ #[st,xt] aP #[u,v]) S B H σ (JQ T st xt σ s x):=by
 unfold JQ;split
 .rename_i e k ae bp l1 ak aR;split
  .rename_i aS;obtain⟨aT,aU⟩:=aS;obtain⟨al,aA⟩:=zb ak;obtain⟨bq,br,w1,rfl,_,aB,F⟩:=JU p aQ aR al aT;have am:=Ho (σ:=σ) (λa h=>h) aU;split
   .rename_i bs aV;split
    .rename_i af;have aW:aV=[]:=Qk.1 af;subst aW;refine .Y0 λaC K I=>?_;obtain⟨base,cap,rfl,_,aX,_⟩:=QW az;have aY:cap=0:=aX U;subst aY;refine Hq ay ak (sLen:=0) (wo:=λ_=>undef) (.inl Ω) aB J (λan=>?_) (λ_ y ao=>?_)
     .have aZ:l1=[]:=by
       cases l1 with
       | nil=>rfl
       | cons=>simp at an
      subst aZ;obtain⟨V,W,X⟩:=p.push (H':=H) (r:=.cells e k []) (bo:=none) (λb N e=>by cases e) (λb _=>⟨λ_=>rfl,U,U⟩) (λ_=>rfl);have aD:Vu S B H σ K (.slice base (([]:μ).length+([]:μ).length) 0) H:=⟨S,_,_,_,I,W,V,X,.ms 0 (JS σ _) U (JR p.len _) Ω (Z6 _) (.inl U)⟩;cases base with
      | none=>exact Φ.pure' aD
      | some a=>
       have ap:((List.range (([]:μ).length*k)).map w1)=[]:=Ω;rw[ap];exact Φ.pure' aD
     .have g:W4 S B σ (((List.range (0*k)).map λ_=>undef).toArray++((List.range (l1.length*k)).map w1).toArray++Builtin.zeroCells ae.zero.cells (y-(0+l1.length))) k ([]++l1):=
       Hp (l1:=[]) (λi e hi=>by simp at hi) F Ω am _
      rw[List.nil_append] at g;refine LP p g e λr _ C Q R=>⟨_,_,_,_,I,Q,C,R,?_⟩;simp only[List.length_nil,US];refine .ms y (JS σ _) U (JR p.len _) J (by simpa using ao) (.inr ⟨r,_,U,Ω,?_⟩);simp only[US,Array.size_append,List.size_toArray,X2,List.length_range,Eu,aA,Pt];rw[<-Wg];have:l1.length+(y-l1.length)=y:=by simp at ao;omega
      rw[this];exact Z6 _
    .exact .bad
   .rename_i id n i len;split
    .rename_i t d l g;split
     .rename_i a0;obtain⟨a1,D,a2,a3,a4⟩:=a0;subst a1;subst a2;subst a3;subst a4;refine .Y0 λaC K I=>?_;cases az with
      | @ms _ _ _ _ _ _ _ bo base cap C Q R bt a5 E=>
       rw[g] at C;cases C;have L:=p.row id _ bo g R;have a6:Reads H base (len*d) (Oj H bo):=by
        rcases E with E|⟨b,N,rfl,rfl,E⟩
        .exact .inl (by rw[show len=0 from J];simp)
        .refine .inr ⟨b,0,Ω,λj f=>⟨true,?_⟩⟩;obtain⟨w,A⟩:=L.2.2.1 j (by have:=L.2.1;rw[D] at this;omega);rw[US];simp[A,Oj]
       have a7:l1=[]->Vu S B H σ K (.slice base (len+l1.length) cap) H:=λM=>by
        subst M;have Y:id<σ.length:=(Zo.1 g).1;have a8:σ.set id (.cells t d (l++[]))=σ:=by
         rw[Ul];apply Sj;intro j;by_cases aE:id=j
         .subst aE;rw[V0 Y,g]
         .rw[Vp aE]
        rw[a8] at I;exact⟨S,B,σ,_,I,.refl _ _ _,p,.refl _ _ _,.ms cap g D R Ω a5 E⟩
       have Y:id<σ.length:=(Zo.1 g).1
       have aF:id<B.length:=by rw[p.len];exact Y
       refine Hq ay ak a6 aB aC (λan=>?_) (λa9 y ao=>?_)
       .by_cases M:l1=[]
        .have:=a7 M;subst M;cases base with
         | none=>exact Φ.pure' this
         | some a=>
          have ap:((List.range (([]:μ).length*d)).map w1)=[]:=Ω;rw[ap];exact Φ.pure' this
        .have a':0<l1.length:=RN.2 M;rcases E with E|⟨b,N,rfl,rfl,E⟩
         .omega
         .obtain⟨aG,bu,aH,w,A⟩:=L;have ba:(len+l1.length)*d<=N:=by
           have:(len+l1.length)*d<=(0+cap)*d:=Sk _ J;omega
          rw[Wg] at ba;have bb:(⟨b,0*d,none⟩:Addr).add (len*d)=⟨b,len*d,none⟩:=by rw[Pk];simp
          have aI:((List.range (l1.length*d)).map w1).length=l1.length*d:=Ω
          have VW:∀j,j<l1.length*d->((List.range (l1.length*d)).map w1)[j]?=some (w1 j):=λj f=>by simp[f]
          have aJ:∀(i:Nat) (e:Ψ) (j:Nat) (a:Ψ),l1[i]?=some e->e.cells[j]?=some a->One (w1 (i*d+j)):=λi e j a hi f=>
           ((F i e hi).2 j a f).LQ (V5.1 (V5.1 am e (Y1 hi)) a (Y1 f))
          have bc:∀v∈(List.range (l1.length*d)).map w1,One v:=λv hv=>by
           obtain⟨m,aq,rfl⟩:=YO.1 hv;have bd:m<l1.length*d:=by simpa using aq
           have hi:m / d<l1.length:=(Nat.div_lt_iff_lt_mul al).2 bd
           have aK:=Z7 hi
           have f:m % d<l1[m / d].cells.length:=by rw[(F _ _ aK).1];exact Nat.mod_lt _ al
           have:=aJ _ _ _ _ aK (Z7 f)
           have ag:m / d*d+m % d=m:=by have:=Nat.div_add_mod m d;rw[Nat.mul_comm] at this;exact this
           rw[ag] at this;exact this
          have be:Zm S S B (B.set id (some (b,N))) σ (σ.set id (.cells t d (l++l1)))->U7 S (B.set id (some (b,N))) (σ.set id (.cells t d (l++l1))) (H.Wd b (len*d) ((List.range (l1.length*d)).map w1)) (.cells t d (l++l1)) (some (b,N)):=λah=>by
           refine⟨aG,by simp[Wg,D];omega,λo ar=>?_,λi j=>if i<len then w i j else w1 ((i-len)*d+j),λi e hi=>?_⟩
           .simp only[Τ.Wd];split
            .exact⟨_,U⟩
            .exact aH o ar
           .by_cases Z:i<l.length
            .rw[Yz Z] at hi;refine⟨(A i e hi).1,λj a f=>?_⟩;obtain⟨aa,ai,au⟩:=(A i e hi).2 j a f;have av:j<d:=by rw[<-(A i e hi).1];exact(Zo.1 f).1
             have ab:i*d+j<len*d:=by
              have:(i+1)*d<=len*d:=Sk d J;rw[Wg] at this;omega
             simp only[show i<len by omega,if_true];refine⟨?_,ai.later ah,au⟩;simp only[Τ.Wd];rw[if_neg J];exact aa
            .rw[Xj J,D] at hi;refine⟨(F _ e hi).1,λj a f=>?_⟩;have av:j<d:=by rw[<-(F _ e hi).1];exact(Zo.1 f).1
             have bf:i-len<l1.length:=(Zo.1 hi).1
             have ab:(i-len)*d+j<l1.length*d:=by
              have:(i-len+1)*d<=l1.length*d:=Sk d bf;rw[Wg] at this;omega
             have af:i*d+j=len*d+((i-len)*d+j):=by
              have:i=len+(i-len):=J
              conv=>lhs;rw[this,Wg]
              omega
             simp only[show ¬i<len by omega,if_false];refine⟨?_,((F _ e hi).2 j a f).later ah,aJ _ e j a hi f⟩;simp only[Τ.Wd,aI];rw[if_pos ⟨trivial,J,J⟩];have:i*d+j-len*d=(i-len)*d+j:=J;rw[this,VW _ ab];rfl
          obtain⟨V,W,X⟩:=p.Nn (H':=H.Wd b (len*d) ((List.range (l1.length*d)).map w1)) (r':=.cells t d (l++l1)) (bo':=some (b,N)) g trivial R (.inr λm aq=>by simp only[Row.Wo,Vz];omega) (λad aL O=>.inl ⟨aL,O⟩)
           (λad C _=>by
            have aj:ad≠b:=λO=>by subst O;exact C N U
            exact⟨λo=>by simp[Τ.Wd,aj],U,U⟩) Τ.Hx (J4 p g) be
          show Φ P (storeCells ((⟨b,0*d,none⟩:Addr).add (len*d)) _) H _ _;rw[bb];refine Φ.storeCells (G:=H) U ⟨t,N,aG⟩ _ 0 H bc (λj _ f=>?_) U ?_
          .rw[aI] at f;obtain⟨u,bg⟩:=aH (len*d+j) J;exact⟨u,bg⟩
          .refine⟨S,_,_,_,I,W,V,X,.ms cap (by rw[V0 Y]) (by simp[D]) (by rw[V0 aF]) J an (.inr ⟨b,N,U,U,E⟩)⟩
       .have M:l1≠[]:=by rintro rfl;simp at a9;omega
        have a':0<l1.length:=RN.2 M
        have aw:Ng S B σ (Oj H bo) d l:=λi e hi=>by
         cases bo with
         | none=>have:l=[]:=L
                 rw[this] at hi;simp at hi
         | some x=>
          obtain⟨b,N⟩:=x;obtain⟨_,_,_,w,A⟩:=L;refine⟨(A i e hi).1,λj a f=>?_⟩;obtain⟨aa,ai,_⟩:=(A i e hi).2 j a f;simp only[Oj,aa];exact ai
        have ax:W4 S B σ (((List.range (len*d)).map (Oj H bo)).toArray++((List.range (l1.length*d)).map w1).toArray++Builtin.zeroCells ae.zero.cells (y-(len+l1.length))) d (l++l1):=by
         refine⟨by simp[Wg,D],λi e hi=>?_⟩;by_cases Z:i<l.length
         .rw[Yz Z] at hi;refine⟨(aw i e hi).1,λj a f=>?_⟩;have av:j<d:=by rw[<-(aw i e hi).1];exact(Zo.1 f).1
          have ab:i*d+j<len*d:=by
           have:(i+1)*d<=len*d:=Sk d J;rw[Wg] at this;omega
          refine⟨_,?_,(aw i e hi).2 j a f,?_⟩
          .rw[OJ,NI (by simpa using ab)];simp[ab]
          .cases bo with
           | none=>have:l=[]:=L
                   rw[this] at Z;simp at Z
           | some x=>
            obtain⟨b,N⟩:=x;obtain⟨_,_,_,w,A⟩:=L;obtain⟨aa,ai,au⟩:=(A i e hi).2 j a f;simp only[Oj,aa];exact au
         .rw[Xj J,D] at hi;have:=Hp (l1:=[]) (w1:=λ_=>undef) (k:=d) (λi e hi=>by simp at hi) F Ω am (Builtin.zeroCells ae.zero.cells (y-(len+l1.length)));obtain⟨aM,bh⟩:=this.2 (i-len) e (by simpa using hi);refine⟨aM,λj a f=>?_⟩;obtain⟨x,bi,bj,bk⟩:=bh j a f;have av:j<d:=by rw[<-aM];exact(Zo.1 f).1
          have af:i*d+j=len*d+((i-len)*d+j):=by
           have:i=len+(i-len):=J
           conv=>lhs;rw[this,Wg]
           omega
          refine⟨x,?_,bj,bk⟩;rw[af,OJ,KS Ω];simpa using bi
        refine⟨U,λr aN=>?_⟩;generalize bl:(((List.range (len*d)).map (Oj H bo)).toArray++((List.range (l1.length*d)).map w1).toArray++Builtin.zeroCells ae.zero.cells (y-(len+l1.length)))=c at ax;have bm:y*d<=c.size:=by
         rw[<-bl];simp only[Array.size_append,List.size_toArray,X2,List.length_range,Eu,aA];rw[<-Wg,<-Wg];have:len+l1.length+(y-(len+l1.length))=y:=J;rw[this];exact Z6 _
        obtain⟨V,W,X⟩:=p.Nn (H':=H.Ym r c t) (r':=.cells t d (l++l1)) (bo':=some (r,c.size)) g trivial R (.inr λm aq=>by simp only[Row.Wo,Vz];omega) (λad aL O=>.inr (by cases O;exact aN))
         (λad _ Q=>by
          have aj:ad≠r:=λO=>by subst O;exact Q _ U
          exact⟨λo=>by simp[Τ.Ym,aj],by simp[Τ.Ym,aj],U⟩) (Τ.ER aN c t) (J4 p g) (λah=>by
          have aO:=ax.later ah;refine⟨by simp[Τ.Ym],ax.1,λo ar=>⟨c[o],by simp[Τ.Ym,ar]⟩,λi j=>(c[i*d+j]?).getD undef,λi e hi=>⟨(aO.2 i e hi).1,λj a f=>?_⟩⟩;obtain⟨x,ag,Ρ,bn⟩:=(aO.2 i e hi).2 j a f;simp only[ag,Option.getD_some];exact⟨by simp[Τ.Ym,ag],Ρ,bn⟩)
        exact⟨S,_,_,_,I,W,V,X,.ms y (by rw[V0 Y]) (by simp[D]) (by rw[V0 aF]) J J (.inr ⟨r,c.size,U,Ω,by simpa using bm⟩)⟩
      | Vm v C Q=>rw[g] at C;cases C;simp only[Row.Wo] at Q;omega
     .exact .bad
    .exact .bad
   .exact .bad
  .exact .bad
 .exact .bad
end
section
variable {P:Program} {T:ZR} {S:κ} {B:Z5} {H:Τ} {σ:Ξ}
def RA (o:Option Ψ) (d:Int):Option Int:=match o with
 | none=>some d
 | some (.z (.int _ n))=>some n
 | _=>none
def Oi (S:κ) (B:Z5) (σ:Ξ):Option Ψ->Option Value->Prop
 | none,none=>True
 | some a,some v=>υ S B σ a v
 | _,_=>False
theorem Et {k:IntKind} {n:Int} {y:Nat} {a:BoundsCode} (h:0<=n/\n<=y) {G:Τ} {K:Nat->Τ->Prop} {E:Value->Τ->Prop} (b:K n.toNat G):Φ P (Instr.sliceBound (.int k n) y a) G K E:=by
 unfold Instr.sliceBound;refine Φ.bind' (Φ.pure' ?_);simp only[h,and_self,if_true];exact Φ.pure' b
theorem JP {j:Bool} {len cap:Nat} {lo hi:Option Ψ} {lv hv:Option Value} (f:Oi S B σ lo lv) (g:Oi S B σ hi hv) {a b:Int} (c:RA lo 0=some a) (d:RA hi len=some b) (h:0<=a/\a<=b/\b<=cap) {G:Τ} {K:Nat×Nat×Nat->Τ->Prop} {E:Value->Τ->Prop}
  (i:K (a.toNat,b.toNat,cap) G):Φ P (Instr.sliceBounds j len cap lv hv none) G K E:=by
 unfold Instr.sliceBounds;refine Φ.bind' (Φ.pure' ?_);have low:∀(n:Nat),b.toNat=n->Φ P (match lv with|some v=>Instr.sliceBound v n (if(none:Option Value).isSome then .slice3C else .sliceB)|none=>pure 0) G (λl G'=>Φ P (pure (l,n,cap)) G' K E) E:=λn m=>by
  subst m;cases lo with
  | none=>
   cases lv with
   | some v=>exact f.elim
   | none=>cases c;exact Φ.pure' (Φ.pure' i)
  | some x=>
   cases lv with
   | none=>exact f.elim
   | some v=>
    unfold RA at c;split at c
    .rename_i e;cases e
    .rename_i k n e;cases e;cases c;cases f;exact Et J (Φ.pure' i)
    .cases c
 cases hi with
 | none=>
  cases hv with
  | some v=>exact g.elim
  | none=>
   cases d;refine Φ.bind' (Φ.pure' ?_);have:=low len Ω;cases lv with
   | none=>exact Φ.bind' this
   | some v=>exact Φ.bind' this
 | some x=>
  cases hv with
  | none=>exact g.elim
  | some v=>
   unfold RA at d;split at d
   .rename_i e;cases e
   .rename_i k n e;cases e;cases d;cases g;refine Φ.bind' (Et J ?_);have:=low _ U;cases lv with
    | none=>exact Φ.bind' this
    | some v=>exact Φ.bind' this
   .cases d
def JO (T:ZR) (g:TypeId) (x:Ψ) (lo hi:Option Ψ):Y8:=match T g with
 | some i=>match i.ZE,x with
  | .string,.z (.string s)=>match RA lo 0,RA hi s.size with
   | some a,some b=>.Y0 (0<=a/\a<=b/\b<=s.size) (.ok (.z (.string (s.extract a.toNat b.toNat))))
   | _,_=>.bad
  | .slice e,.sl ex k l=>match T e,RA lo 0,RA hi l.length with
   | some d,some a,some b=>if l.isEmpty=true\/k=d.size then .Y0 (0<=a/\a<=b/\b<=l.length) (.ok (.sl (ex&&hi.isNone) k ((l.take b.toNat).drop a.toNat))) else .bad
   | _,_,_=>.bad
  | .array n e,.ξ f=>match T e with
   | some d=>if d.size=1/\d.agg=false/\n<=f.length/\0<n/\lo.isNone/\hi.isNone/\(f.take n).all (λc=>decide (c.cells.length=1)&&Ψ.Yr [] c) then .ok (.sl true 1 (f.take n)) else .bad
   | none=>.bad
  | _,_=>.bad
 | none=>.bad
def JN (T:ZR) (c:TypeId) (σ:Ξ) (x:Ψ) (lo hi:Option Ψ):YP:=match T c with
 | some i=>match i.ZE,x with
  | .slice e,.ms id n i len=>match T e,σ[id]?,RA lo 0,RA hi len with
   | some d,some (.cells _ k l),some a,some b=>if k=d.size/\l.length=n then .Y0 (0<=a/\a<=b/\b<=len) (.ok (.ms id n (i+a.toNat) (b.toNat-a.toNat)) σ) else .bad
   | _,_,_,_=>.bad
  | _,_=>.bad
 | none=>.bad
theorem y' {ex:Bool} {k:Nat} {l:μ} {base:Option Addr} {len cap:Nat} (h:υ S B σ (.sl ex k l) (.slice base len cap)) {a b f:Nat} (I:a<=b) (K:b<=l.length) (v:l.isEmpty=true\/k=f) (g:Bool) (s:g=true->ex=true/\b=l.length) :
  υ S B σ (.sl g k ((l.take b).drop a)) (.slice (if cap=a then base else base.map (·.add (a*f))) (b-a) (cap-a)):=by
 obtain⟨L,M,e,N,t,y⟩:=QW h;cases e;have d:((l.take b).drop a).length=b-a:=by simp;omega
 by_cases m:(l.take b).drop a=[]
 .rw[m] at d ⊢;have:b-a=0:=by simpa using d.symm
  rw[this];refine .VY _ _ λn=>?_;obtain⟨p,Ρ⟩:=s n;have:=t p;omega
 .have u:l≠[]:=by rintro rfl;simp at m
  obtain⟨A,o,w,rfl,C,D,E⟩:=y u;have F:k=f:=v.resolve_left λx=>u (Qk.1 x);subst F;have O:a<b:=by
   apply Tb;intro P;apply m;have:b-a=0:=J;rw[this] at d;exact YA.1 d
  rw[if_neg J];simp only[Option.map_some,Pk];have el:∀(i:Nat) (e:Ψ),((l.take b).drop a)[i]?=some e->l[a+i]?=some e:=λi e hi=>by
   rw[TI,OH] at hi;split at hi
   .exact hi
   .cases hi
  have H:((l.take b).drop a).length<=cap-a:=by rw[d];omega
  have:=υ.sl (S:=S) (B:=B) (σ:=σ) (ex:=g) (k:=k) (l:=(l.take b).drop a) A (o+a*k) (cap-a) (λi j=>w (a+i) j) (λn=>by obtain⟨p,Ρ⟩:=s n;have:=t p;omega) H
   (λi e hi=>C _ e (el i e hi)) (λi e hi j c r=>by have:=D _ e (el i e hi) j c r;rw[Wg] at this;rw[Ub o];exact this) (λi e hi j c r=>E _ e (el i e hi) j c r)
  rw[d] at this;exact this
theorem y9 (f:Zv P T) (A:Holds S B σ H) (C:TypeId) {x:Ψ} {v:Value} (t:υ S B σ x v) {lo hi:Option Ψ} {lv hv:Option Value} (D:Oi S B σ lo lv) (E:Oi S B σ hi hv) :
  YS P (Instr.sliceAt C v lv hv none) S B H σ ((JO T C x lo hi).Yo σ):=by
 unfold JO;cases m:T C with
 | none=>exact .bad
 | some i=>
  simp only;split
  .rename_i s g;cases t;split
   .rename_i a b F u;refine YS.Y0 (r:=(Y8.ok (.z (.string (s.extract a.toNat b.toNat)))).Yo σ) λh K p=>?_;unfold Instr.sliceAt;refine Φ.bind' (f.ZE m ?_);rw[g];simp only;unfold Instr.slice;refine Φ.bind' (f.ZE m ?_);rw[g];simp only[Option.isSome_none,WX,if_false];refine Φ.bind' (JP D E F u h ?_);exact Φ.pure' (.same A p (.z _))
   .exact .bad
  .rename_i e ex k l g;split
   .rename_i V a b I F u;split
    .rename_i W;refine YS.Y0 (r:=(Y8.ok (.sl (ex&&hi.isNone) k ((l.take b.toNat).drop a.toNat))).Yo σ) λh K p=>?_;obtain⟨base,cap,rfl,M,N,_⟩:=QW t;unfold Instr.sliceAt;refine Φ.bind' (f.ZE m ?_);rw[g];simp only;unfold Instr.slice;refine Φ.bind' (f.ZE m ?_);rw[g];simp only;refine Φ.bind' (JP D E F u J ?_);simp only;refine Φ.bind' (f.size I ?_);refine Φ.pure' (.same A p (y' t J J W _ λL=>?_));simp only[VO] at L;refine⟨L.1,?_⟩;cases hi with
     | none=>cases u;simp
     | some=>simp at L
    .exact .bad
   .exact .bad
  .rename_i n e y g;split
   .rename_i V I;split
    .rename_i X;obtain⟨Y,ad,ae,af,Z,aa,O⟩:=X;intro K p;cases t with
     | ξ b o w M N=>
      cases lo with
      | some=>simp at Z
      | none=>
       cases hi with
       | some=>simp at aa
       | none=>
        cases lv with
        | some=>exact D.elim
        | none=>
         cases hv with
         | some=>exact E.elim
         | none=>
          unfold Instr.sliceAt;refine Φ.bind' (f.ZE m ?_);rw[g];simp only;refine Φ.bind' (Φ.pure' ?_);refine Φ.bind' (JP (S:=S) (B:=B) (σ:=σ) (lo:=none) (hi:=none) (lv:=none) (hv:=none) trivial trivial (a:=0) (b:=n) U U J ?_);simp only[Int.toNat_natCast];refine Φ.bind' (f.size I ?_);rw[Y];refine Φ.pure' (.same A p ?_);have ab:(0:Int).toNat=0:=rfl;rw[ab,if_neg J,Pk];simp only[Pt,Nat.add_zero,Nat.sub_zero];have Q:(y.take n).length=n:=by simp;omega
          rw[V5] at O;have el:∀(i:Nat) (e:Ψ),(y.take n)[i]?=some e->y[i]?=some e/\e.cells=[e]:=λi e hi=>by
           have R:=O e (Y1 hi);simp only[VO] at R;rw[OH] at hi;split at hi
           .exact⟨hi,Ψ.Hu R.2⟩
           .cases hi
          have:=υ.sl (S:=S) (B:=B) (σ:=σ) (ex:=true) (k:=1) (l:=y.take n) b o n (λi _=>w i) (λ_=>Q.symm) J (λi e hi=>by rw[(el i e hi).2];rfl)
           (λi e hi j c d=>by
            rw[(el i e hi).2] at d
            match j with
            | 0=>simp at d;subst d;have:=M i _ (el i _ hi).1;simpa using this
            | j+1=>simp at d) (λi e hi j c d=>by
            rw[(el i e hi).2] at d
            match j with
            | 0=>simp at d;subst d;exact N i _ (el i _ hi).1
            | j+1=>simp at d)
          rw[Q] at this;exact this
    .exact .bad
   .exact .bad
  .exact .bad
theorem y8 (f:Zv P T) (s:Holds S B σ H) (g:TypeId) {x:Ψ} {v:Value} (u:υ S B σ x v) {lo hi:Option Ψ} {lv hv:Option Value} (w:Oi S B σ lo lv) (y:Oi S B σ hi hv) :
  YS P (Instr.sliceAt g v lv hv none) S B H σ (JN T g σ x lo hi):=by
 unfold JN;cases o:T g with
 | none=>exact .bad
 | some O=>
  simp only;split
  .rename_i e id n i len p;split
   .rename_i Q t k l a b A j C D;split
    .rename_i m;obtain⟨E,F⟩:=m;refine .Y0 λh K I=>?_;cases u with
     | ms cap c r L R V d=>
      rw[j] at c;cases c;unfold Instr.sliceAt;refine Φ.bind' (f.ZE o ?_);rw[p];simp only;unfold Instr.slice;refine Φ.bind' (f.ZE o ?_);rw[p];simp only;refine Φ.bind' (JP w y C D J ?_);simp only;refine Φ.bind' (f.size A ?_);refine Φ.pure' (.same s I (.ms (cap-a.toNat) j F L J J ?_));by_cases m:cap=a.toNat
      .exact .inl J
      .rcases d with d|⟨M,N,rfl,rfl,d⟩
       .exact .inl J
       .refine .inr ⟨M,N,U,?_,?_⟩
        .rw[if_neg m];simp only[Option.map_some,Pk,E,Wg]
        .have:i+a.toNat+(cap-a.toNat)=i+cap:=J
         rw[this];exact d
     | Vm v c r=>rw[j] at c;cases c;simp only[Row.Wo] at r;omega
    .exact .bad
   .exact .bad
  .exact .bad
def JM (T:ZR) (a:TypeId) (x:Ψ):Y8:=match T a with
 | some i=>match i.ZE,x with
  | .string,.z (.string s)=>.ok (.z (.int .i64 s.size))
  | .slice _,.sl _ _ l=>.ok (.z (.int .i64 l.length))
  | .array n _,_=>.ok (.z (.int .i64 n))
  | _,_=>.bad
 | none=>.bad
def JL (T:ZR) (a:TypeId) (σ:Ξ) (x:Ψ):YP:=match T a with
 | some i=>match i.ZE,x with
  | .slice _,.ms id n _ len=>match σ[id]? with
   | some (.cells _ _ l)=>if l.length=n then .ok (.z (.int .i64 len)) σ else .bad
   | _=>.bad
  | _,_=>.bad
 | none=>.bad
theorem y7 (c:Zv P T) (h:Holds S B σ H) (d j:TypeId) {x:Ψ} {v:Value} (g:υ S B σ x v):YS P (Builtin.len_ #[d] j #[v]) S B H σ ((JM T d x).Yo σ):=by
 unfold JM;cases hi:T d with
 | none=>exact .bad
 | some i=>
  simp only;have f:∀(K:Ψ->Ξ->Prop) (n:Int),K (.z (.int .i64 n)) σ->Φ P (pure (goInt n):Sem Value) H (Vu S B H σ K) (λ_ _=>False):=λK n a=>Φ.pure' (.same h a (.z _));split
  .rename_i s b;cases g;intro K a;unfold Builtin.len_;refine Φ.bind' (c.ZE hi ?_);rw[b];exact f K _ a
  .rename_i e ex k l b;obtain⟨base,cap,rfl,_⟩:=QW g;intro K a;unfold Builtin.len_;refine Φ.bind' (c.ZE hi ?_);rw[b];exact f K _ a
  .rename_i n e b;intro K a;unfold Builtin.len_;refine Φ.bind' (c.ZE hi ?_);rw[b];cases v<;>exact f K _ a
  .exact .bad
theorem y6 (d:Zv P T) (f:Holds S B σ H) (a g:TypeId) {x:Ψ} {v:Value} (h:υ S B σ x v):YS P (Builtin.len_ #[a] g #[v]) S B H σ (JL T a σ x):=by
 unfold JL;cases hi:T a with
 | none=>exact .bad
 | some i=>
  simp only;split
  .rename_i e id n j len m;split
   .rename_i t k l o;split
    .rename_i r;intro K p;cases h with
     | ms cap b c s u w y=>
      unfold Builtin.len_;refine Φ.bind' (d.ZE hi ?_);rw[m];exact Φ.pure' (.same f p (.z _))
     | Vm v b c=>rw[o] at b;cases b;simp only[Row.Wo] at c;omega
    .exact .bad
   .exact .bad
  .exact .bad
def Nd (T:ZR) (src dst:TypeId) (x:Ψ):Y8:=match T src,T dst with
 | some _,some j=>match j.ZE,x with
  | .int k,.z (.int _ n)=>.ok (.z (.int k (k.wrap n)))
  | _,_=>.bad
 | _,_=>.bad
theorem y5 (a:Zv P T) (b:Holds S B σ H) (src dst:TypeId) {x:Ψ} {v:Value} (c:υ S B σ x v):YS P (convert src dst v) S B H σ ((Nd T src dst x).Yo σ):=by
 unfold Nd;split
 .rename_i i j hi d;split
  .rename_i k kk n e;cases c;intro K f;unfold convert;refine Φ.bind' (a.ZE hi (Φ.bind' (a.ZE d ?_)));rw[e];exact Φ.pure' (.same b f (.z _))
  .exact .bad
 .exact .bad
def JK (l:μ):Y8:=match l with
 | [.z (.int k x),.z (.int _ y)]=>.ok (.z (.int k (if y > x then y else x)))
 | _=>.bad
theorem y4 (c:Holds S B σ H) (d:Array TypeId) (f:TypeId) {a b:Ψ} {u v:Value} (g:υ S B σ a u) (h:υ S B σ b v):YS P (Builtin.max_ d f #[u,v]) S B H σ ((JK [a,b]).Yo σ):=by
 unfold JK;split
 .rename_i k x kk y e;simp at e;obtain⟨rfl,rfl⟩:=e;cases g;cases h;intro K i;exact Φ.pure' (.same c i (.z _))
 .exact .bad
end
def Tx (d:TypeDesc) (x y:Value):Option Bool:=match d,x,y with
 | .int _,.int k a,.int c b=>if k=c then some (a==b) else none
 | .string,.string a,.string b=>some (a==b)
 | .bool,.bool a,.bool b=>some (a==b)
 | _,_,_=>none
def U6:List (TypeDesc×Nat)->μ->μ->Option Bool
 | [],_,_=>some true
 |(d,o)::r,xs,a=>match xs[o]?,a[o]? with
  | some (.z x),some (.z y)=>match Tx d x y,U6 r xs a with
   | some b,some c=>some (b&&c)
   | _,_=>none
  | _,_=>none
def aeqv (T:ZR) (e:TypeId) (a b:Ψ):Option Bool:=match T e with
 | some i=>match a,b with
  | .z x,.z y=>if Vv i.ZE then Tx i.ZE x y else none
  | .ZW xs,.ZW d=>match i.eqs with|some c=>if xs.length=c.length/\d.length=c.length then U6 c xs d else none|none=>none
  | _,_=>none
 | none=>none
section
variable {P:Program} {T:ZR} {S:κ} {B:Z5} {H:Τ} {σ:Ξ}
theorem Φ.forIn_nil {b a:Type} {c:a} {f:b->a->Sem (ForInStep a)} {G:Τ} {K:a->Τ->Prop} {E:Value->Τ->Prop} (h:K c G):Φ P (forIn ([]:List b) c f) G K E:=by
 rw[List.forIn_nil];exact h
theorem Φ.forIn_cons {d c:Type} {a:d} {l:List d} {e:c} {f:d->c->Sem (ForInStep c)} {G:Τ} {K:c->Τ->Prop} {E:Value->Τ->Prop}
  (h:Φ P (f a e) G (λr G'=>match r with|.done b=>K b G'|.yield b=>Φ P (forIn l b f) G' K E) E):Φ P (forIn (a::l) e f) G K E:=by
 rw[List.forIn_cons];refine Φ.bind' (Φ.mono (λr G' g=>?_) (λ_ _ h=>h) _ h);cases r with
 | done b=>exact Φ.pure' g
 | yield b=>exact g
theorem forIn_range {a:Type} (m:Nat) (b:a) (f:Nat->a->Sem (ForInStep a)):forIn [:m] b f=forIn (List.range m) b f:=by
 rw[Std.Legacy.Range.forIn_eq_forIn_range'];simp[Std.Legacy.Range.size,KI]
theorem Hn {c:TypeId} {d:TypeDesc} (hd:P.underlying c=some d) (f:Vv d=true) {x y:Value} {b:Bool} (h:Tx d x y=some b) {n:Nat} {G:Τ} {K:Bool->Τ->Prop} {E:Value->Τ->Prop} (a:K b G):Φ P (Op.equalIn (n+1) c x y) G K E:=by
 unfold Op.equalIn;refine Φ.bind' (Φ.underlying hd ?_);unfold Tx at h;split at h
 .split at h
  .rename_i e;subst e;cases h;simp only[if_true];exact Φ.pure' a
  .cases h
 .cases h;exact Φ.pure' a
 .cases h;exact Φ.pure' a
 .cases h
def Hm (xs:μ) (vs:ζ):Prop:=∀(o:Nat) (v:Value),xs[o]?=some (Ψ.z v)->vs[o]?=some v
theorem LK {xs:μ} {vs:ζ} (h:υ S B σ (.ZW xs) (.agg vs)):Hm xs vs:=λo v hv=>by
 cases h with
 | ZW _ b c=>
  have d:o<vs.size:=by rw[<-b];exact(Zo.1 hv).1
  have a:=Xu d
  have:=c o _ _ hv a;generalize vs[o]=u at this a;cases this;exact a
theorem LJ {a:TypeId} {d:TypeDesc} (hd:P.underlying a=some d) (b:Vv d=true) {vs:ζ} {o:Nat} {v:Value} (hv:vs[o]?=some v) {G:Τ} {K:Value->Τ->Prop} {E:Value->Τ->Prop} (c:K v G):Φ P (part a vs o) G K E:=by
 unfold part;refine Φ.bind' (Φ.isAgg hd ?_);have:Uj d=false:=by cases d<;>first|rfl|cases b
 rw[this];simp only[WX,if_false,hv];exact Φ.pure' c
theorem y3 {xs u:μ} {vs t:ζ} (Q:Hm xs vs) (R:Hm u t) {v:TypeId} {S:List (TypeDesc×Nat)} (w:Hw P v (some S)) {b:Bool} (h:U6 S xs u=some b) {n:Nat} {G:Τ} {K:Bool->Τ->Prop} {E:Value->Τ->Prop} (T:K b G) :
  Φ P (Op.equalIn (n+2) v (.agg vs) (.agg t)) G K E:=by
 obtain⟨_,_,w⟩:=w;rcases w with⟨A,B,V,C,W⟩|⟨m,e,d,f,B,D,p,X,Y,C⟩
 .unfold Op.equalIn;refine Φ.bind' (Φ.underlying B ?_);simp only;refine Φ.bind' ?_;show Φ P (if P.stoodInHeld v=true then _ else _) G K E;rw[V];simp only[WX,if_false];have F:∀(l:List Field) (c:Bool),(∀f∈l,f.name≠ "_" /\ ∃d,P.underlying f.type=some d/\Vv d=true)->U6 (l.map λf=>((P.underlying f.type).getD .invalid,f.offset)) xs u=some c->
    ∀k:Option Bool×PUnit->Τ->Prop,k (if c then none else some false,⟨⟩) G->Φ P (forIn l (none,⟨⟩) λ(f:Field) (_:Option Bool×PUnit)=>if f.name≠ "_" then do
     let a <-part f.type vs f.offset
     let b <-part f.type t f.offset
     let r <-Op.equalIn (n+1) f.type a b
     if(!r)=true then pure (ForInStep.done (some false,⟨⟩)) else pure (ForInStep.yield (none,⟨⟩))
    else pure (ForInStep.yield (none,⟨⟩))) G k E:=by
   intro l
   induction l with
   | nil=>intro c _ j k o;simp[U6] at j;subst j;exact .forIn_nil (by simpa using o)
   | cons f l H=>
    intro c U j k o;obtain⟨Z,d,hd,p⟩:=U f Ω;simp only[WZ,U6,hd,Option.getD_some] at j;split at j<;>try cases j
    rename_i x y I J;split at j<;>try cases j
    rename_i L M N O;refine .forIn_cons ?_;rw[if_pos Z];refine Φ.bind' (LJ hd p (Q _ _ I) (Φ.bind' (LJ hd p (R _ _ J) (Φ.bind' (Hn hd p N ?_)))));cases L with
    | false=>exact Φ.pure' (by simpa using o)
    | true=>exact Φ.pure' (H M (λg aa=>U g (by simp[aa])) O k (by simpa using o))
  refine Φ.bind' ?_;have ab:(forIn A (none,⟨⟩) λ(f:Field) (_:Option Bool×PUnit)=>if f.name≠ "_" then do
     let a <-part f.type vs f.offset
     let b <-part f.type t f.offset
     let r <-Op.equalIn (n+1) f.type a b
     if(!r)=true then pure (ForInStep.done (some false,⟨⟩)) else pure (ForInStep.yield (none,⟨⟩))
    else pure (ForInStep.yield (none,⟨⟩)):Sem (Option Bool×PUnit))=forIn A.toList (none,⟨⟩) _:=(Array.forIn_toList ..).symm
  refine Eq.mpr (congrArg (λs=>Φ P s G _ E) ab) ?_;refine F A.toList b W (by rw[<-C];exact h) _ ?_;cases b<;>exact Φ.pure' T
 .unfold Op.equalIn;refine Φ.bind' (Φ.underlying B ?_);simp only;refine Φ.bind' (Φ.sizeOf X ?_);rw[Y];have F:∀(l:ο) (c:Bool),U6 (l.map λi=>(d,i)) xs u=some c->
    ∀k:Option Bool×PUnit->Τ->Prop,k (if c then none else some false,⟨⟩) G->Φ P (forIn l (none,⟨⟩) λ(i:Nat) (_:Option Bool×PUnit)=>do
     let a <-part e vs (i*1)
     let b <-part e t (i*1)
     let r <-Op.equalIn (n+1) e a b
     if(!r)=true then pure (ForInStep.done (some false,⟨⟩)) else pure (ForInStep.yield (none,⟨⟩))) G k E:=by
   intro l
   induction l with
   | nil=>intro c j k o;simp[U6] at j;subst j;exact .forIn_nil (by simpa using o)
   | cons i l H=>
    intro c j k o;simp only[WZ,U6] at j;split at j<;>try cases j
    rename_i x y I J;split at j<;>try cases j
    rename_i L M N O;refine .forIn_cons ?_;refine Φ.bind' (LJ D p (by rw[RL];exact Q _ _ I) (Φ.bind' (LJ D p (by rw[RL];exact R _ _ J) (Φ.bind' (Hn D p N ?_)))));cases L with
    | false=>exact Φ.pure' (by simpa using o)
    | true=>exact Φ.pure' (H M O k (by simpa using o))
  refine Φ.bind' ?_;rw[forIn_range];refine F (List.range m) b (by rw[<-C];exact h) _ ?_;cases b<;>exact Φ.pure' T
theorem Hl (j:Zv P T) {c:TypeId} {a b:Ψ} {v w:Value} {r:Bool} (d:υ S B σ a v) (e:υ S B σ b w) (h:aeqv T c a b=some r) {K:Bool->Τ->Prop} {E:Value->Τ->Prop} (f:K r H):Φ P (Op.equal c v w) H K E:=by
 unfold aeqv at h;split at h
 .rename_i i hi;obtain⟨⟨k,g⟩,_⟩:=j c i hi;split at h
  .split at h
   .rename_i l;cases d;cases e;exact Hn k l h f
   .cases h
  .split at h
   .rename_i u m;rw[m] at g;split at h<;>try cases h
    cases d with
    | ZW vs n o=>cases e with
     | ZW p s t=>exact y3 (LK (.ZW vs n o)) (LK (.ZW p s t)) g h f
   .cases h
  .cases h
 .cases h
theorem Es (a b:ByteArray):(a==b)=(a.data==b.data):=by
 cases a;cases b;rfl
theorem y2 {a b:ByteArray} (h:(a==b)=true):a=b:=by
 rw[Es] at h;have:=eq_of_beq h;cases a;cases b;simp at this;simp[this]
theorem y1 (a:ByteArray):(a==a)=true:=by rw[Es];exact beq_self_eq_true _
theorem Er {d:TypeDesc} {x y:Value} (h:Tx d x y=some true):x=y/\∀n,Instr.sameBits n x x=true:=by
 unfold Tx at h;split at h
 .split at h
  .rename_i e;subst e;simp only[Qo,beq_iff_eq] at h;subst h;exact⟨U,λn=>by cases n<;>simp[Instr.sameBits]⟩
  .cases h
 .simp only[Qo] at h;have:=y2 h;subst this;exact⟨U,λn=>by cases n<;>simp[Instr.sameBits,y1]⟩
 .simp only[Qo,beq_iff_eq] at h;subst h;exact⟨U,λn=>by cases n<;>simp[Instr.sameBits]⟩
 .cases h
theorem y0 {xs g:μ}:∀(f:List (TypeDesc×Nat)),U6 f xs g=some true->∀o,o∈f.map (·.2)->∃x,xs[o]?=some (.z x)/\g[o]?=some (.z x)/\∀n,Instr.sameBits n x x=true:=by
 intro f
 induction f with
 | nil=>intro _ o e;simp at e
 | cons a f i=>
  obtain⟨d,p⟩:=a;intro h o e;simp only[U6] at h;split at h<;>try cases h
  rename_i x y j k;split at h<;>try cases h
  rename_i b c l m;simp only[Qo,VO] at h;obtain⟨rfl,rfl⟩:=h;simp only[WZ,Y9] at e;rcases e with rfl|e
  .obtain⟨r,Ρ⟩:=Er l;subst r;exact⟨x,j,k,Ρ⟩
  .exact i m o e
theorem yZ (C:Zv P T) {r:TypeId} {a b:Ψ} {v w:Value} (s:υ S B σ a v) (t:υ S B σ b w) (h:aeqv T r a b=some true):v=w/\a=b/\∀n,Instr.sameBits (n+1) v v=true:=by
 unfold aeqv at h;split at h
 .rename_i i hi;obtain⟨⟨O,u⟩,_⟩:=C r i hi;split at h
  .split at h
   .obtain⟨f,Ρ⟩:=Er h;subst f;cases s;cases t;exact⟨U,U,λn=>Ρ _⟩
   .cases h
  .rename_i xs y;split at h
   .rename_i d D;rw[D] at u;split at h<;>try cases h
    rename_i E;obtain⟨Q,R⟩:=E;have F:=u.2.1;have get:∀o,o<d.length->∃x,xs[o]?=some (.z x)/\y[o]?=some (.z x)/\∀n,Instr.sameBits n x x=true:=λo c=>y0 d h o (by rw[F];simpa using c);have H:xs=y:=by
     apply Sj;intro o;by_cases c:o<d.length
     .obtain⟨x,g,j,_⟩:=get o c;rw[g,j]
     .rw[Uc J,Uc J]
    cases s with
    | ZW vs g j=>cases t with
     | ZW k I K=>
      have A:∀o,o<d.length->∃x,vs[o]?=some x/\k[o]?=some x/\∀n,Instr.sameBits n x x=true:=λo c=>by
       obtain⟨x,e,l,m⟩:=get o c;exact⟨x,LK (.ZW vs g j) o x e,LK (.ZW k I K) o x l,m⟩
      have L:vs=k:=by
       apply NC;intro o;by_cases c:o<d.length
       .obtain⟨x,e,l,_⟩:=A o c;rw[e,l]
       .rw[NH J,NH J]
      subst L;refine⟨U,by rw[H],λn=>?_⟩;simp only[Instr.sameBits,beq_self_eq_true,Bool.true_and,V5];intro p M;obtain⟨o,c⟩:=Sl M;rw[List.getElem?_zip_eq_some] at c;have N:o<d.length:=by
       have:=(Zo.1 c.1).1;simp at this;omega
      obtain⟨x,e,_,m⟩:=A o N;rw[Wh,e] at c;obtain⟨f,Ρ⟩:=c;cases f;rw[<-WW Ρ];exact m n
   .cases h
  .cases h
 .cases h
end
end Go.TL
