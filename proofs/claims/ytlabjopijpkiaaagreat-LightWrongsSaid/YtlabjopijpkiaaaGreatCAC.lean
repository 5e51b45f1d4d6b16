import Derived.IntWalk
import Derived.Laws.Sem
import Derived.Test.YtlabjopijpkiaaaGreatCAB
set_option maxHeartbeats 16000000
set_option maxRecDepth 20000
set_option linter.unusedSectionVars false
set_option linter.unusedSimpArgs false
set_option linter.unusedVariables false
namespace Go.TL
open Go.IntKind (i64)
open Go.Conc
def Qk (S:ο) (B:Z8) (σ:Ρ) (es:List (I×I)) (xs:Array MapEntry) (a:Nat):Prop:=
 es.length=xs.size/\(∀(i:Nat) (e:I×I) (y:MapEntry),es[i]?=some e->xs[i]?=some y->ς S B σ e.1 y.key/\ς S B σ e.2 y.val/\y.born<a)/\
 ∀(i j:Nat) (y z:MapEntry),xs[i]?=some y->xs[j]?=some z->i<j->y.born<z.born
def Kt (S:ο) (B:Z8) (σ:Ρ) (left:List (I×I)) (c:Option (I×I)) (xs:Array MapEntry) (d:Nat) (seen:Array Nat):Prop:=
 (∃a:List MapEntry,a=xs.toList.filter (λe=>!seen.contains e.born)/\left.length=a.length/\∀(i:Nat) (e:I×I) (y:MapEntry),left[i]?=some e->a[i]?=some y->ς S B σ e.1 y.key/\ς S B σ e.2 y.val)/\
 (∀y∈xs,y.born<d)/\
 ∀e,c=some e->∃b y,seen.back?=some b/\xs.find? (·.born==b)=some y/\ς S B σ e.1 y.key/\ς S B σ e.2 y.val
def Vh (S:ο) (B:Z8) (σ:Ρ) (H:Ψ) (r:Row) (bo:Option (Nat×Nat)):Prop:=
 match r with
 | .cells t k l=>match bo with
  | none=>l=[]
  | some (b,N)=>H.row b=some (t,N)/\l.length*k<=N/\(∀o,o<N->∃w,H.κ b o=some (w,true))/\
   ∃w:Nat->Nat->Value,∀(i:Nat) (e:I),l[i]?=some e->e.cells.length=k/\∀(j:Nat) (a:I),e.cells[j]?=some a->H.κ b (i*k+j)=some (w i j,true)/\ς S B σ a (w i j)/\One (w i j)
 | .map es=>∃b N xs c,bo=some (b,N)/\H.obj b=some (.map xs c)/\Qk S B σ es xs c
 | .iter m left f=>∃b N d g xs c seen,bo=some (b,N)/\B[m]?=some (some (d,g))/\(∃es,σ[m]?=some (.map es))/\H.obj b=some (.mapIter (some d) c seen c)/\H.obj d=some (.map xs c)/\Kt S B σ left f xs c seen
 | .dead=>True
def Row.live (r:Row):Prop:=match r with|.dead=>False|_=>True
structure Holds (S:ο) (B:Z8) (σ:Ρ) (H:Ψ):Prop where
 YL:∀b o v,S b o=some v->∃p,H.κ b o=some (v,p)
 len:B.length=σ.length
 row:∀(id:Nat) (r:Row) (bo:Option (Nat×Nat)),σ[id]?=some r->B[id]?=some bo->Vh S B σ H r bo
 inj:∀(i j:Nat) (a c:Row) (b d e:Nat),i≠j->σ[i]?=some a->σ[j]?=some c->a.live->c.live->B[i]?=some (some (b,d))->B[j]?=some (some (b,e))->False
 sep:∀(id:Nat) (r:Row) (b N:Nat),σ[id]?=some r->r.live->B[id]?=some (some (b,N))->∀o,S b o=none
def Z8.has (B:Z8) (b:Nat):Prop:=∃N,some (b,N)∈B
def Tc (c:ο) (a H:Ψ) (b:Nat):Prop:=
 (∀o,H.κ b o=a.κ b o\/∃v p,c b o=some v/\a.κ b o=some (v,p)/\H.κ b o=some (v,false))/\H.row b=a.row b/\H.obj b=a.obj b
theorem Tc.of {c:ο} {a H:Ψ} {b:Nat} (h:(∀o,H.κ b o=a.κ b o)/\H.row b=a.row b/\H.obj b=a.obj b):Tc c a H b:=⟨λo=>.inl (h.1 o),h.2⟩
structure Ext (c:ο) (d:Z8) (a:Ψ) (S:ο) (B:Z8) (H:Ψ):Prop where
 YL:∀b o v,c b o=some v->S b o=some v
 Xp:∀b,¬d.has b->¬a.fresh b->Tc c a H b
 blocks:∀b,B.has b->d.has b\/a.fresh b
 Q4:∀b o v,S b o=some v->c b o=some v\/d.has b\/a.fresh b
 grow:∀b,H.fresh b->a.fresh b
theorem Ext.refl (S:ο) (B:Z8) (H:Ψ):Ext S B H S B H:=⟨λ_ _ _ h=>h,λ_ _ _=>Tc.of ⟨λ_=>rfl,rfl,rfl⟩,λ_ h=>.inl h,λ_ _ _ h=>.inl h,λ_ h=>h⟩
theorem Ext.trans {j l m:ο} {n d r:Z8} {s f t:Ψ} (h:Ext j n s l d f) (k:Ext l d f m r t):Ext j n s m r t:=by
 refine⟨λb o v x=>k.YL b o v (h.YL b o v x),λb a c=>?_,λb a=>?_,λb o v hv=>?_,λb x=>h.grow b (k.grow b x)⟩
 .have g:=h.Xp b a c
  have C:¬f.fresh b:=λx=>c (h.grow b x)
  have D:¬d.has b:=λx=>(h.blocks b x).elim a c
  have Φ:=k.Xp b D C;refine⟨λo=>?_,Φ.2.1.trans g.2.1,Φ.2.2.trans g.2.2⟩;rcases Φ.1 o with x|⟨v,p,w,E,A⟩<;>rcases g.1 o with y|⟨u,q,i,B,F⟩
  .exact .inl (x.trans y)
  .exact .inr ⟨u,q,i,B,x.trans F⟩
  .rcases h.Q4 b o v w with z|z|z
   .exact .inr ⟨v,p,z,by rw[<-y];exact E,A⟩
   .exact absurd z a
   .exact absurd z c
  .have e:=h.YL b o u i
   have:v=u:=by rw[w] at e;exact W3 e
   subst this;exact .inr ⟨v,q,i,B,A⟩
 .rcases k.blocks b a with x|x
  .exact h.blocks b x
  .exact .inr (h.grow b x)
 .rcases k.Q4 b o v hv with x|x|x
  .exact h.Q4 b o v x
  .exact .inr (h.blocks b x)
  .exact .inr (.inr (h.grow b x))
abbrev Δ:=List (Nat×I)
abbrev Yf:=I->Δ->Ρ->Prop
abbrev XZ:=List Item->Δ->Ρ->Prop
def Z7:Δ->Nat->I
 | [],_=>.Zk
 |(j,a)::r,i=>if j=i then a else Z7 r i
def YS (S:ο) (B:Z8) (σ:Ρ) (env:Δ) (t:Array Value):Prop:=∀i,ς S B σ (Z7 env i) (t.getD i undef)
theorem YS.later {S a:ο} {B B':Z8} {σ σ':Ρ} {env:Δ} {t:Array Value} (h:YS S B σ env t) (b:Zw S a B B' σ σ'):YS a B' σ' env t:=λi=>(h i).later b
theorem YS.put {S:ο} {B:Z8} {σ:Ρ} {env:Δ} {t:Array Value} (h:YS S B σ env t) {d:Nat} (hd:d<t.size) {a:I} {v:Value} (b:ς S B σ a v):YS S B σ ((d,a)::env) (t.setIfInBounds d v):=by
 intro i;simp only[Z7];split
 .rename_i e;subst e;simpa[WU,hd] using b
 .rename_i e;have:=h i;rw[WU] at this ⊢
  rwa [UW e]
theorem Fs {S:ο} {B:Z8} {σ:Ρ} {H:Ψ} (a:Holds S B σ H) {id:Nat} {r:Row} (h:σ[id]?=some r):∃bo,B[id]?=some bo:=by
 have:id<B.length:=by rw[a.len];exact(Zu.1 h).1
 exact⟨_,ε this⟩
def UG:TypeDesc->Bool
 | .struct _|.array _ _=>true
 | _=>false
section
variable {P:Program} {α β:Type} {G:Ψ} {E:Value->Ψ->Prop}
theorem Ω.mono {K K':α->Ψ->Prop} {E':Value->Ψ->Prop} (j:∀a G,K a G->K' a G) (l:∀v G,E v G->E' v G) (s:Sem α):∀{G:Ψ},Ω P s G K E->Ω P s G K' E':=by
 induction s with
 | pure a=>intro G h;exact j _ _ h
 | load m a k b=>intro G ⟨d,e,v,p,f,g⟩;exact⟨d,e,v,p,f,b v g⟩
 | store m a v k b=>intro G ⟨d,e,f,g,u,w⟩;exact⟨d,e,f,g,u,b w⟩
 | new o k b=>
  intro G h;cases o with
  | cells c t y=>exact⟨h.1,λr i=>b r (h.2 r i)⟩
  | _=>exact λr i=>b r (h r i)
 | shape r k b=>intro G ⟨t,n,d,e⟩;exact⟨t,n,d,b _ e⟩
 | freeze a n k b=>intro G h;exact h.elim
 | frozen a k b=>intro G ⟨d,e⟩;exact⟨d,b _ e⟩
 | getObj r k b=>intro G ⟨o,d,e,f⟩;exact⟨o,d,e,b _ f⟩
 | setObj r o k b=>intro G ⟨d,e,f,g⟩;exact⟨d,e,f,b g⟩
 | choose q k b=>
  intro G h;simp only[Ω] at h ⊢;split
  .rw[if_pos ‹_›] at h;exact b _ h
  .rw[if_neg ‹_›] at h;exact λn=>b _ (h n)
 | sys c k b=>intro G h;exact h.elim
 | program k b=>intro G h;exact b P h
 | mark m k b=>intro G ⟨d,e⟩;exact⟨d,b e⟩
 | halt x=>
  intro G h;cases x<;>first|exact h.elim|exact l _ _ h
theorem Ω.bind {f:α->Sem β} {K:β->Ψ->Prop} (s:Sem α):∀{G:Ψ},Ω P s G (λa G'=>Ω P (f a) G' K E) E->Ω P (s.bind f) G K E:=by
 induction s with
 | pure a=>intro G h;exact h
 | load m a k b=>intro G ⟨d,e,v,p,g,i⟩;exact⟨d,e,v,p,g,b v i⟩
 | store m a v k b=>intro G ⟨d,e,g,i,l,u⟩;exact⟨d,e,g,i,l,b u⟩
 | new o k b=>
  intro G h;cases o with
  | cells c t w=>exact⟨h.1,λr j=>b r (h.2 r j)⟩
  | _=>exact λr j=>b r (h r j)
 | shape r k b=>intro G ⟨t,n,d,e⟩;exact⟨t,n,d,b _ e⟩
 | freeze a n k b=>intro G h;exact h.elim
 | frozen a k b=>intro G ⟨d,e⟩;exact⟨d,b _ e⟩
 | getObj r k b=>intro G ⟨o,d,e,g⟩;exact⟨o,d,e,b _ g⟩
 | setObj r o k b=>intro G ⟨d,e,g,i⟩;exact⟨d,e,g,b i⟩
 | choose q k b=>
  intro G h;simp only[Ω] at h;simp only[Sem.bind,Ω];split
  .rw[if_pos ‹_›] at h;exact b _ h
  .rw[if_neg ‹_›] at h;exact λn=>b _ (h n)
 | sys c k b=>intro G h;exact h.elim
 | program k b=>intro G h;exact b P h
 | mark m k b=>intro G ⟨d,e⟩;exact⟨d,b e⟩
 | halt x=>
  intro G h;cases x<;>first|exact h.elim|exact h
theorem Ω.bind' {f:α->Sem β} {K:β->Ψ->Prop} {s:Sem α} (h:Ω P s G (λa G'=>Ω P (f a) G' K E) E):Ω P (s >>= f) G K E:=Ω.bind s h
theorem Ω.pure' {a:α} {K:α->Ψ->Prop} (h:K a G):Ω P (pure a) G K E:=h
theorem Ω.underlying {t:TypeId} {d:TypeDesc} {K:TypeDesc->Ψ->Prop} (hd:P.underlying t=some d) (h:K d G):Ω P (Go.underlying t) G K E:=by
 unfold Go.underlying;refine Ω.bind' ?_;show Ω P (match P.underlying t with|some d=>pure d|none=>_) G K E;rw[hd];exact h
theorem Ω.typeInfo {t:TypeId} {i:TypeInfo} {K:TypeInfo->Ψ->Prop} (hi:P.info? t=some i) (h:K i G):Ω P (Go.typeInfo t) G K E:=by
 unfold Go.typeInfo;refine Ω.bind' ?_;show Ω P (match P.info? t with|some i=>pure i|none=>_) G K E;have:P.info? t=some i:=hi;rw[this];exact h
theorem Ω.sizeOf {t:TypeId} {i:TypeInfo} {K:Nat->Ψ->Prop} (hi:P.info? t=some i) (h:K i.size G):Ω P (Go.sizeOf t) G K E:=by
 unfold Go.sizeOf;exact Ω.bind' (Ω.typeInfo hi (Ω.pure' h))
theorem Ω.isAgg {t:TypeId} {d:TypeDesc} {K:Bool->Ψ->Prop} (hd:P.underlying t=some d) (h:K (UG d) G):Ω P (Go.isAgg t) G K E:=by
 unfold Go.isAgg;refine Ω.bind' (Ω.underlying hd ?_);cases d<;>exact h
theorem Ω.zeroValue {t:TypeId} {i:TypeInfo} {v:Value} {K:Value->Ψ->Prop} (hi:P.info? t=some i) (a:i.zero=some v) (h:K v G):Ω P (Go.zeroValue t) G K E:=by
 unfold Go.zeroValue;refine Ω.bind' (Ω.typeInfo hi ?_);rw[a];exact h
theorem Ω.Au {a:Addr} (w:Nat->Value) {K:Array Value->Ψ->Prop}:∀(n i:Nat) (b:Array Value),a.spot=none->(∀j,i<=j->j<i+n->∃p,G.κ a.block (a.off+j)=some (w j,p))->K (b++((List.range n).map λj=>w (i+j)).toArray) G->Ω P (loadCellsFrom a i n b) G K E:=by
 intro n
 induction n with
 | zero=>intro i b _ _ h;simp at h;exact h
 | succ n e=>
  intro i b c d h;unfold loadCellsFrom;refine Ω.bind' ?_;obtain⟨p,f⟩:=d i (Z1 _) U;have g:(a.add i).spot=none:=by unfold Addr.add;split<;>simp[c]
  have Φ:(a.add i).block=a.block:=by unfold Addr.add;split<;>rfl
  have k:(a.add i).off=a.off+i:=by unfold Addr.add;split<;>simp_all
  refine⟨rfl,g,w i,p,by rw[Φ,k];exact f,?_⟩;refine e (i+1) (b.push (w i)) c (λj l m=>d j U U) ?_;have:b.push (w i)++((List.range n).map λj=>w (i+1+j)).toArray=b++((List.range (n+1)).map λj=>w (i+j)).toArray:=by
   rw[List.range_succ_eq_map];apply NM;simp[Function.comp_def,SZ,ON 1]
  rw[this];exact h
theorem Ω.loadCells {a:Addr} (w:Nat->Value) {n:Nat} {K:Array Value->Ψ->Prop} (b:a.spot=none) (c:∀j,j<n->∃p,G.κ a.block (a.off+j)=some (w j,p)) (h:K ((List.range n).map w).toArray G):Ω P (Go.loadCells a n) G K E:=by
 unfold Go.loadCells;exact Ω.Au w n 0 #[] b (λj _ d=>c j U) (by simpa using h)
def Ψ.WH (G:Ψ) (b o:Nat) (vs:List Value):Ψ:={G with κ:=λa o'=>if a=b/\o<=o'/\o'<o+vs.length then some ((vs[o'-o]?).getD undef,true) else G.κ a o'}
theorem Ψ.H2 {H:Ψ} {b o:Nat} {vs:List Value}:∀r,(H.WH b o vs).fresh r->H.fresh r:=
 Ψ.H6 (λa o' h=>by
  simp only[Ψ.WH] at h;split at h
  .cases h
  .exact h) (λ_ h=>h) (λ_ h=>h)
theorem Ω.storeCells {a:Addr} {K:Unit->Ψ->Prop} (m:a.spot=none) (o:∃t n,G.row a.block=some (t,n)):∀(vs:List Value) (i:Nat) (G':Ψ),(∀v∈vs,One v)->(∀j,i<=j->j<i+vs.length->G'.owns a.block (a.off+j))->(G'.row=G.row)->K () (G'.WH a.block (a.off+i) vs)->Ω P (Go.storeCells a vs i) G' K E:=by
 intro vs
 induction vs with
 | nil=>
  intro i G' _ _ _ h;have:G'.WH a.block (a.off+i) []=G':=by
   unfold Ψ.WH;have:∀b o',¬(b=a.block/\a.off+i<=o'/\o'<a.off+i+([]:List Value).length):=λb o' h=>by simp at h;omega
   simp only[this,if_false]
  rw[this] at h;exact h
 | cons v vs p=>
  intro i G' g k l h;unfold Go.storeCells;refine Ω.bind' ?_;have r:(a.add i).spot=none:=by unfold Addr.add;split<;>simp[m]
  have Φ:(a.add i).block=a.block:=by unfold Addr.add;split<;>rfl
  have d:(a.add i).off=a.off+i:=by unfold Addr.add;split<;>simp_all
  refine⟨rfl,r,by rw[Φ,d];exact k i (Z1 _) J,by rw[Φ,l];exact o,g v J,?_⟩;refine p (i+1) _ (λv hv=>g v (by simp[hv])) (λj e f=>?_) l ?_
  .obtain⟨u,s⟩:=k j U (by simp;omega);refine⟨u,?_⟩;simp only[Ψ.Ox,Φ,d];rw[if_neg U];exact s
  .have:(G'.Ox (a.add i) v).WH a.block (a.off+(i+1)) vs=G'.WH a.block (a.off+i) (v::vs):=by
    unfold Ψ.WH Ψ.Ox;simp only[Φ,d];congr 1
    funext b o'
    by_cases c:b=a.block
    .subst c;by_cases e:o'=a.off+i
     .subst e;rw[if_neg U,if_pos ⟨rfl,rfl⟩,if_pos ⟨rfl,U,J⟩];simp
     .by_cases f:a.off+(i+1)<=o'/\o'<a.off+(i+1)+vs.length
      .rw[if_pos ⟨rfl,f⟩,if_pos ⟨rfl,U,by simp;omega⟩];have:o'-(a.off+i)=(o'-(a.off+(i+1)))+1:=U;rw[this,List.getElem?_cons_succ]
      .rw[if_neg (by intro x;exact f x.2),if_neg (by intro x;exact e x.2),if_neg (by intro x;simp at x;omega)]
    .rw[if_neg (λx=>c x.1),if_neg (λx=>c x.1),if_neg (λx=>c x.1)]
   rw[this];exact h
end
def UP (H H':Ψ) (b:Nat):Prop:=(∀o,H'.κ b o=H.κ b o)/\H'.row b=H.row b/\H'.obj b=H.obj b
theorem Tc.RG {a:ο} {c H:Ψ} {b:Nat} (h:Tc a c H b) (e:∀o,a b o=none):UP c H b:=
 ⟨λo=>(h.1 o).elim id λ⟨v,p,d,_⟩=>(by rw[e o] at d;cases d),h.2⟩
section
variable {S YA:ο} {B B':Z8} {σ σ':Ρ} {H H':Ψ}
theorem Qk.later (c:Zw S YA B B' σ σ') {es:List (I×I)} {xs:Array MapEntry} {d:Nat} (h:Qk S B σ es xs d):Qk YA B' σ' es xs d:=
 ⟨h.1,λi e y a b=>⟨(h.2.1 i e y a b).1.later c,(h.2.1 i e y a b).2.1.later c,(h.2.1 i e y a b).2.2⟩,h.2.2⟩
theorem Kt.later (f:Zw S YA B B' σ σ') {left:List (I×I)} {g:Option (I×I)} {xs:Array MapEntry} {j:Nat} {seen:Array Nat} (h:Kt S B σ left g xs j seen):Kt YA B' σ' left g xs j seen:=by
 obtain⟨⟨l,m,n,k⟩,o,p⟩:=h;refine⟨⟨l,m,n,λi e y a b=>⟨(k i e y a b).1.later f,(k i e y a b).2.later f⟩⟩,o,λe r=>?_⟩;obtain⟨st,y,a,b,c,d⟩:=p e r;exact⟨st,y,a,b,c.later f,d.later f⟩
theorem Vh.later (g:Zw S YA B B' σ σ') {r:Row} {bo:Option (Nat×Nat)} (h:Vh S B σ H r bo) (n:∀b N,bo=some (b,N)->UP H H' b)
  (C:∀m left p,r=.iter m left p->σ'[m]?=σ[m]?/\B'[m]?=B[m]?/\∀b N,B[m]?=some (some (b,N))->UP H H' b):Vh YA B' σ' H' r bo:=by
 cases r with
 | cells t k l=>
  cases bo with
  | none=>exact h
  | some x=>
   obtain⟨b,N⟩:=x;obtain⟨v,D,_⟩:=n b N rfl;obtain⟨c,d,s,w,f⟩:=h;refine⟨by rw[D];exact c,d,λo E=>by rw[v];exact s o E,w,λi e hi=>⟨(f i e hi).1,λj a F=>?_⟩⟩;obtain⟨I,J,K⟩:=(f i e hi).2 j a F;exact⟨by rw[v];exact I,J.later g,K⟩
 | map es=>
  obtain⟨b,N,xs,u,rfl,c,d⟩:=h;exact⟨b,N,xs,u,rfl,by rw[(n b N rfl).2.2];exact c,d.later g⟩
 | iter m left p=>
  obtain⟨b,N,y,A,xs,u,seen,rfl,c,d,s,f,L⟩:=h;obtain⟨M,O,P⟩:=C m left p rfl;exact⟨b,N,y,A,xs,u,seen,rfl,by rw[O];exact c,by rw[M];exact d,by rw[(n b N rfl).2.2];exact s,by rw[(P y A c).2.2];exact f,L.later g⟩
 | dead=>trivial
theorem Se {id:Nat} {b N:Nat} (h:B[id]?=some (some (b,N))):B.has b:=⟨N,Zf h⟩
theorem Holds.SQ (d:Holds S B σ H) {id b N:Nat} {r:Row} (f:σ[id]?=some r) (g:r.live) (i:B[id]?=some (some (b,N))):¬H.fresh b:=λc=>by
 have h:=d.row id r _ f i;cases r with
 | cells t k l=>have:=h.1;rw[c.2.1] at this;cases this
 | map es=>
  obtain⟨j,n,xs,o,e,a,_⟩:=h;cases e;rw[c.2.2.1] at a;cases a
 | iter m left p=>
  obtain⟨j,n,s,u,xs,o,seen,e,_,_,a,_⟩:=h;cases e;rw[c.2.2.1] at a;cases a
 | dead=>exact g
theorem As {id:Nat} {r r':Row} {bo bo':Option (Nat×Nat)} (b:σ[id]?=some r) (c:B[id]?=some bo) (f:r.to r' (some bo) (some bo')):Zw S S B (B.set id bo') σ (σ.set id r'):=by
 have g:id<σ.length:=(Zu.1 b).1
 have i:id<B.length:=(Zu.1 c).1;refine⟨λ_ _ _ h=>h,λj d a=>?_⟩;by_cases e:id=j
 .subst e;rw[b] at a;cases a;refine⟨r',by rw[Ww g],?_⟩;rw[c,Ww i];exact f
 .exact⟨d,by rw[Vm e];exact a,by rw[Vm e];exact d.Ql _⟩
theorem Holds.NB (g:Holds S B σ H) {id:Nat} {r r':Row} {bo bo':Option (Nat×Nat)} (w:σ[id]?=some r) (C:r.live) (t:B[id]?=some bo) (ag:r.to r' (some bo) (some bo'))
  (A:∀b u,bo'=some (b,u)->(∃N,bo=some (b,N))\/H.fresh b) (L:∀b,(∀N,bo≠some (b,N))->(∀N,bo'≠some (b,N))->UP H H' b) (ah:∀b,H'.fresh b->H.fresh b)
  (ai:∀(j:Nat) left M,σ[j]?≠some (Row.iter id left M)) (aj:Zw S S B (B.set id bo') σ (σ.set id r')->Vh S (B.set id bo') (σ.set id r') H' r' bo') :
  Holds S (B.set id bo') (σ.set id r') H'/\Ext S B H S (B.set id bo') H'/\Zw S S B (B.set id bo') σ (σ.set id r'):=by
 have O:=As (S:=S) w t ag
 have ak:id<σ.length:=(Zu.1 w).1
 have D:id<B.length:=(Zu.1 t).1
 have Y:∀(j:Nat) (f:Row) (b N:Nat),j≠id->σ[j]?=some f->f.live->B[j]?=some (some (b,N))->UP H H' b:=λj f b N c P k d=>by
  refine L b (λu e=>?_) (λu e=>?_)
  .exact g.inj j id f r b N u c P w k C d (by rw[t,e])
  .rcases A b u e with⟨n,a⟩|a
   .exact g.inj j id f r b N n c P w k C d (by rw[t,a])
   .exact g.SQ P k d a
 refine⟨⟨λb o v hv=>?_,by simp[g.len],λj f Z c d=>?_,λi j l f b I E J hi c Q k R d=>?_,λj f b N c k d o=>?_⟩,⟨λ_ _ _ h=>h,λb K al=>?_,λb K=>?_,λb o v hv=>.inl hv,ah⟩,O⟩
 .have aa:=g.YL b o v hv
  have ab:∀N,bo≠some (b,N):=λN e=>by
   have:=g.sep id r b N w C (by rw[t,e]) o;rw[hv] at this;cases this
  have am:∀N,bo'≠some (b,N):=λN e=>by
   rcases A b N e with⟨n,a⟩|a
   .exact ab n a
   .obtain⟨p,F⟩:=aa;rw[a.1 o] at F;cases F
  rw[(L b ab am).1];exact aa
 .by_cases e:id=j
  .subst e;rw[Ww ak] at c;rw[Ww D] at d;cases c;cases d;exact aj O
  .rw[Vm e] at c d;by_cases k:f.live
   .refine(g.row j f Z c d).later O (λb N an=>Y j f b N (YQ e) c k (by rw[d,an])) λm left M ao=>?_;subst ao;have T:id≠m:=λx=>by subst x;exact ai j left M c
    refine⟨by rw[Vm T],by rw[Vm T],λb N ap=>?_⟩;obtain⟨_,_,au,av,xs,aw,seen,_,s,⟨es,a⟩,_⟩:=g.row j _ Z c d;exact Y m _ b N (YQ T) a trivial ap
   .cases f<;>first|exact absurd trivial k|trivial
 .have U:∀(i:Nat) (l:Row) (N:Nat),(σ.set id r')[i]?=some l->l.live->(B.set id bo')[i]?=some (some (b,N))->i≠id->(σ[i]?=some l/\B[i]?=some (some (b,N))):=λi l N s _ y V=>by
   rw[Vm (YQ V)] at s y;exact⟨s,y⟩
  have ad:∀(i:Nat) (l:Row) (N u:Nat),i≠id->σ[i]?=some l->l.live->B[i]?=some (some (b,N))->bo'=some (b,u)->False:=λi l N u V s a y W=>by
   rcases A b u W with⟨n,X⟩|X
   .exact g.inj i id l r b N n V s w a C y (by rw[t,X])
   .exact g.SQ s a y X
  by_cases ae:i=id
  .subst ae;rw[Ww D] at R;obtain⟨s,a⟩:=U j f E c k d (YQ J);exact ad j f E I (YQ J) s k a (by simpa using R)
  .obtain⟨s,a⟩:=U i l I hi Q R ae;by_cases af:j=id
   .subst af;rw[Ww D] at d;exact ad i l I E J s Q a (by simpa using d)
   .obtain⟨y,W⟩:=U j f E c k d af;exact g.inj i j l f b I E J s y Q k a W
 .by_cases e:id=j
  .subst e;rw[Ww D] at d;have aq:bo'=some (b,N):=by simpa using d
   rcases A b N aq with⟨n,a⟩|a
   .exact g.sep id r b n w C (by rw[t,a]) o
   .cases hv:S b o with
    | none=>rfl
    | some v=>obtain⟨p,F⟩:=g.YL b o v hv;rw[a.1 o] at F;cases F
  .rw[Vm e] at c d;exact g.sep j f b N c k d o
 .refine Tc.of (L b (λN e=>K (Se (id:=id) (N:=N) (by rw[t,e]))) λN e=>?_);rcases A b N e with⟨n,a⟩|a
  .exact K (Se (id:=id) (N:=n) (by rw[t,a]))
  .exact al a
 .obtain⟨N,ar⟩:=K;obtain⟨j,c⟩:=Su ar;by_cases e:id=j
  .subst e;rw[Ww D] at c;rcases A b N (by simpa using c) with⟨n,a⟩|a
   .exact .inl (Se (id:=id) (N:=n) (by rw[t,a]))
   .exact .inr a
  .rw[Vm e] at c;exact .inl (Se c)
theorem Ar {r:Row} {bo:Option (Nat×Nat)} (d:B.length=σ.length):Zw S S B (B++[bo]) σ (σ++[r]):=by
 refine⟨λ_ _ _ h=>h,λj a b=>?_⟩;have c:=(Zu.1 b).1;exact⟨a,by rw[Y0 c];exact b,by rw[Y0 U];exact a.Ql _⟩
theorem Holds.push (d:Holds S B σ H) {r:Row} {bo:Option (Nat×Nat)} (g:∀b N,bo=some (b,N)->H.fresh b) (F:∀b,(∀N,bo≠some (b,N))->UP H H' b)
  (Z:Zw S S B (B++[bo]) σ (σ++[r])->Vh S (B++[bo]) (σ++[r]) H' r bo) :
  Holds S (B++[bo]) (σ++[r]) H'/\Ext S B H S (B++[bo]) H'/\Zw S S B (B++[bo]) σ (σ++[r]):=by
 have J:=Ar (S:=S) (r:=r) (bo:=bo) d.len
 have C:=d.len
 have aa:∀b,H'.fresh b->H.fresh b:=by
  have u:∀b,((∀o,H'.κ b o=none)->∀o,H.κ b o=none)/\(H'.row b=none->H.row b=none)/\(H'.obj b=none->H.obj b=none):=λb=>by
   by_cases e:∀N,bo≠some (b,N)
   .obtain⟨ab,ad,ae⟩:=F b e;exact⟨λh o=>by rw[<-ab o];exact h o,λh=>by rw[<-ad];exact h,λh=>by rw[<-ae];exact h⟩
   .obtain⟨N,K⟩:=Classical.not_forall.1 e;have D:=g b N (Classical.not_not.1 K);exact⟨λ_=>D.1,λ_=>D.2.1,λ_=>D.2.2.1⟩
  exact λb w=>⟨(u b).1 w.1,(u b).2.1 w.2.1,(u b).2.2 w.2.2.1,λA L=>⟨(u A).1 (w.2.2.2 A L).1,(u A).2.1 (w.2.2.2 A L).2.1,(u A).2.2 (w.2.2.2 A L).2.2⟩⟩
 have O:∀(j:Nat) (c:Row) (b N:Nat),σ[j]?=some c->c.live->B[j]?=some (some (b,N))->UP H H' b:=λj c b N af f a=>
  F b λag e=>d.SQ af f a (g b ag e)
 have I:∀{M:Type} (l:List M) (x:M) (j:Nat) (y:M),(l++[x])[j]?=some y->(j<l.length/\l[j]?=some y)\/(j=l.length/\x=y):=λl x j y h=>by
  by_cases k:j<l.length
  .rw[Y0 k] at h;exact .inl ⟨k,h⟩
  .rw[Xw U] at h;have:j-l.length=0:=by
    have:=(Zu.1 h).1;simp at this;omega
   rw[this] at h;simp at h;exact .inr ⟨U,h⟩
 refine⟨⟨λb o v hv=>?_,by simp[C],λj c P k a=>?_,λi j Q c b R T ah hi k V f t a=>?_,λj c b N k f a o=>?_⟩,⟨λ_ _ _ h=>h,λb W D=>?_,λb W=>?_,λb o v hv=>.inl hv,aa⟩,J⟩
 .obtain⟨p,E⟩:=d.YL b o v hv;rw[(F b λN e=>by have:=(g b N e).1 o;rw[E] at this;cases this).1];exact⟨p,E⟩
 .rcases I σ r j c k with⟨n,s⟩|⟨n,rfl⟩
  .rw[Y0 U] at a;by_cases f:c.live
   .refine(d.row j c P s a).later J (λb N ai=>O j c b N s f (by rw[a,ai])) λm left am aj=>?_;subst aj;obtain⟨_,_,an,ao,xs,ap,seen,_,aq,⟨es,Φ⟩,_⟩:=d.row j _ P s a;have ak:=(Zu.1 Φ).1;exact⟨by rw[Y0 ak],by rw[Y0 U],λb N al=>O m _ b N Φ trivial al⟩
   .cases c<;>first|exact absurd trivial f|trivial
  .rw[n,<-C] at a;simp at a;subst a;exact Z J
 .rcases I σ r i Q hi with⟨n,s⟩|⟨n,rfl⟩<;>rcases I σ r j c k with⟨X,Y⟩|⟨X,rfl⟩
  .rw[Y0 U] at t a;exact d.inj i j Q c b R T ah s Y V f t a
  .rw[Y0 U] at t;rw[X,<-C] at a;simp at a;exact d.SQ s V t (g b T a)
  .rw[Y0 U] at a;rw[n,<-C] at t;simp at t;exact d.SQ Y f a (g b R t)
  .omega
 .rcases I σ r j c k with⟨n,s⟩|⟨n,rfl⟩
  .rw[Y0 U] at a;exact d.sep j c b N s f a o
  .rw[n,<-C] at a;simp at a;cases hv:S b o with
   | none=>rfl
   | some v=>obtain⟨p,E⟩:=d.YL b o v hv;rw[(g b N a).1 o] at E;cases E
 .exact Tc.of (F b λN e=>D (g b N e))
 .obtain⟨N,K⟩:=W;rcases WK.1 K with h|h
  .exact .inl ⟨N,h⟩
  .simp at h;exact .inr (g b N h.symm)
def ο.lay (S:ο) (r:Nat) (c:Array Value):ο:=λb o=>if b=r then c[o]? else S b o
theorem Holds.lay (d:Holds S B σ H) {r:Nat} {c:Array Value} {t:TypeId} (f:H.fresh r) :
  Holds (S.lay r c) B σ (H.YB r c t)/\Ext S B H (S.lay r c) B (H.YB r c t)/\Zw S (S.lay r c) B B σ σ:=by
 have A:∀o,S r o=none:=λo=>by
  cases hv:S r o with
  | none=>rfl
  | some v=>obtain⟨p,s⟩:=d.YL r o v hv;rw[f.1 o] at s;cases s
 have u:∀b o v,S b o=some v->S.lay r c b o=some v:=λb o v h=>by
  unfold ο.lay;rw[if_neg (λe=>by subst e;rw[A] at h;cases h)];exact h
 have w:Zw S (S.lay r c) B B σ σ:=⟨u,λ_ a h=>⟨a,h,a.Ql _⟩⟩
 have l:∀b,b≠r->UP H (H.YB r c t) b:=λb n=>⟨λo=>by simp[Ψ.YB,n],by simp[Ψ.YB,n],rfl⟩;refine⟨⟨λb o v hv=>?_,d.len,λj a x g i=>?_,d.inj,λj a b N g k i o=>?_⟩,⟨u,λb _ C=>Tc.of (l b λe=>C (e▸f)),λb n=>.inl n,λb o v hv=>?_,Ψ.Fu f c t⟩,w⟩
 .unfold ο.lay at hv;split at hv
  .rename_i e;subst e;exact⟨true,by simp[Ψ.YB,hv]⟩
  .rename_i e;rw[(l b e).1];exact d.YL b o v hv
 .by_cases k:a.live
  .have y:∀(j:Nat) (a:Row) (b N:Nat),σ[j]?=some a->a.live->B[j]?=some (some (b,N))->b≠r:=λj a b N D E F e=>d.SQ D E F (e▸f);refine(d.row j a x g i).later w (λb N I=>l b (y j a b N g k (by rw[i,I]))) λm left L J=>?_;subst J;obtain⟨_,_,M,O,xs,P,seen,_,Q,⟨es,Φ⟩,_⟩:=d.row j _ x g i;exact⟨rfl,rfl,λb N K=>l b (y m _ b N Φ trivial K)⟩
  .cases a<;>first|exact absurd trivial k|trivial
 .unfold ο.lay;rw[if_neg (λe:b=r=>d.SQ g k i (e▸f))];exact d.sep j a b N g k i o
 .unfold ο.lay at hv;split at hv
  .rename_i e;subst e;exact .inr (.inr f)
  .exact .inl hv
end
def Me:Value->I
 | .slice none 0 0=>.sl true 0 []
 | v=>.z v
def WG:Value->I
 | .agg vs=>.Z' (vs.toList.map Me)
 | v=>Me v
def η (env:Δ):Operand->I
 | .tmp n=>Z7 env n
 | .const v=>WG v
 | .global _=>.Zk
 | .func f=>.fn (.func f) [] []
theorem Fq {S:ο} {B:Z8} {σ:Ρ} (v:Value):ς S B σ (Me v) v:=by
 unfold Me;split
 .exact .Wj none 0 λ_=>rfl
 .exact .z v
theorem RF {S:ο} {B:Z8} {σ:Ρ} (v:Value):ς S B σ (WG v) v:=by
 unfold WG;split
 .rename_i vs;refine .Z' vs J λi a w b c=>?_;rw[Yh,Wl,c] at b;cases b;exact Fq w
 .exact Fq _
theorem Un {S:ο} {B:Z8} {σ:Ρ} {env:Δ} {t:Array Value} (h:YS S B σ env t) (o:Operand):ς S B σ (η env o) (ZM t o):=by
 cases o with
 | tmp n=>exact h n
 | const v=>exact RF v
 | global g=>exact .Zk _
 | func f=>exact .fn #[] #[] rfl rfl (λi a v hi=>by simp at hi) (λi a v hi=>by simp at hi)
inductive YX where
 | ok (a:I) (σ:Ρ)
 | Y9 (p:Prop) (r:YX)
 | all (n:Nat) (f:Nat->YX)
 | bad
def YX.holds (K:I->Ρ->Prop):YX->Prop
 | .ok a σ=>K a σ
 | .Y9 p r=>p/\r.holds K
 | .all n f=>∀i,i<n->(f i).holds K
 | .bad=>False
def Fp:Next->Option Value
 | .value v=>some v
 | .skip=>some undef
 | _=>none
def VP:TypeDesc->Bool
 | .int _|.string|.bool=>true
 | _=>false
def H0 (P:Program) (t:TypeId):Option (List (TypeDesc×Nat))->Prop
 | none=>True
 | some a=>P.eqGuardType P.depth t=false/\a.map (·.2)=List.range a.length/\
  ((∃b,P.underlying t=some (.struct b)/\P.stoodInHeld t=false/\a=b.toList.map (λf=>((P.underlying f.type).getD .invalid,f.offset))/\∀f∈b.toList,f.name≠ "_" /\ ∃d,P.underlying f.type=some d/\VP d=true)\/
   ∃n e d f,P.underlying t=some (.array n e)/\P.underlying e=some d/\VP d=true/\P.info? e=some f/\f.size=1/\a=(List.range n).map λi=>(d,i))
structure Wi where
 size:Nat
 ZD:TypeDesc
 zero:Value
 bytes:Nat
 eqs:Option (List (TypeDesc×Nat))
def Wi.agg (i:Wi):Bool:=UG i.ZD
abbrev ZR:=TypeId->Option Wi
def Zz (P:Program) (T:ZR):Prop:=∀t i,T t=some i->(P.underlying t=some i.ZD/\H0 P t i.eqs)/\∃f,P.info? t=some f/\f.size=i.size/\f.zero=some i.zero/\f.bytes=i.bytes
def VO (S:ο) (B:Z8) (H:Ψ) (σ:Ρ) (K:I->Ρ->Prop) (v:Value) (H':Ψ):Prop:=
 ∃b B' σ' a,K a σ'/\Ext S B H b B' H'/\Holds b B' σ' H'/\Zw S b B B' σ σ'/\ς b B' σ' a v
def Y4 (P:Program) (s:Sem Value) (S:ο) (B:Z8) (H:Ψ) (σ:Ρ) (r:YX):Prop:=
 ∀K:I->Ρ->Prop,r.holds K->Ω P s H (VO S B H σ K) (λ_ _=>False)
def Does (P:Program) (s:Sem Next) (S:ο) (B:Z8) (H:Ψ) (σ:Ρ) (r:YX):Prop:=
 ∀K:I->Ρ->Prop,r.holds K->Ω P s H (λa H'=>∃v,Fp a=some v/\VO S B H σ K v H') (λ_ _=>False)
section
variable {P:Program} {T:ZR} {S:ο} {B:Z8} {H:Ψ} {σ:Ρ} {env:Δ} {t:Array Value}
theorem Y4.next {s:Sem Value} {r:YX} (h:Y4 P s S B H σ r):Does P (do pure (.value (<-s))) S B H σ r:=λK a=>
 Ω.bind' (Ω.mono (λv G b=>Ω.pure' ⟨v,rfl,b⟩) (λ_ _ h=>h) _ (h K a))
theorem VO.same {K:I->Ρ->Prop} {a:I} {v:Value} (b:Holds S B σ H) (c:K a σ) (d:ς S B σ a v):VO S B H σ K v H:=⟨S,B,σ,a,c,.refl _ _ _,b,.refl _ _ _,d⟩
theorem Y4.pure {a:I} {v:Value} (b:Holds S B σ H) (c:ς S B σ a v):Y4 P (pure v) S B H σ (.ok a σ):=λK d=>
 Ω.pure' (.same b d c)
theorem Y4.bad {s:Sem Value}:Y4 P s S B H σ .bad:=λK a=>a.elim
theorem Y4.Y9 {s:Sem Value} {p:Prop} {r:YX} (h:p->Y4 P s S B H σ r):Y4 P s S B H σ (.Y9 p r):=λK a=>h a.1 K a.2
theorem Does.val {a:I} {v:Value} (b:Holds S B σ H) (c:ς S B σ a v):Does P (pure (.value v)) S B H σ (.ok a σ):=λK d=>
 Ω.pure' ⟨v,rfl,.same b d c⟩
theorem Does.bad {s:Sem Next}:Does P s S B H σ .bad:=λK a=>a.elim
theorem Zz.size (b:Zz P T) {a:TypeId} {i:Wi} (h:T a=some i) {G:Ψ} {K:Nat->Ψ->Prop} {E:Value->Ψ->Prop} (c:K i.size G):Ω P (sizeOf a) G K E:=by
 obtain⟨_,f,d,e,_⟩:=b a i h;exact Ω.sizeOf d (by rw[e];exact c)
theorem Zz.ZD (b:Zz P T) {a:TypeId} {i:Wi} (h:T a=some i) {G:Ψ} {K:TypeDesc->Ψ->Prop} {E:Value->Ψ->Prop} (c:K i.ZD G):Ω P (underlying a) G K E:=
 Ω.underlying (b a i h).1.1 c
theorem Zz.agg (b:Zz P T) {a:TypeId} {i:Wi} (h:T a=some i) {G:Ψ} {K:Bool->Ψ->Prop} {E:Value->Ψ->Prop} (c:K i.agg G):Ω P (isAgg a) G K E:=
 Ω.isAgg (b a i h).1.1 c
theorem Zz.zero (b:Zz P T) {a:TypeId} {i:Wi} (h:T a=some i) {G:Ψ} {K:Value->Ψ->Prop} {E:Value->Ψ->Prop} (c:K i.zero G):Ω P (zeroValue a) G K E:=by
 obtain⟨_,f,d,_,e,_⟩:=b a i h;exact Ω.zeroValue d e c
theorem Zz.info (b:Zz P T) {a:TypeId} {i:Wi} (h:T a=some i) {G:Ψ} {K:TypeInfo->Ψ->Prop} {E:Value->Ψ->Prop} (c:∀f:TypeInfo,f.bytes=i.bytes->K f G):Ω P (typeInfo a) G K E:=by
 obtain⟨_,f,d,_,_,e⟩:=b a i h;exact Ω.typeInfo d (c f e)
end
inductive Zc where
 | ok (a:I)
 | Y9 (p:Prop) (r:Zc)
 | bad
def Zc.YC (σ:Ρ):Zc->YX
 | .ok a=>.ok a σ
 | .Y9 p r=>.Y9 p (r.YC σ)
 | .bad=>.bad
section
variable {P:Program} {T:ZR} {S:ο} {B:Z8} {H:Ψ} {σ:Ρ} {env:Δ} {t:Array Value}
def XY (k:IntKind) (a b:Int):Int:=k.wrap (BitVec.ofInt k.bits a&&&BitVec.ofInt k.bits b).toNat
def Q3 (k:IntKind) (a b:Int):Int:=k.wrap (BitVec.ofInt k.bits a|||BitVec.ofInt k.bits b).toNat
def Md (k:IntKind) (a b:Int):Int:=k.wrap (BitVec.ofInt k.bits a^^^BitVec.ofInt k.bits b).toNat
def U2 (k:IntKind) (a b:Int):Int:=k.wrap (BitVec.ofInt k.bits a&&&~~~BitVec.ofInt k.bits b).toNat
def Mc (a b:ByteArray):Bool:=Op.bytesLess a.toList b.toList
def Vw (a b:ByteArray):Bool:=Op.bytesLess a.toList b.toList||a.toList==b.toList
def Qj (d:BinOp) (x y:Value):Zc:=
 match d,x,y with
 | .shl,.int k a,.int _ b=>.Y9 (0<=b) (.ok (.z (.int k (k.wrap (a*2 ^ (min b.toNat k.bits))))))
 | .shr,.int k a,.int _ b=>.Y9 (0<=b) (.ok (.z (.int k (a.fdiv (2 ^ (min b.toNat k.bits))))))
 | .add,.int k a,.int c b=>if k=c then .ok (.z (.int k (k.wrap (a+b)))) else .bad
 | .sub,.int k a,.int c b=>if k=c then .ok (.z (.int k (k.wrap (a-b)))) else .bad
 | .mul,.int k a,.int c b=>if k=c then .ok (.z (.int k (k.wrap (a*b)))) else .bad
 | .quo,.int k a,.int c b=>if k=c then .Y9 (b≠0) (.ok (.z (.int k (k.wrap (a.tdiv b))))) else .bad
 | .rem,.int k a,.int c b=>if k=c then .Y9 (b≠0) (.ok (.z (.int k (a.tmod b)))) else .bad
 | .and,.int k a,.int c b=>if k=c then .ok (.z (.int k (XY k a b))) else .bad
 | .or,.int k a,.int c b=>if k=c then .ok (.z (.int k (Q3 k a b))) else .bad
 | .xor,.int k a,.int c b=>if k=c then .ok (.z (.int k (Md k a b))) else .bad
 | .andNot,.int k a,.int c b=>if k=c then .ok (.z (.int k (U2 k a b))) else .bad
 | .eql,.int k a,.int c b=>if k=c then .ok (.z (.bool (a==b))) else .bad
 | .neq,.int k a,.int c b=>if k=c then .ok (.z (.bool (a != b))) else .bad
 | .lss,.int k a,.int c b=>if k=c then .ok (.z (.bool (decide (a<b)))) else .bad
 | .leq,.int k a,.int c b=>if k=c then .ok (.z (.bool (decide (a<=b)))) else .bad
 | .gtr,.int k a,.int c b=>if k=c then .ok (.z (.bool (decide (a > b)))) else .bad
 | .geq,.int k a,.int c b=>if k=c then .ok (.z (.bool (decide (a>=b)))) else .bad
 | .add,.string a,.string b=>.Y9 (((a.size+b.size:Nat):Int)<=i64.max) (.ok (.z (.string (a++b))))
 | .eql,.string a,.string b=>.ok (.z (.bool (a.toList==b.toList)))
 | .neq,.string a,.string b=>.ok (.z (.bool !(a.toList==b.toList)))
 | .lss,.string a,.string b=>.ok (.z (.bool (Mc a b)))
 | .leq,.string a,.string b=>.ok (.z (.bool (Vw a b)))
 | .gtr,.string a,.string b=>.ok (.z (.bool (!(Vw a b))))
 | .geq,.string a,.string b=>.ok (.z (.bool (!(Mc a b))))
 | _,_,_=>.bad
theorem Aq (a:Holds S B σ H) (c:BinOp) (d:TypeId) (p q:Operand) (x y:Value):Y4 P (do eqGuard c d p q x y;binOp c d x y) S B H σ ((Qj c x y).YC σ):=by
 unfold Qj;split
 case h_25=>exact .bad
 case h_1=>
  refine .Y9 λh=>?_;have b:¬(_:Int)<0:=OM.2 h;simp only[eqGuard,binOp,Op.shift,b,if_false];exact .pure a (.z _)
 case h_2=>
  refine .Y9 λh=>?_;have b:¬(_:Int)<0:=OM.2 h;simp only[eqGuard,binOp,Op.shift,b,if_false];exact .pure a (.z _)
 case h_6=>
  split
  .rename_i e;subst e;exact .Y9 λh=>by simp only[eqGuard,binOp,Op.intDiv,h,if_false,ne_eq,not_true_eq_false];exact .pure a (.z _)
  .exact .bad
 case h_7=>
  split
  .rename_i e;subst e;exact .Y9 λh=>by simp only[eqGuard,binOp,Op.intDiv,h,if_false,ne_eq,not_true_eq_false];exact .pure a (.z _)
  .exact .bad
 case h_18=>
  refine .Y9 λh=>?_;have b:¬((_:Int) > i64.max):=OM.2 h;simp only[eqGuard,binOp,Op.stringOp,b,if_false];exact .pure a (.z _)
 all_goals first
  | exact .pure a (.z _)
  |(split
    .rename_i e;subst e;simp only[eqGuard,binOp,Op.intArith,Op.intBits,Op.intCmp,ne_eq,not_true_eq_false,if_false];exact .pure a (.z _)
    .exact .bad)
def NA (a:UnOp):I->Zc
 | .z (.bool b)=>match a with|.not=>.ok (.z (.bool !b))|_=>.bad
 | .z (.int k n)=>match a with|.neg=>.ok (.z (.int k (k.wrap (0-n))))|_=>.bad
 | _=>.bad
theorem Ap (b:Holds S B σ H) (c:UnOp) {a:I} {v:Value} (d:ς S B σ a v):Y4 P (Op.unary c v) S B H σ ((NA c a).YC σ):=by
 unfold NA;split
 .cases d;split
  .exact .pure b (.z _)
  .exact .bad
 .cases d;split
  .exact .pure b (.z _)
  .exact .bad
 .exact .bad
def Ks (i:Nat):I->Zc
 | .ZV l=>match l[i]? with|some a=>.ok a|none=>.bad
 | .z (.tuple vs)=>match vs[i]? with|some v=>.ok (WG v)|none=>.bad
 | _=>.bad
theorem Ao (b:Holds S B σ H) (i:Nat) {a:I} {v:Value} (c:ς S B σ a v):Y4 P (Instr.extract v i) S B H σ ((Ks i a).YC σ):=by
 unfold Ks;split
 .rename_i l;cases c with
  | ZV vs e f=>
   cases d:l[i]? with
   | none=>exact .bad
   | some a=>
    have g:i<vs.size:=by rw[<-e];exact(Zu.1 d).1
    have hv:vs[i]?=some vs[i]:=XI g;simp only[Instr.extract,hv];exact .pure b (f i a _ d hv)
 .rename_i vs;cases c;cases hv:vs[i]? with
  | none=>exact .bad
  | some v=>simp only[Instr.extract,hv];exact .pure b (RF v)
 .exact .bad
def Kr (T:ZR) (b:TypeId) (a:I):Zc:=match T b with
 | some i=>match i.ZD with|.interface _=>.bad|_=>.ok (.Xo b a)
 | none=>.bad
theorem An (d:Zz P T) (e:Holds S B σ H) (b:TypeId) {a:I} {v:Value} (f:ς S B σ a v):Y4 P (Instr.makeInterface b v) S B H σ ((Kr T b a).YC σ):=by
 unfold Kr;cases hi:T b with
 | none=>exact .bad
 | some i=>
  intro K c;unfold Instr.makeInterface;refine Ω.bind' (d.ZD hi ?_);cases g:i.ZD<;>simp only[g,Zc.YC,YX.holds] at c<;>first|exact c.elim|exact Ω.pure' (.same e c (.Xo v f))
def Ow (T:ZR) (c:TypeId) (b:Bool) (a:I):Zc:=match T c with
 | some i=>match i.ZD with
  | .interface _=>.bad
  | _=>match a with
   | .Xo t x=>if t=c then .ok (if b then .ZV [x,.z (.bool true)] else x) else if b then .ok (.ZV [WG i.zero,.z (.bool false)]) else .bad
   | .z .nilIface=>if b then .ok (.ZV [WG i.zero,.z (.bool false)]) else .bad
   | _=>.bad
 | none=>.bad
theorem Nz {a b:I} {v w:Value} (h:ς S B σ a v) (k:ς S B σ b w):ς S B σ (.ZV [a,b]) (.tuple #[v,w]):=by
 refine .ZV _ rfl λi e f c d=>?_
 match i with
 | 0=>simp at c d;subst c;subst d;exact h
 | 1=>simp at c d;subst c;subst d;exact k
 | i+2=>simp at c
theorem Am (f:Zz P T) (g:Holds S B σ H) (n h:TypeId) (j:Bool) {a:I} {v:Value} (l:ς S B σ a v):Y4 P (Instr.typeAssert v n h j) S B H σ ((Ow T h j a).YC σ):=by
 unfold Ow;cases hi:T h with
 | none=>exact .bad
 | some i=>
  simp only;by_cases b:∃w,i.ZD=.interface w
  .obtain⟨w,o⟩:=b;rw[o];exact .bad
  have e:∀r:Zc,(match i.ZD with|.interface _=>Zc.bad|_=>r)=r:=λr=>by
   cases p:i.ZD<;>first|rfl|exact absurd ⟨_,p⟩ b
  rw[e];clear e;split
  .rename_i t x;cases l with
   | Xo w m=>
    split
    .rename_i e;subst e;intro K c;unfold Instr.typeAssert;refine Ω.bind' (f.ZD hi ?_);generalize i.ZD=d at b ⊢;cases d<;>first
      | exact absurd ⟨_,rfl⟩ b
      |(simp only[if_true]
        cases j
        .exact Ω.pure' (.same g c m)
        .exact Ω.pure' (.same g c (Nz m (.z _))))
    .rename_i s;split
     .rename_i k;subst k;intro K c;unfold Instr.typeAssert;refine Ω.bind' (f.ZD hi ?_);generalize i.ZD=d at b ⊢;cases d<;>first
       | exact absurd ⟨_,rfl⟩ b
       |(simp only[s,if_false,if_true]
         exact Ω.bind' (f.zero hi (Ω.pure' (.same g c (Nz (RF _) (.z _))))))
     .exact .bad
  .cases l;split
   .rename_i k;subst k;intro K c;unfold Instr.typeAssert;refine Ω.bind' (f.ZD hi ?_);generalize i.ZD=d at b ⊢;cases d<;>first
     | exact absurd ⟨_,rfl⟩ b
     |(simp only[if_true]
       exact Ω.bind' (f.zero hi (Ω.pure' (.same g c (Nz (RF _) (.z _))))))
   .exact .bad
  .exact .bad
end
section
variable {P:Program} {T:ZR} {S:ο} {B:Z8} {H:Ψ} {σ:Ρ}
def Q2 (i:Wi) (l:ξ):Zc:=
 if i.agg then(if i.size<=l.length then .ok (.Z' (l.take i.size)) else .bad)
 else match l with
  | a::_=>.ok a
  | []=>.bad
def Kq (T:ZR) (a:TypeId):I->Zc
 | .ω b=>match T a with|some i=>Q2 i b|none=>.bad
 | _=>.bad
def SP (T:ZR) (a:TypeId) (σ:Ρ):I->YX
 | .Ο id n i j=>match T a,σ[id]? with
  | some b,some (.cells _ _ l)=>if l.length=n then match l[i]? with
   | some e=>(Q2 b (e.cells.drop j)).YC σ
   | none=>.bad else .bad
  | _,_=>.bad
 | _=>.bad
theorem Kp (f:Zz P T) (g:Holds S B σ H) {h:TypeId} {i:Wi} (hi:T h=some i) {b o:Nat} {l:ξ} (w:Nat->Value) (k:∀(j:Nat) (a:I),l[j]?=some a->∃p,H.κ b (o+j)=some (w j,p)) (m:∀(j:Nat) (a:I),l[j]?=some a->ς S B σ a (w j)) :
  Y4 P (loadVar h ⟨b,o,none⟩) S B H σ ((Q2 i l).YC σ):=by
 intro K c;unfold Q2 at c;unfold loadVar;refine Ω.bind' (f.agg hi ?_);cases n:i.agg with
 | true=>
  rw[n] at c;simp only[if_true] at c ⊢;split at c
  .rename_i t;refine Ω.bind' (f.size hi (Ω.bind' (Ω.loadCells w rfl (λj d=>?_) ?_)))
   .have:l[j]?=some l[j]:=ε U;exact k j _ this
   .refine Ω.pure' (.same g c (.Z' _ (by simp;omega) λj a v e r=>?_));have d:j<i.size:=by have:=(Zu.1 e).1;simp at this;omega
    rw[Tq d] at e;simp[d] at r;subst r;exact m j a e
  .exact c.elim
 | false=>
  rw[n] at c;simp only[Xf,if_false] at c ⊢;cases l with
  | nil=>exact c.elim
  | cons a l=>
   obtain⟨p,s⟩:=k 0 a rfl;exact⟨rfl,rfl,w 0,p,s,VO.same g c (m 0 a rfl)⟩
theorem Al (e:Zz P T) (d:Holds S B σ H) {c:TypeId} {a:I} {v:Value} (f:ς S B σ a v):Y4 P (Instr.loadAt c v) S B H σ ((Kq T c a).YC σ):=by
 unfold Kq;split
 .rename_i l;cases hi:T c with
  | none=>exact .bad
  | some i=>
   cases f with
   | ω b o w g h=>exact Kp e d hi w (λj a k=>d.YL _ _ _ (g j a k)) h
 .exact .bad
theorem Fo (f:Holds S B σ H) {id k i b N:Nat} {t:TypeId} {l:ξ} {e:I} (g:σ[id]?=some (.cells t k l)) (h:B[id]?=some (some (b,N))) (c:l[i]?=some e) :
  e.cells.length=k/\∃w:Nat->Value,∀(j:Nat) (a:I),e.cells[j]?=some a->H.κ b (i*k+j)=some (w j,true)/\ς S B σ a (w j)/\One (w j):=by
 obtain⟨_,_,_,w,d⟩:=f.row id _ _ g h;exact⟨(d i e c).1,w i,(d i e c).2⟩
theorem Ak (o:Zz P T) (f:Holds S B σ H) {g:TypeId} {a:I} {v:Value} (p:ς S B σ a v):Y4 P (Instr.loadAt g v) S B H σ (SP T g σ a):=by
 unfold SP;split
 .rename_i id n i j;split
  .rename_i u t k l hi d;split
   .rename_i y;cases r:l[i]? with
    | none=>exact .bad
    | some e=>
     cases p with
     | Ο b h s=>
      rw[d] at b;cases b;obtain⟨A,w,m⟩:=Fo f d s r;refine Kp o f hi (λx=>w (j+x)) (λx a c=>⟨true,?_⟩) (λx a c=>?_)
      .rw[T7] at c;rw[SZ];exact(m _ a c).1
      .rw[T7] at c;exact(m _ a c).2.1
     | Vi v b h=>rw[d] at b;cases b;simp only[Row.WQ] at h;omega
   .exact .bad
  .exact .bad
 .exact .bad
def Xi (T:ZR) (a:TypeId) (f:Nat):Option (Nat×TypeId):=match T a with
 | some i=>match i.ZD with
  | .struct b=>match b[f]? with
   | some x=>match T x.type with
    | some c=>if c.size=0 then none else some (x.offset,x.type)
    | none=>none
   | none=>none
  | _=>none
 | none=>none
def Ko (T:ZR) (a:TypeId) (f:Nat):I->Zc
 | .ω c=>match Xi T a f with|some (o,_)=>.ok (.ω (c.drop o))|none=>.bad
 | .z (.pointer (some ⟨b,o',none⟩))=>match Xi T a f with|some (o,_)=>.ok (.z (.pointer (some ⟨b,o'+o,none⟩)))|none=>.bad
 | _=>.bad
def SO (T:ZR) (a:TypeId) (f:Nat) (σ:Ρ):I->YX
 | .Ο id n i j=>match Xi T a f,σ[id]? with
  | some (o,_),some (.cells _ _ l)=>if l.length=n then .ok (.Ο id n i (j+o)) σ else .bad
  | _,_=>.bad
 | _=>.bad
theorem Pq (b o n:Nat):(⟨b,o,none⟩:Addr).add n=⟨b,o+n,none⟩:=by
 unfold Addr.add;split
 .simp_all
 .rfl
theorem Fl {d:ξ} {b o:Nat} (h:ς S B σ (.ω d) (.pointer (some ⟨b,o,none⟩))) (n:Nat):ς S B σ (.ω (d.drop n)) (.pointer (some ⟨b,o+n,none⟩)):=by
 cases h with
 | ω b o w e f=>
  refine .ω b (o+n) (λj=>w (n+j)) (λj a c=>?_) (λj a c=>?_)
  .rw[T7] at c;rw[SZ];exact e _ a c
  .rw[T7] at c;exact f _ a c
theorem HZ (c:Zz P T) {d:TypeId} {f o:Nat} {e:TypeId} (a:Xi T d f=some (o,e)) {b o':Nat} {K:Value->Ψ->Prop} {E:Value->Ψ->Prop} (h:K (.pointer (some ⟨b,o'+o,none⟩)) H) :
  Ω P (Instr.fieldAt d (.pointer (some ⟨b,o',none⟩)) f) H K E:=by
 unfold Xi at a;split at a<;>try cases a
 rename_i i hi;split at a<;>try cases a
 rename_i m g;split at a<;>try cases a
 rename_i x j;split at a<;>try cases a
 rename_i n k;split at a<;>try cases a
 rename_i l;unfold Instr.fieldAt;refine Ω.bind' (c.ZD hi ?_);rw[g];simp only[j];refine Ω.bind' ?_;unfold fieldPlace;refine Ω.bind' (Ω.bind' (c.size k ?_));rw[if_neg l,Pq];exact Ω.pure' (Ω.pure' h)
theorem Aj (g:Zz P T) (h:Holds S B σ H) {c:TypeId} {f:Nat} {a:I} {v:Value} (i:ς S B σ a v):Y4 P (Instr.fieldAt c v f) S B H σ ((Ko T c f a).YC σ):=by
 unfold Ko;split
 .rename_i m;cases d:Xi T c f with
  | none=>exact .bad
  | some x=>
   obtain⟨o,j⟩:=x;cases i with
   | ω b o' w k l=>exact λK e=>HZ g d (VO.same h e (Fl (.ω b o' w k l) o))
 .rename_i b o';cases d:Xi T c f with
  | none=>exact .bad
  | some x=>
   obtain⟨o,j⟩:=x;cases i;exact λK e=>HZ g d (VO.same h e (.z _))
 .exact .bad
theorem Ai (g:Zz P T) (h:Holds S B σ H) {d:TypeId} {f:Nat} {a:I} {v:Value} (m:ς S B σ a v):Y4 P (Instr.fieldAt d v f) S B H σ (SO T d f σ a):=by
 unfold SO;split
 .rename_i id n i j;split
  .rename_i o w t k l p c;split
   .rename_i r;cases m with
    | Ο b e s=>
     rw[c] at b;cases b;refine λK u=>HZ g p (VO.same h u ?_);rw[SZ];exact .Ο c r s
    | Vi v b e=>rw[c] at b;cases b;simp only[Row.WQ] at e;omega
   .exact .bad
  .exact .bad
 .exact .bad
theorem Q1 {ex:Bool} {k:Nat} {l:ξ} {v:Value} (h:ς S B σ (.sl ex k l) v):∃base cap,v=.slice base l.length cap/\l.length<=cap/\(ex=true->cap=l.length)/\(l≠[]->∃(b o:Nat) (w:Nat->Nat->Value),base=some ⟨b,o,none⟩/\(∀(i:Nat) (e:I),l[i]?=some e->e.cells.length=k)/\
  (∀(i:Nat) (e:I),l[i]?=some e->∀(j:Nat) (c:I),e.cells[j]?=some c->S b (o+i*k+j)=some (w i j))/\(∀(i:Nat) (e:I),l[i]?=some e->∀(j:Nat) (c:I),e.cells[j]?=some c->ς S B σ c (w i j))):=by
 cases h with
 | Wj base cap h=>exact⟨base,cap,rfl,Ε _,h,λx=>absurd rfl x⟩
 | sl b o cap w a d f g m=>exact⟨_,cap,rfl,d,a,λ_=>⟨b,o,w,rfl,f,g,m⟩⟩
theorem Ah {ex:Bool} {k:Nat} {l:ξ} {base:Option Addr} {len cap i:Nat} {e:I} (h:ς S B σ (.sl ex k l) (.slice base len cap)) (a:l[i]?=some e):∃b o,base=some ⟨b,o,none⟩/\ς S B σ (.ω e.cells) (.pointer (some ⟨b,o+i*k,none⟩)):=by
 obtain⟨g,j,hv,_,_,c⟩:=Q1 h;cases hv;obtain⟨b,o,w,rfl,m,d,f⟩:=c (by rintro rfl;simp at a);exact⟨b,o,rfl,.ω b (o+i*k) (w i) (d i e a) (f i e a)⟩
def WO (T:ZR) (b:TypeId):Option (TypeId×Nat×Option Nat):=match T b with
 | some i=>match i.ZD with
  | .slice e=>match T e with|some a=>some (e,a.size,none)|none=>none
  | .array n e=>match T e with|some a=>some (e,a.size,some n)|none=>none
  | _=>none
 | none=>none
theorem Kn {b e:TypeId} {k:Nat} (h:WO T b=some (e,k,none)):∃i a,T b=some i/\i.ZD=.slice e/\T e=some a/\a.size=k:=by
 unfold WO at h;split at h
 .rename_i i hi;split at h
  .rename_i f c;split at h
   .rename_i a d;cases h;exact⟨i,a,hi,c,d,rfl⟩
   .cases h
  .split at h<;>cases h
  .cases h
 .cases h
theorem Ag {b e:TypeId} {k n:Nat} (h:WO T b=some (e,k,some n)):∃i a,T b=some i/\i.ZD=.array n e/\T e=some a/\a.size=k:=by
 unfold WO at h;split at h
 .rename_i i hi;split at h
  .split at h<;>cases h
  .rename_i f g c;split at h
   .rename_i a d;cases h;exact⟨i,a,hi,c,d,rfl⟩
   .cases h
  .cases h
 .cases h
def Km (T:ZR) (c:TypeId) (a d:I):Zc:=
 match WO T c,d with
 | some (_,b,none),.z (.int _ n)=>match a with
  | .sl _ k l=>if k=b then .Y9 (0<=n/\n<l.length) (.ok (.ω (l.getD n.toNat .Zk).cells)) else .bad
  | _=>.bad
 | some (_,b,some m),.z (.int _ n)=>match a with
  | .ω e=>.Y9 (0<=n/\n<m) (.ok (.ω (e.drop (n.toNat*b))))
  | _=>.bad
 | _,_=>.bad
def SN (T:ZR) (c:TypeId) (σ:Ρ) (a d:I):YX:=
 match WO T c,d with
 | some (_,b,none),.z (.int _ n)=>match a with
  | .ms id m i len=>match σ[id]? with
   | some (.cells _ k l)=>if k=b/\l.length=m then .Y9 (0<=n/\n<len) (.ok (.Ο id m (i+n.toNat) 0) σ) else .bad
   | _=>.bad
  | _=>.bad
 | some (_,b,some len),.z (.int _ n)=>match a with
  | .Ο id m i j=>match σ[id]? with
   | some (.cells _ _ l)=>if l.length=m then .Y9 (0<=n/\n<len) (.ok (.Ο id m i (j+n.toNat*b)) σ) else .bad
   | _=>.bad
  | _=>.bad
 | _,_=>.bad
theorem Fj (a:Zz P T) {c e:TypeId} {k:Nat} (f:WO T c=some (e,k,none)) {b o len cap:Nat} {kk:IntKind} {n:Int} (g:0<=n/\n<len) {K:Value->Ψ->Prop} {E:Value->Ψ->Prop}
  (h:K (.pointer (some ⟨b,o+n.toNat*k,none⟩)) H):Ω P (Instr.indexAt c (.slice (some ⟨b,o,none⟩) len cap) (.int kk n)) H K E:=by
 obtain⟨i,l,hi,d,j,rfl⟩:=Kn f;unfold Instr.indexAt;refine Ω.bind' ?_;refine Ω.bind' (a.ZD hi ?_);rw[d];refine Ω.bind' (Ω.pure' ?_);refine Ω.bind' (a.ZD hi ?_);rw[d];simp only[g,and_self,if_true];refine Ω.bind' (a.size j ?_);rw[Pq];exact h
theorem Fi (a:Zz P T) {c e:TypeId} {k m:Nat} (f:WO T c=some (e,k,some m)) {b o:Nat} {kk:IntKind} {n:Int} (g:0<=n/\n<m) {K:Value->Ψ->Prop} {E:Value->Ψ->Prop}
  (h:K (.pointer (some ⟨b,o+n.toNat*k,none⟩)) H):Ω P (Instr.indexAt c (.pointer (some ⟨b,o,none⟩)) (.int kk n)) H K E:=by
 obtain⟨i,l,hi,d,j,rfl⟩:=Ag f;unfold Instr.indexAt;refine Ω.bind' ?_;refine Ω.bind' (a.ZD hi ?_);rw[d];refine Ω.bind' (Ω.bind' (Ω.pure' ?_));refine Ω.bind' (a.ZD hi ?_);rw[d];simp only[g,and_self,if_true];refine Ω.bind' (a.size j ?_);rw[Pq];exact h
theorem Af (h:Zz P T) (i:Holds S B σ H) {j:TypeId} {a p:I} {v w:Value} (c:ς S B σ a v) (r:ς S B σ p w):Y4 P (Instr.indexAt j v w) S B H σ ((Km T j a p).YC σ):=by
 unfold Km;split
 .rename_i e t kk n d;cases r;split
  .rename_i ex k l;split
   .rename_i u;subst u;refine .Y9 λf=>?_;obtain⟨base,cap,rfl,_⟩:=Q1 c;have x:n.toNat<l.length:=U;have s:l[n.toNat]?=some l[n.toNat]:=ε x;obtain⟨b,o,rfl,y⟩:=Ah c s;refine λK g=>Fj h d f (VO.same i g ?_);rw[XJ,s];exact y
   .exact .bad
  .exact .bad
 .rename_i e t m kk n d;cases r;split
  .rename_i D;refine .Y9 λf=>?_;cases c with
   | ω b o w A C=>exact λK g=>Fi h d f (VO.same i g (Fl (.ω b o w A C) _))
  .exact .bad
 .exact .bad
theorem Ae (u:Zz P T) (x:Holds S B σ H) {y:TypeId} {a A:I} {v w:Value} (C:ς S B σ a v) (D:ς S B σ A w):Y4 P (Instr.indexAt y v w) S B H σ (SN T y σ a A):=by
 unfold SN;split
 .rename_i e E kk n g;cases D;split
  .rename_i id m i len;split
   .rename_i t k l d;split
    .rename_i F;obtain⟨rfl,h⟩:=F;refine .Y9 λo=>?_;cases C with
     | ms cap c f p J L r=>
      rw[d] at c;cases c;rcases r with r|⟨b,N,rfl,rfl,r⟩
      .omega
      .refine λK s=>Fj u g o (VO.same x s ?_);have:i*k+n.toNat*k=(i+n.toNat)*k+0:=by rw[WT];rfl
       rw[this];exact .Ο d h p
     | Vx v c f=>rw[d] at c;cases c;simp only[Row.WQ] at f;omega
    .exact .bad
   .exact .bad
  .exact .bad
 .rename_i e E len kk n g;cases D;split
  .rename_i id m i j;split
   .rename_i t k l d;split
    .rename_i h;refine .Y9 λo=>?_;cases C with
     | Ο c f p=>
      rw[d] at c;cases c;refine λK s=>Fi u g o (VO.same x s ?_);rw[SZ];exact .Ο d h p
     | Vi v c f=>rw[d] at c;cases c;simp only[Row.WQ] at f;omega
    .exact .bad
   .exact .bad
  .exact .bad
 .exact .bad
end
def I.YG (σ:Ρ):I->Bool
 | .z v=>match v with|.agg _|.tuple _=>false|_=>true
 | .Z' _|.ZV _|.Zk=>false
 | .Ο id n _ _|.ms id n _ _=>match σ[id]? with|some (.cells _ _ l)=>decide (l.length<=n)|_=>false
 | .mp id=>match σ[id]? with|some (.map _)=>true|_=>false
 | .it id=>match σ[id]? with|some (.iter ..)=>true|_=>false
 | _=>true
def I.Qi:I->Nat->ξ->I
 | .Z' l,j,cs=>.Z' (l.take j++cs++l.drop (j+cs.length))
 | _,0,[c]=>c
 | e,_,_=>e
theorem I.HY {σ:Ρ} {a:I} (h:a.YG σ=true):a.cells=[a]:=by
 cases a<;>first|rfl|cases h
theorem I.Fh {σ:Ρ} {e:I} {j:Nat} {cs:ξ} (b:j+cs.length<=e.cells.length) (f:∀c∈cs,I.YG σ c=true):(e.Qi j cs).cells=e.cells.take j++cs++e.cells.drop (j+cs.length):=by
 by_cases a:∃l,e=.Z' l
 .obtain⟨l,rfl⟩:=a;rfl
 .have d:e.cells=[e]:=by cases e<;>first|rfl|exact absurd ⟨_,rfl⟩ a
  rw[d] at b ⊢;cases cs with
  | nil=>
   have:e.Qi j []=e:=by cases e<;>cases j<;>first|rfl|exact absurd ⟨_,rfl⟩ a
   rw[this,d]
   match j with
   | 0=>rfl
   | j+1=>simp
  | cons c cs=>
   simp at b;have g:j=0:=U;have h:cs=[]:=by cases cs<;>simp at b ⊢;omega
   subst g;subst h;have:e.Qi 0 [c]=c:=by cases e<;>first|rfl|exact absurd ⟨_,rfl⟩ a
   rw[this,I.HY (f c J)];simp
section
variable {P:Program} {T:ZR} {S:ο} {B:Z8} {H:Ψ} {σ:Ρ}
theorem ς.Mb {a:I} {v:Value} (h:ς S B σ a v) (b:a.YG σ=true):One v:=by
 cases h with
 | z v=>cases v<;>first|trivial|cases b
 | Vi v c d=>
  simp only[I.YG,c] at b;split at b
  .rename_i e;cases e;simp only[Row.WQ] at d;simp at b;omega
  .cases b
 | Vx v c d=>
  simp only[I.YG,c] at b;split at b
  .rename_i e;cases e;simp only[Row.WQ] at d;simp at b;omega
  .cases b
 | Uo v c=>simp[I.YG,c] at b
 | Td v c=>simp[I.YG,c] at b
 | Z'|ZV|Zk=>cases b
 | _=>trivial
theorem One.cells {v:Value} (h:One v):v.cells=#[v]:=by cases v<;>first|rfl|exact h.elim
theorem ς.cells {a:I} {v:Value} (h:ς S B σ a v) (d:a.cells.all (I.YG σ)=true):v.cells.size=a.cells.length/\∀(j:Nat) (c:I),a.cells[j]?=some c->∃x,v.cells[j]?=some x/\ς S B σ c x/\One x:=by
 have k:a.cells=[a]->v.cells.size=a.cells.length/\∀(j:Nat) (c:I),a.cells[j]?=some c->∃x,v.cells[j]?=some x/\ς S B σ c x/\One x:=λe=>by
  rw[e] at d ⊢;simp at d;have f:=h.Mb d;rw[f.cells];refine⟨rfl,λj c b=>?_⟩
  match j with
  | 0=>simp at b;subst b;exact⟨v,rfl,h,f⟩
  | j+1=>simp at b
 cases h with
 | Z' vs g l=>
  refine⟨g.symm,λj c b=>?_⟩;have m:j<vs.size:=by rw[<-g];exact(Zu.1 b).1
  have hv:vs[j]?=some vs[j]:=XI m
  have i:=l j c _ b hv;exact⟨_,hv,i,i.Mb (Wv.1 d c (Zf b))⟩
 | _=>exact k rfl
theorem Kl (a:Holds S B σ H) {id k:Nat} {t:TypeId} {l:ξ} (h:σ[id]?=some (.cells t k l)):∀(j:Nat) left b,σ[j]?≠some (Row.iter id left b):=λj left b c=>by
 obtain⟨bo,e⟩:=Fs a c;obtain⟨_,_,_,_,_,_,_,_,_,⟨es,d⟩,_⟩:=a.row j _ bo c e;rw[h] at d;cases d
theorem Fg {i a k b lo hi:Nat} (c:b<k) (d:hi<=k) (h:a≠i):¬(i*k+lo<=a*k+b/\a*k+b<i*k+hi):=by
 rintro⟨e,f⟩;rcases Nat.lt_or_gt_of_ne h with h|h
 .have:(a+1)*k<=i*k:=T8 k h;rw[WT] at this;omega
 .have:(i+1)*k<=a*k:=T8 k h;rw[WT] at this;omega
def Ny (P:Program) (s:Sem Unit) (S:ο) (B:Z8) (H:Ψ) (σ:Ρ) (r:YX):Prop:=
 ∀K:I->Ρ->Prop,r.holds K->Ω P s H (λ_ H'=>VO S B H σ K undef H') (λ_ _=>False)
theorem Ny.next {s:Sem Unit} {r:YX} (h:Ny P s S B H σ r):Does P (do s;pure .skip) S B H σ r:=λK a=>
 Ω.bind' (Ω.mono (λ_ G b=>Ω.pure' ⟨undef,rfl,b⟩) (λ_ _ h=>h) _ (h K a))
theorem Ny.bad {s:Sem Unit}:Ny P s S B H σ .bad:=λK a=>a.elim
theorem Ad (C:Holds S B σ H) {id k i j b N:Nat} {t:TypeId} {l:ξ} {e a:I} {v:Value} (D:σ[id]?=some (.cells t k l)) (P:B[id]?=some (some (b,N))) (E:l[i]?=some e) (ab:ς S B σ a v) (Q:a.cells.all (I.YG σ)=true)
  (R:j+a.cells.length<=k) :
  (∀x∈v.cells.toList,One x)/\(∀x,x<a.cells.length->H.owns b (i*k+j+x))/\H.row b=some (t,N)/\
  (let σ':=σ.set id (.cells t k (l.set i (e.Qi j a.cells)));Holds S (B.set id (some (b,N))) σ' (H.WH b (i*k+j) v.cells.toList)/\Ext S B H S (B.set id (some (b,N))) (H.WH b (i*k+j) v.cells.toList)/\Zw S S B (B.set id (some (b,N))) σ σ'):=by
 obtain⟨ad,T⟩:=ab.cells Q;have r:v.cells.toList.length=a.cells.length:=by simpa using ad
 obtain⟨V,W,X,w,F⟩:=C.row id _ _ D P;have Y:i<l.length:=(Zu.1 E).1;have ae:(i+1)*k<=N:=X1 (T8 k Y) W;have ar:i*k+k<=N:=by rw[WT] at ae;omega
 have af:=(F i e E).1
 have ag:∀c∈a.cells,I.YG σ c=true:=Wv.1 Q
 have ah:=I.Fh (σ:=σ) (e:=e) (j:=j) (cs:=a.cells) (by rw[af];exact R) ag;refine⟨λx Z=>?_,λx Z=>?_,V,?_⟩
 .obtain⟨y,K⟩:=Su Z;have ai:y<a.cells.length:=by rw[<-r];exact(Zu.1 K).1
  obtain⟨au,g,_,m⟩:=T y _ (ε ai);rw[Wl] at K;rw[K] at g;cases g;exact m
 .obtain⟨u,aj⟩:=X (i*k+j+x) U;exact⟨u,aj⟩
 .refine C.NB (r':=.cells t k (l.set i (e.Qi j a.cells))) (bo':=some (b,N)) D trivial P (.inl ⟨_,rfl,J,rfl⟩) (λaa ak n=>.inl ⟨ak,n⟩) (λaa g _=>?_) Ψ.H2 (Kl C D) (λL=>?_)
  .have al:aa≠b:=λn=>by subst n;exact g N rfl
   exact⟨λo=>by simp[Ψ.WH,al],rfl,rfl⟩
  .refine⟨V,by simpa using W,λo am=>?_,λh d=>if h=i/\j<=d/\d<j+a.cells.length then(v.cells[d-j]?).getD undef else w h d,λh n s=>?_⟩
   .simp only[Ψ.WH];split
    .exact⟨_,rfl⟩
    .exact X o am
   .by_cases A:h=i
    .subst A;rw[Ww Y] at s;cases s;rw[ah];refine⟨by simp;omega,λd c f=>?_⟩;by_cases M:j<=d/\d<j+a.cells.length
     .have O:a.cells[d-j]?=some c:=by
       rw[U6,Xw (by simp;omega)] at f;simp only[T6] at f;rw[Y0 U] at f;have:d-min j e.cells.length=d-j:=U;rw[this] at f;exact f
      obtain⟨x,g,m,p⟩:=T _ _ O;simp only[M,and_self,if_true,g,Option.getD_some];refine⟨?_,m.later L,p⟩;simp only[Ψ.WH,r];rw[if_pos ⟨trivial,U,U⟩];have:h*k+d-(h*k+j)=d-j:=U;rw[this,Wl,g];rfl
     .have O:e.cells[d]?=some c:=by
       by_cases an:d<j
       .rw[U6,Y0 (by simp;omega),Tq an] at f;exact f
       .rw[Xw (by simp;omega)] at f;rw[T7] at f;have:j+a.cells.length+(d-(e.cells.take j++a.cells).length)=d:=by simp;omega
        rw[this] at f;exact f
      simp only[M,and_false,if_false];obtain⟨g,m,p⟩:=(F h e E).2 d c O;refine⟨?_,m.later L,p⟩;simp only[Ψ.WH,r];rw[if_neg (λx=>M ⟨U,U⟩)];exact g
    .rw[Vm (YQ A)] at s;obtain⟨g,m⟩:=F h n s;refine⟨g,λd c f=>?_⟩;obtain⟨p,ao,ap⟩:=m d c f;have aq:d<k:=by rw[<-g];exact(Zu.1 f).1
     simp only[A,false_and,if_false];refine⟨?_,ao.later L,ap⟩;simp only[Ψ.WH,r];rw[if_neg (λx=>Fg (lo:=j) (hi:=j+a.cells.length) aq R A ⟨x.2.1,U⟩)];exact p
def Kk (T:ZR) (c:TypeId) (σ:Ρ) (p a:I):YX:=match p with
 | .Ο id n i j=>match T c,σ[id]? with
  | some b,some (.cells t k l)=>match l[i]? with
   | some e=>if l.length=n/\a.cells.length=b.size/\j+b.size<=k/\a.cells.all (I.YG σ)=true then .ok .Zk (σ.set id (.cells t k (l.set i (e.Qi j a.cells)))) else .bad
   | none=>.bad
  | _,_=>.bad
 | _=>.bad
theorem Ac (r:Zz P T) (s:Holds S B σ H) {g:TypeId} {p a:I} {u v:Value} (w:ς S B σ p u) (h:ς S B σ a v):Ny P (Instr.storeAt g u v) S B H σ (Kk T g σ p a):=by
 unfold Kk;split
 .rename_i id n i j;split
  .rename_i M t k l hi d;split
   .rename_i e y;split
    .rename_i A;obtain⟨O,Q,R,m⟩:=A;cases w with
     | Ο c o C=>
      rename_i b N;rw[d] at c;cases c;intro K D;obtain⟨E,F,J,f⟩:=Ad s d C y h m (by omega:j+a.cells.length<=k);obtain⟨V,_⟩:=h.cells m;refine Ω.bind' (Ω.pure' ?_);unfold storeVar;refine Ω.bind' (r.size hi ?_);rw[if_neg U];refine Ω.storeCells (G:=H) rfl ⟨t,N,J⟩ v.cells.toList 0 H E (λx _ L=>F x (by simp at L;omega)) rfl ?_;exact⟨S,_,_,.Zk,D,f.2.1,f.1,f.2.2,.Zk _⟩
     | Vi v c o=>rw[d] at c;cases c;simp only[Row.WQ] at o;omega
    .exact .bad
   .exact .bad
  .exact .bad
 .exact .bad
end
section
variable {P:Program} {T:ZR} {S:ο} {B:Z8} {H:Ψ} {σ:Ρ}
def Xn (S:ο) (B:Z8) (σ:Ρ) (c:Array Value) (k:Nat) (l:ξ):Prop:=
 l.length*k<=c.size/\∀(i:Nat) (e:I),l[i]?=some e->e.cells.length=k/\∀(j:Nat) (a:I),e.cells[j]?=some a->∃x,c[i*k+j]?=some x/\ς S B σ a x/\One x
theorem Kj {a:I} (h:a.YG []=true):a.YG σ=true:=by
 cases a<;>first|exact h|(simp[I.YG] at h)
theorem Nx {l:ξ} (h:l.all (I.YG [])=true):l.all (I.YG σ)=true:=by
 rw[Wv] at *;exact λa b=>Kj (h a b)
theorem Xn.put {c:Array Value} {k:Nat} {l:ξ} (h:Xn S B σ c k l) {i j:Nat} {e a:I} {v:Value} (t:l[i]?=some e) (K:ς S B σ a v) (y:a.cells.all (I.YG σ)=true) (A:j+a.cells.length<=k) :
  let c':=v.cells.zipIdx.foldl (λcs (x:Value×Nat)=>cs.setIfInBounds (i*k+j+x.2) x.1) c
  c'.size=c.size/\Xn S B σ c' k (l.set i (e.Qi j a.cells)):=by
 obtain⟨L,M⟩:=K.cells y;have C:i<l.length:=(Zu.1 t).1;have N:=(h.2 i e t).1;have O:∀c∈a.cells,I.YG σ c=true:=Wv.1 y;have P:=I.Fh (σ:=σ) (e:=e) (j:=j) (cs:=a.cells) (by rw[N];exact A) O;have Q:∀(vs:List Value) (n:Nat) (c:Array Value),((vs.zipIdx n).foldl (λcs (x:Value×Nat)=>cs.setIfInBounds (i*k+j+x.2) x.1) c).size=c.size/\
   ∀p,((vs.zipIdx n).foldl (λcs (x:Value×Nat)=>cs.setIfInBounds (i*k+j+x.2) x.1) c)[p]?=if i*k+j+n<=p/\p<i*k+j+n+vs.length/\p<c.size then vs[p-(i*k+j+n)]? else c[p]?:=by
  intro vs
  induction vs with
  | nil=>intro n c;refine⟨rfl,λp=>?_⟩;rw[if_neg (by simp;omega)];rfl
  | cons v vs R=>
   intro n c;obtain⟨f,g⟩:=R (n+1) (c.setIfInBounds (i*k+j+n) v);simp only[List.zipIdx_cons,List.foldl_cons];refine⟨by rw[f];simp,λp=>?_⟩;rw[g p];simp only[T9,List.length_cons];by_cases D:p=i*k+j+n
   .subst D;rw[if_neg U];by_cases E:i*k+j+n<c.size
    .rw[if_pos ⟨U,U,E⟩,Tt E];simp
    .rw[if_neg U,NV (by simp;omega),NV U]
   .by_cases m:i*k+j+(n+1)<=p/\p<i*k+j+(n+1)+vs.length/\p<c.size
    .rw[if_pos m,if_pos ⟨U,U,m.2.2⟩];have:p-(i*k+j+n)=(p-(i*k+j+(n+1)))+1:=U;rw[this,List.getElem?_cons_succ]
    .rw[if_neg m,if_neg U,UW (YQ D)]
 obtain⟨F,H⟩:=Q v.cells.toList 0 c;have T:v.cells.zipIdx.foldl (λcs (x:Value×Nat)=>cs.setIfInBounds (i*k+j+x.2) x.1) c=(v.cells.toList.zipIdx 0).foldl (λcs (x:Value×Nat)=>cs.setIfInBounds (i*k+j+x.2) x.1) c:=by
  rw[<-Array.foldl_toList];simp
 intro c';have V:c'=(v.cells.toList.zipIdx 0).foldl (λcs (x:Value×Nat)=>cs.setIfInBounds (i*k+j+x.2) x.1) c:=T;rw[V];have J:v.cells.toList.length=a.cells.length:=by simpa using L
 have aa:i*k+k<=c.size:=by
  have f:(i+1)*k<=l.length*k:=T8 k C
  have g:=h.1;rw[WT] at f;omega
 refine⟨F,by rw[F];simpa using h.1,λo W s=>?_⟩;by_cases u:o=i
 .subst u;rw[Ww C] at s;cases s;rw[P];refine⟨by simp;omega,λb r d=>?_⟩;rw[H,J];by_cases m:j<=b/\b<j+a.cells.length
  .have w:a.cells[b-j]?=some r:=by
    rw[U6,Xw (by simp;omega)] at d;simp only[T6] at d;rw[Y0 U] at d;have:b-min j e.cells.length=b-j:=U;rw[this] at d;exact d
   obtain⟨x,f,g,X⟩:=M _ _ w;rw[if_pos ⟨U,U,U⟩];have:o*k+b-(o*k+j+0)=b-j:=U;rw[this,Wl];exact⟨x,f,g,X⟩
  .have w:e.cells[b]?=some r:=by
    by_cases Y:b<j
    .rw[U6,Y0 (by simp;omega),Tq Y] at d;exact d
    .rw[Xw (by simp;omega)] at d;rw[T7] at d;have:j+a.cells.length+(b-(e.cells.take j++a.cells).length)=b:=by simp;omega
     rw[this] at d;exact d
   rw[if_neg (λx=>m ⟨U,U⟩)];exact(h.2 o e t).2 b r w
 .rw[Vm (YQ u)] at s;obtain⟨f,g⟩:=h.2 o W s;refine⟨f,λb r d=>?_⟩;have Z:b<k:=by rw[<-f];exact(Zu.1 d).1
  rw[H,J,if_neg (λx=>Fg (lo:=j) (hi:=j+a.cells.length) Z A u ⟨U,U⟩)];exact g b r d
theorem Xn.Ff {z:Value} {a:I} (p:ς S B σ a z) (r:a.cells.all (I.YG σ)=true) {k n m:Nat} (b:a.cells.length=k) (s:n*k<=m) (d:Array Value) (t:d=z.cells) :
  Xn S B σ ((Array.range m).map (d[· % d.size]!)) k (List.replicate n a):=by
 obtain⟨u,v⟩:=p.cells r;subst t;refine⟨by simpa using s,λi e hi=>?_⟩;obtain⟨f,g⟩:=Zu.1 hi;simp at f g;subst g;refine⟨b,λj c h=>?_⟩;obtain⟨x,l,Φ,w⟩:=v j c h;have y:j<k:=by rw[<-b];exact(Zu.1 h).1
 have A:i*k+j<m:=by
  have:(i+1)*k<=n*k:=T8 k f;rw[WT] at this;omega
 refine⟨x,?_,Φ,w⟩;rw[PE,Array.getElem?_range,if_pos A];simp only[Option.map_some];have:(i*k+j) % z.cells.size=j:=by
  rw[u,b,Nat.mul_comm,Nat.mul_add_mod];exact PC y
 rw[this];have o:j<z.cells.size:=U;rw[XI o] at l;cases l;rw[getElem!_pos z.cells j o]
theorem Xn.later {b:ο} {B':Z8} {σ':Ρ} (d:Zw S b B B' σ σ') {c:Array Value} {k:Nat} {l:ξ} (h:Xn S B σ c k l):Xn b B' σ' c k l:=
 ⟨h.1,λi e hi=>⟨(h.2 i e hi).1,λj a f=>by obtain⟨x,g,m,n⟩:=(h.2 i e hi).2 j a f;exact⟨x,g,m.later d,n⟩⟩⟩
theorem Xn.one {a:I} {v:Value} (b:ς S B σ a v) (d:a.cells.all (I.YG σ)=true):Xn S B σ v.cells a.cells.length [a]:=by
 obtain⟨f,g⟩:=b.cells d;refine⟨by simp[f],λi e hi=>?_⟩
 match i with
 | 0=>
  simp at hi;subst hi;refine⟨rfl,λj c h=>?_⟩;rw[Pz,Vl];exact g j c h
 | i+1=>simp at hi
theorem Ma (p:Holds S B σ H) {c:Array Value} {k:Nat} {l:ξ} (d:Xn S B σ c k l) (t:TypeId) {K:Nat->Ψ->Prop} {E:Value->Ψ->Prop}
  (h:∀r,H.fresh r->Holds S (B++[some (r,c.size)]) (σ++[.cells t k l]) (H.YB r c t)->Ext S B H S (B++[some (r,c.size)]) (H.YB r c t)->Zw S S B (B++[some (r,c.size)]) σ (σ++[.cells t k l])->K r (H.YB r c t)) :
  Ω P (newObj (.cells c t)) H K E:=by
 refine⟨rfl,λr f=>?_⟩;have s:∀b,(∀N,some (r,c.size)≠some (b,N))->UP H (H.YB r c t) b:=λb u=>by
  have g:b≠r:=λe=>by subst e;exact u _ rfl
  exact⟨λo=>by simp[Ψ.YB,g],by simp[Ψ.YB,g],rfl⟩
 have v:Zw S S B (B++[some (r,c.size)]) σ (σ++[.cells t k l])->Vh S (B++[some (r,c.size)]) (σ++[.cells t k l]) (H.YB r c t) (.cells t k l) (some (r,c.size)):=λw=>by
  have m:=d.later w;refine⟨by simp[Ψ.YB],d.1,λo y=>⟨c[o],by simp[Ψ.YB,y]⟩,λi j=>(c[i*k+j]?).getD undef,λi e hi=>⟨(m.2 i e hi).1,λj a A=>?_⟩⟩;obtain⟨x,n,Φ,C⟩:=(m.2 i e hi).2 j a A;simp only[n,Option.getD_some];exact⟨by simp[Ψ.YB,n],Φ,C⟩
 obtain⟨D,F,I⟩:=p.push (λb N e=>by cases e;exact f) s v;exact h r f D F I
theorem L' (a:Holds S B σ H) (c:Array Value) (t:TypeId) {K:Nat->Ψ->Prop} {E:Value->Ψ->Prop}
  (h:∀r,Holds (S.lay r c) B σ (H.YB r c t)->Ext S B H (S.lay r c) B (H.YB r c t)->Zw S (S.lay r c) B B σ σ->K r (H.YB r c t)) :
  Ω P (newObj (.cells c t)) H K E:=by
 refine⟨rfl,λr b=>?_⟩;obtain⟨d,e,f⟩:=a.lay (c:=c) (t:=t) b;exact h r d e f
theorem Fe {r:Nat} {c:Array Value} {a:I} {k:Nat} (f:Zw S (S.lay r c) B B σ σ) (g:Xn S B σ c k [a]):ς (S.lay r c) B σ (.ω a.cells) (.pointer (some ⟨r,0,none⟩)):=by
 have e:=g.later f;refine .ω r 0 (λj=>(c[j]?).getD undef) (λj x d=>?_) (λj x d=>?_)
 .obtain⟨y,b,_⟩:=(e.2 0 a rfl).2 j x d;rw[Pz,Vl] at b;simp[ο.lay,b]
 .obtain⟨y,b,Φ,_⟩:=(e.2 0 a rfl).2 j x d;rw[Pz,Vl] at b;simp only[b,Option.getD_some];exact Φ
theorem Ki {r:Nat} {c:Array Value} {k cap:Nat} {l:ξ} (ex:Bool) (f:Zw S (S.lay r c) B B σ σ) (g:Xn S B σ c k l) (h:l.length<=cap) (m:ex=true->cap=l.length):ς (S.lay r c) B σ (.sl ex k l) (.slice (some ⟨r,0,none⟩) l.length cap):=by
 have a:=g.later f;refine .sl r 0 cap (λi j=>(c[i*k+j]?).getD undef) m h (λi e hi=>(a.2 i e hi).1) (λi e hi j x b=>?_) (λi e hi j x b=>?_)
 .obtain⟨y,d,_⟩:=(a.2 i e hi).2 j x b;simp[ο.lay,d]
 .obtain⟨y,d,Φ,_⟩:=(a.2 i e hi).2 j x b;simp only[d,Option.getD_some];exact Φ
end
section
variable {P:Program} {T:ZR} {S:ο} {B:Z8} {H:Ψ} {σ:Ρ}
def Kh (σ:Ρ) (a:I):YX:=if a.cells.all (I.YG σ)=true then .ok (.ω a.cells) σ else .bad
def Nw (a:I):Zc:=if a.cells.all (I.YG [])=true then .ok (.ω a.cells) else .bad
def Nv (t:TypeId) (σ:Ρ) (a:I):YX:=if a.cells.all (I.YG σ)=true then .ok (.Ο σ.length 1 0 0) (σ++[.cells t a.cells.length [a]]) else .bad
theorem HX (d:Holds S B σ H) (b:TypeId) {a:I} {v:Value} (e:ς S B σ a v) (f:a.cells.all (I.YG σ)=true):Y4 P (do pure (.pointer (some (<-newVar b v)))) S B H σ (.ok (.ω a.cells) σ):=by
 intro K g;refine Ω.bind' ?_;unfold newVar newRow;refine Ω.bind' (L' d v.cells b λr h i c=>Ω.pure' (Ω.pure' ⟨_,_,_,_,g,i,h,c,?_⟩));exact Fe c (Xn.one e f)
theorem Ab (c:Holds S B σ H) (b:TypeId) {a:I} {v:Value} (d:ς S B σ a v):Y4 P (Instr.box b v) S B H σ (Kh σ a):=by
 unfold Kh;split
 .rename_i e;exact HX c b d e
 .exact .bad
theorem Aa (c:Holds S B σ H) (b:TypeId) {a:I} {v:Value} (d:ς S B σ a v):Y4 P (Instr.box b v) S B H σ ((Nw a).YC σ):=by
 unfold Nw;split
 .rename_i e;exact HX c b d (Nx e)
 .exact .bad
theorem Fc (d:Holds S B σ H) (c:TypeId) {a:I} {v:Value} (e:ς S B σ a v):Y4 P (do pure (.pointer (some (<-newVar c v)))) S B H σ (Nv c σ a):=by
 unfold Nv;split
 .rename_i f;intro K g;refine Ω.bind' ?_;unfold newVar newRow;refine Ω.bind' (Ma d (Xn.one e f) c λr _ h m o=>Ω.pure' (Ω.pure' ⟨_,_,_,_,g,m,h,o,?_⟩));have:=ς.Ο (S:=S) (B:=B++[some (r,v.cells.size)]) (σ:=σ++[.cells c a.cells.length [a]]) (id:=σ.length) (n:=1) (i:=0) (j:=0) (k:=a.cells.length) (t:=c) (l:=[a]) (b:=r) (N:=v.cells.size) J rfl (by rw[<-d.len];simp);simpa using this
 .exact .bad
theorem z' (c:Holds S B σ H) (b:TypeId) {a:I} {v:Value} (d:ς S B σ a v):Y4 P (Instr.box b v) S B H σ (Nv b σ a):=Fc c b d
def Kg (T:ZR) (a:TypeId) (σ:Ρ):YX:=match T a with|some i=>Nv a σ (WG i.zero)|none=>.bad
def Kf (T:ZR) (a:TypeId):Zc:=match T a with|some i=>Nw (WG i.zero)|none=>.bad
theorem z9 (b:Zz P T) (c:Holds S B σ H) (a:TypeId):Y4 P (Instr.alloc a true (.tuple #[])) S B H σ (Kg T a σ):=by
 unfold Kg;cases hi:T a with
 | none=>exact .bad
 | some i=>
  intro K d;unfold Instr.alloc;exact Ω.bind' (b.zero hi (Fc c a (RF i.zero) K d))
theorem z8 (b:Zz P T) (c:Holds S B σ H) (a:TypeId):Y4 P (Instr.alloc a true (.tuple #[])) S B H σ ((Kf T a).YC σ):=by
 unfold Kf;cases hi:T a with
 | none=>exact .bad
 | some i=>
  simp only[Nw];split
  .rename_i d;intro K e;unfold Instr.alloc;exact Ω.bind' (b.zero hi (HX c a (RF i.zero) (Nx d) K e))
  .exact .bad
def Q0 (b:Nat->Option (Nat×Nat×Nat)) (k:Nat) (c:I->Bool) (l:ξ):List (Nat×I)->Option (ξ)
 | []=>some l
 |(x,a)::r=>match b x with
  | some (i,j,n)=>match l[i]? with
   | some e=>if a.cells.length=n/\j+n<=k/\a.cells.all c=true then Q0 b k c (l.set i (e.Qi j a.cells)) r else none
   | none=>none
  | none=>none
theorem HW {k:Nat} {r:I->Bool} (y:∀a:I,r a=true->a.YG σ=true) {s:Nat->Option (Nat×Nat×Nat)} {place:Nat->Option (Nat×Nat)} (A:∀x i j n,s x=some (i,j,n)->place x=some (i*k+j,n)) {env:Δ} {t:Array Value} (C:YS S B σ env t) :
  ∀(b:List (Nat×Operand)) (c:Array Value) (l d:ξ),Xn S B σ c k l->Q0 s k r l (b.map λp=>(p.1,η env p.2))=some d->
  ∃c',Instr.fill place c (b.map λp=>(p.1,ZM t p.2))=some c'/\c'.size=c.size/\Xn S B σ c' k d/\d.length=l.length:=by
 intro b
 induction b with
 | nil=>intro c l d f h;cases h;exact⟨c,rfl,rfl,f,rfl⟩
 | cons p b D=>
  obtain⟨x,o⟩:=p;intro c l d f h;simp only[XC,Q0] at h;split at h<;>try cases h
  rename_i i j n E;split at h<;>try cases h
  rename_i e u;split at h<;>try cases h
  rename_i F;obtain⟨Q,R,v⟩:=F;have g:=Un C o;have w:(η env o).cells.all (I.YG σ)=true:=by
   rw[Wv] at v ⊢;exact λa g=>y a (v a g)
  obtain⟨T,_⟩:=g.cells w;obtain⟨H,J⟩:=f.put u g w (by omega:j+(η env o).cells.length<=k);obtain⟨c',K,Φ,L,M⟩:=D _ _ _ J h;refine⟨c',?_,by rw[Φ,H],L,by rw[M];simp⟩;have N:i<l.length:=(Zu.1 u).1;have U:i*k+j+(ZM t o).cells.size<=c.size:=by
   have O:(i+1)*k<=l.length*k:=T8 k N
   have V:=f.1;rw[WT] at O;omega
  simp only[XC,Instr.fill,A x i j n E];have m:((ZM t o).cells.size≠n)=False:=by simp;omega
  have P:(i*k+j+(ZM t o).cells.size > c.size)=False:=by simp;omega
  simp only[bne_iff_ne,ne_eq,Bool.or_eq_true,decide_eq_true_eq,m,P];simp only[ne_eq] at m;simp only[m,or_self,if_false];exact K
def Fb (T:ZR) (a:Array Field):Option (List (Nat×Nat)):=a.toList.mapM λf=>(T f.type).map λi=>(f.offset,i.size)
theorem z7 (g:Zz P T) {K:Array (Nat×Nat)->Ψ->Prop} {E:Value->Ψ->Prop} {c:Array Field} {l:List (Nat×Nat)} (h:Fb T c=some l) (b:K l.toArray H) :
  Ω P (c.mapM λf=>(do pure (f.offset,<-sizeOf f.type):Sem (Nat×Nat))) H K E:=by
 have j:∀(a:List Field) (l:List (Nat×Nat)) (K:List (Nat×Nat)->Ψ->Prop),(a.mapM λf=>(T f.type).map λi=>(f.offset,i.size))=some l->K l H->Ω P (a.mapM λf=>(do pure (f.offset,<-sizeOf f.type):Sem (Nat×Nat))) H K E:=by
  intro a
  induction a with
  | nil=>intro l K h b;simp at h;subst h;exact Ω.pure' b
  | cons f a k=>
   intro l K h b;rw[List.mapM_cons] at h ⊢;cases d:T f.type with
   | none=>rw[d] at h;cases h
   | some i=>
    rw[d] at h;simp only[Option.map_some,Option.bind_eq_bind,Option.bind_some] at h;cases e:(a.mapM λf=>(T f.type).map λi=>(f.offset,i.size)) with
    | none=>rw[e] at h;cases h
    | some l2=>
     rw[e] at h;cases h;refine Ω.bind' (Ω.bind' (g.size d (Ω.pure' ?_)));refine Ω.bind' (k l2 _ e ?_);exact Ω.pure' b
 rw[Array.mapM_eq_mapM_toList];exact Ω.bind (c.toList.mapM _) (j c.toList l _ h (Ω.pure' b))
def TZ (T:ZR) (a:I->Bool) (c:TypeId) (parts:List (Nat×I)):Zc:=match T c with
 | some i=>
  let z:=WG i.zero
  if z.cells.length=i.zero.cells.size/\z.cells.all (I.YG [])=true then match i.ZD with
   | .struct d=>match Fb T d with
    | some f=>match Q0 (λx=>(f[x]?).map λp=>(0,p.1,p.2)) z.cells.length a [z] parts with
     | some [e]=>.ok (.Z' e.cells)
     | _=>.bad
    | none=>.bad
   | .array _ el=>match T el with
    | some b=>match Q0 (λx=>some (0,x*b.size,b.size)) z.cells.length a [z] parts with
     | some [e]=>.ok (.Z' e.cells)
     | _=>.bad
    | none=>.bad
   | _=>.bad
  else .bad
 | none=>.bad
theorem Fa {c:Array Value} {k:Nat} {e:I} (h:Xn S B σ c k [e]) (d:c.size=k):ς S B σ (.Z' e.cells) (.agg c):=by
 obtain⟨f,g⟩:=h.2 0 e rfl;refine .Z' c (by rw[f,d]) λj a v i hv=>?_;obtain⟨x,b,Φ,_⟩:=g j a i;rw[Pz,Vl,hv] at b;cases b;exact Φ
theorem E9 (b:Zz P T) (r:Holds S B σ H) {s:I->Bool} (u:∀a:I,s a=true->a.YG σ=true) (c:TypeId) {env:Δ} {t:Array Value} (v:YS S B σ env t) (parts:Array (Nat×Operand)) :
  Y4 P (Instr.build c (parts.map λ(i,x)=>(i,ZM t x))) S B H σ ((TZ T s c (parts.toList.map λp=>(p.1,η env p.2))).YC σ):=by
 unfold TZ;cases hi:T c with
 | none=>exact .bad
 | some i=>
  simp only;split
  .rename_i E;obtain⟨w,F⟩:=E;have y:Xn S B σ i.zero.cells (WG i.zero).cells.length [WG i.zero]:=Xn.one (RF i.zero) (Nx F);have A:(parts.map λ(i,x)=>(i,ZM t x)).toList=parts.toList.map λp=>(p.1,ZM t p.2):=J;split
   .rename_i N d;split
    .rename_i C L;split
     .rename_i e f;intro K g;unfold Instr.build;refine Ω.bind' (b.zero hi (Ω.bind' (b.ZD hi ?_)));rw[d];refine Ω.bind' (z7 b L ?_);obtain⟨c',k,Φ,l,_⟩:=HW (place:=(C.toArray[·]?)) u (λx i j n h=>by
       cases o:C[x]? with
       | none=>rw[o] at h;cases h
       | some p=>rw[o] at h;cases h;simp[o]) v parts.toList _ _ _ y f
      rw[A,k];exact Ω.pure' (.same r g (Fa l (by rw[Φ,w])))
     .exact .bad
    .exact .bad
   .rename_i m el d;split
    .rename_i D M;split
     .rename_i e f;intro K g;unfold Instr.build;refine Ω.bind' (b.zero hi (Ω.bind' (b.ZD hi ?_)));rw[d];refine Ω.bind' (b.size M ?_);obtain⟨c',k,Φ,l,_⟩:=HW (place:=λi=>some (i*D.size,D.size)) u (λx i j n h=>by
       simp at h;obtain⟨rfl,rfl,rfl⟩:=h;simp) v parts.toList _ _ _ y f
      rw[A,k];exact Ω.pure' (.same r g (Fa l (by rw[Φ,w])))
     .exact .bad
    .exact .bad
   .exact .bad
  .exact .bad
def L9 (T:ZR) (b:I->Bool) (c:TypeId) (len:Nat) (parts:List (Nat×I)):Option (TypeId×Nat×ξ):=match WO T c with
 | some (e,k,none)=>match T e with
  | some a=>if 0<k/\len*k<=2 ^ 24/\(WG a.zero).cells.length=k/\(WG a.zero).cells.all (I.YG [])=true then
    (Q0 (λx=>some (x,0,k)) k b (List.replicate len (WG a.zero)) parts).map λl=>(e,k,l) else none
  | none=>none
 | _=>none
theorem E8 (m:Zz P T) {o:I->Bool} (M:∀a:I,o a=true->a.YG σ=true) {y e:TypeId} {len k:Nat} {l:ξ} {env:Δ} {t:Array Value} (N:YS S B σ env t) {parts:Array (Nat×Operand)}
  (h:L9 T o y len (parts.toList.map λp=>(p.1,η env p.2))=some (e,k,l)) {K:Value->Ψ->Prop} {E:Value->Ψ->Prop}
  (A:∀c:Array Value,Xn S B σ c k l->l.length=len->Ω P (newObj (.cells c e)) H (λr H'=>K (.slice (some ⟨r,0,none⟩) len len) H') E) :
  Ω P (Instr.buildSlice y len (parts.map λ(i,x)=>(i,ZM t x))) H K E:=by
 unfold L9 at h;split at h<;>try cases h
 rename_i af C O;split at h<;>try cases h
 rename_i g s;split at h<;>try cases h
 rename_i Q;obtain⟨ag,ah,R,V⟩:=Q;obtain⟨i,ai,hi,W,D,X⟩:=Kn O;rw[s] at D;cases D;cases u:Q0 (λx=>some (x,0,C)) C o (List.replicate len (WG g.zero)) (parts.toList.map λp=>(p.1,η env p.2)) with
 | none=>rw[u] at h;cases h
 | some aj=>
  rw[u] at h;cases h;unfold Instr.buildSlice;refine Ω.bind' (m.ZD hi ?_);rw[W];refine Ω.bind' (m.size s ?_);rw[X];have Y:¬(len*k > 2 ^ 24):=U;simp only[Y,if_false];have Z:(parts.map λ(i,x)=>(i,ZM t x)).toList=parts.toList.map λp=>(p.1,ZM t p.2):=J;have F:∀b:Array Value,(len=0\/b=g.zero.cells)->∃c',Instr.fill (λi=>some (i*k,k)) ((Array.range (len*k)).map (b[· % b.size]!)) (parts.map λ(i,x)=>(i,ZM t x)).toList=some c'/\Xn S B σ c' k l/\l.length=len:=λb v=>by
   have aa:Xn S B σ ((Array.range (len*k)).map (b[· % b.size]!)) k (List.replicate len (WG g.zero)):=by
    rcases v with rfl|v
    .exact⟨J,λi e hi=>by simp at hi⟩
    .exact Xn.Ff (RF g.zero) (Nx V) R (Z1 _) b v
   obtain⟨c',d,Φ,f,ab⟩:=HW (place:=λi=>some (i*k,k)) M (λx i j n h=>by
    simp at h;obtain⟨rfl,rfl,rfl⟩:=h;simp) N parts.toList _ _ _ aa u
   rw[Z];exact⟨c',d,f,by rw[ab];simp⟩
  by_cases L:len=0
  .obtain⟨c',d,Φ,f⟩:=F #[] (.inl L);have ad:len*k=0:=by rw[L];simp
   rw[if_pos ad];refine Ω.bind' (Ω.pure' ?_);rw[d];exact Ω.bind' (A c' Φ f)
  .have ae:len*k≠0:=by
    intro w;rcases Nat.mul_eq_zero.1 w with w|w<;>omega
   obtain⟨c',d,Φ,f⟩:=F _ (.inr rfl);rw[if_neg ae];refine Ω.bind' (m.zero s ?_);refine Ω.bind' (Ω.pure' ?_);rw[d];exact Ω.bind' (A c' Φ f)
def L8 (T:ZR) (a:I->Bool) (b:TypeId) (len:Nat) (parts:List (Nat×I)):Zc:=match L9 T a b len parts with
 | some (_,k,l)=>.ok (.sl true k l)
 | none=>.bad
def Ke (T:ZR) (a:TypeId) (len:Nat) (parts:List (Nat×I)) (σ:Ρ):YX:=match L9 T (I.YG σ) a len parts with
 | some (e,k,l)=>.ok (.ms σ.length len 0 len) (σ++[.cells e k l])
 | none=>.bad
theorem E7 (j:Zz P T) (m:Holds S B σ H) {b:I->Bool} (n:∀a:I,b a=true->a.YG σ=true) (d:TypeId) (len:Nat) {env:Δ} {t:Array Value} (o:YS S B σ env t) (parts:Array (Nat×Operand)) :
  Y4 P (Instr.buildSlice d len (parts.map λ(i,x)=>(i,ZM t x))) S B H σ ((L8 T b d len (parts.toList.map λp=>(p.1,η env p.2))).YC σ):=by
 unfold L8;split
 .rename_i e k l h;intro K s;refine E8 j n o h λc u f=>L' m c e λr v w g=>⟨_,_,_,_,s,w,v,g,?_⟩;have:=Ki (cap:=len) true g u U (λ_=>f.symm);rw[f] at this;exact this
 .exact .bad
theorem E6 {r n k:Nat} {t:TypeId} {l:ξ} (b:B.length=σ.length) (c:Array Value) (d:l.length*k<=c.size) (a:l.length=n):ς S (B++[some (r,c.size)]) (σ++[.cells t k l]) (.ms σ.length n 0 n) (.slice (some ⟨r,0,none⟩) n n):=by
 have:=ς.ms (S:=S) (B:=B++[some (r,c.size)]) (σ:=σ++[.cells t k l]) (id:=σ.length) (n:=n) (i:=0) (len:=n) (t:=t) (k:=k) (l:=l) (bo:=some (r,c.size)) (base:=some ⟨r,0,none⟩) n J a (by rw[<-b];simp) U (Z1 _) (.inr ⟨r,c.size,rfl,J,by subst a;simpa using d⟩);exact this
theorem z6 (g:Zz P T) (b:Holds S B σ H) (d:TypeId) (len:Nat) {env:Δ} {t:Array Value} (j:YS S B σ env t) (parts:Array (Nat×Operand)) :
  Y4 P (Instr.buildSlice d len (parts.map λ(i,x)=>(i,ZM t x))) S B H σ (Ke T d len (parts.toList.map λp=>(p.1,η env p.2)) σ):=by
 unfold Ke;split
 .rename_i e k l h;intro K m;exact E8 g (λa h=>h) j h λc f n=>Ma b f e λr _ o s u=>⟨_,_,_,_,m,s,o,u,E6 b.len c f.1 n⟩
 .exact .bad
def L7 (T:ZR) (d:TypeId) (a b:I):Option (TypeId×Nat×I×Int×Int):=match WO T d,a,b with
 | some (e,k,none),.z (.int _ n),.z (.int _ m)=>match T e with
  | some c=>if 0<k/\(WG c.zero).cells.length=k/\(WG c.zero).cells.all (I.YG [])=true then some (e,k,WG c.zero,n,c.bytes) else none
  | none=>none
 | _,_,_=>none
end
section
variable {P:Program} {T:ZR} {S:ο} {B:Z8} {H:Ψ} {σ:Ρ}
theorem E5 (d:Zz P T) {o e:TypeId} {k:Nat} {z:I} {n bytes:Int} {a b:I} {u v:Value} (A:ς S B σ a u) (C:ς S B σ b v) (h:L7 T o a b=some (e,k,z,n,bytes)) (D:∀kk m,b=.z (.int kk m)->m=n) (F:0<=n/\0<bytes/\bytes*n<=2 ^ 48) {K:Value->Ψ->Prop} {E:Value->Ψ->Prop}
  (p:∀c:Array Value,Xn S B σ c k (List.replicate n.toNat z)->Ω P (newObj (.cells c e)) H (λr H'=>K (.slice (some ⟨r,0,none⟩) n.toNat n.toNat) H') E) :
  Ω P (Instr.makeSlice o u v) H K E:=by
 unfold L7 at h;split at h<;>try cases h
 rename_i ad ae af ag ah m L;split at h<;>try cases h
 rename_i j g;split at h<;>try cases h
 rename_i M;obtain⟨ai,N,O⟩:=M;cases A;cases C;have Q:=D _ _ rfl;subst Q;obtain⟨i,aj,hi,R,s,V⟩:=Kn L;rw[g] at s;cases s;obtain⟨W,ak,al⟩:=F;have am:m<=2 ^ 48:=by
  have:1*m<=(j.bytes:Int)*m:=Int.mul_le_mul_of_nonneg_right U W;omega
 have X:i64.wrap m=m:=IntWalk.i64_in m ⟨U,U⟩;unfold Instr.makeSlice;refine Ω.bind' (d.ZD hi ?_);rw[R];refine Ω.bind' (Ω.bind' (Ω.pure' (Ω.pure' ?_)));refine Ω.bind' (Ω.bind' (Ω.pure' (Ω.pure' ?_)));refine Ω.bind' (d.info g λf Y=>?_);simp only[X,Y];have Z:¬m<0:=U;have aa:¬((j.bytes:Int)*m > 2 ^ 48):=U;have ab:¬m > m:=U;simp only[Z,aa,ab,decide_false,Bool.or_false,Xf,if_false];refine Ω.bind' ?_;have t:Ω P (do
   let w <-(do pure (m.toNat*(<-sizeOf e)):Sem Nat)
   let x <-if w=0 then pure #[] else do pure (<-zeroValue e).cells
   let a <-newRow e ((Array.range w).map (x[· % x.size]!))
   pure (.slice (some a) m.toNat m.toNat)) H K E:=by
  refine Ω.bind' (Ω.bind' (d.size g (Ω.pure' ?_)));rw[V];by_cases l:m.toNat*k=0
  .rw[if_pos l];refine Ω.bind' (Ω.pure' ?_);refine Ω.bind' (Ω.bind' ?_);refine p _ ?_;rcases Nat.mul_eq_zero.1 l with y|y
   .rw[y];exact⟨J,λi e hi=>by simp at hi⟩
   .omega
  .rw[if_neg l];refine Ω.bind' (d.zero g ?_);refine Ω.bind' (Ω.pure' ?_);refine Ω.bind' (Ω.bind' ?_);exact p _ (Xn.Ff (RF j.zero) (Nx O) N (Z1 _) _ rfl)
 unfold askRoom;split
 .refine⟨rfl,?_⟩;show Ω P _ H K E;have:=t;simpa using this
 .refine Ω.pure' ?_;show Ω P _ H K E;have:=t;simpa using this
def Kd (T:ZR) (c:TypeId) (a b:I) (σ:Ρ):YX:=match L7 T c a b,b with
 | some (e,k,z,n,bytes),.z (.int _ m)=>.Y9 (m=n/\0<=n/\0<bytes/\bytes*n<=2 ^ 48) (.ok (.ms σ.length n.toNat 0 n.toNat) (σ++[.cells e k (List.replicate n.toNat z)]))
 | _,_=>.bad
theorem z5 (i:Zz P T) (d:Holds S B σ H) {f:TypeId} {a b:I} {u v:Value} (j:ς S B σ a u) (l:ς S B σ b v):Y4 P (Instr.makeSlice f u v) S B H σ (Kd T f a b σ):=by
 unfold Kd;split
 .rename_i e k z n bytes kk m h;refine .Y9 λ⟨o,p⟩ K s=>?_;refine E5 i j l h (λA C t=>by cases t;exact o) p λc g=>Ma d g e λr _ w x y=>⟨_,_,_,_,s,x,w,y,?_⟩;exact E6 d.len c g.1 J
 .exact .bad
def Kc (T:ZR) (c:TypeId) (a b:I):Zc:=match L7 T c a b,b with
 | some (_,k,z,n,bytes),.z (.int _ m)=>.Y9 (m=n/\0<=n/\0<bytes/\bytes*n<=2 ^ 48) (.ok (.sl true k (List.replicate n.toNat z)))
 | _,_=>.bad
theorem z4 (g:Zz P T) (i:Holds S B σ H) {d:TypeId} {a b:I} {u v:Value} (j:ς S B σ a u) (l:ς S B σ b v):Y4 P (Instr.makeSlice d u v) S B H σ ((Kc T d a b).YC σ):=by
 unfold Kc;split
 .rename_i e k z n bytes kk m h;refine Y4.Y9 (r:=(Zc.ok (.sl true k (List.replicate n.toNat z))).YC σ) λ⟨o,p⟩ K s=>?_;refine E5 g j l h (λA C t=>by cases t;exact o) p λc w=>L' i c e λr x y f=>⟨_,_,_,_,s,y,x,f,?_⟩;have:=Ki (cap:=n.toNat) true f w J (λ_=>J);simpa using this
 .exact .bad
def Reads (H:Ψ) (base:Option Addr) (m:Nat) (w:Nat->Value):Prop:=m=0\/∃b o,base=some ⟨b,o,none⟩/\∀j,j<m->∃p,H.κ b (o+j)=some (w j,p)
theorem HV {base:Option Addr} {k n cap:Nat} {len:Nat} {w:Nat->Value} (h:Reads H base (n*k) w) {K:Array Value->Ψ->Prop} {E:Value->Ψ->Prop} (c:K ((List.range (n*k)).map w).toArray H) :
  Ω P (Builtin.firstCells k n (.slice base len cap)) H K E:=by
 rcases h with h|⟨b,o,rfl,h⟩
 .rw[h] at c;cases base with
  | none=>exact Ω.pure' c
  | some a=>
   show Ω P (loadCells a (n*k)) H K E;rw[h];exact Ω.pure' c
 .exact Ω.loadCells w rfl h c
theorem z3 {a b:Nat} (h:b<a):Builtin.nextslicecap a b<=2*a+768:=by
 unfold Builtin.nextslicecap;have grow:∀r c,c<=2*a+768->Builtin.growBy a r c<=2*a+768:=by
  intro r
  induction r with
  | zero=>intro c d;exact d
  | succ r e=>
   intro c d;unfold Builtin.growBy;split
   .exact d
   .exact e _ U
 split
 .omega
 .split
  .omega
  .exact grow 4 b U
def Wi.isInt (i:Wi):Bool:=i.ZD matches .int _
def UO (T:ZR) (st xt:TypeId):Option (TypeId×Nat×Wi):=match WO T st,T xt with
 | some (e,k,none),some b=>match T e with
  | some a=>if 0<k/\a.zero.cells.size=k/\0<a.bytes/\a.bytes<=4096/\b.isInt=false then some (e,k,a) else none
  | none=>none
 | _,_=>none
theorem HU (c:Zz P T) {st xt w e:TypeId} {k:Nat} {g:Wi} (h:UO T st xt=some (e,k,g)) {base j:Option Addr} {sLen b n p:Nat} {wo l:Nat->Value} (x:Reads H base (sLen*k) wo) (s:Reads H j (n*k) l) (Z:sLen+n<=4294967296) {K:Value->Ψ->Prop} {E:Value->Ψ->Prop}
  (y:sLen+n<=b->Ω P (match base with|some a=>storeCells (a.add (sLen*k)) ((List.range (n*k)).map l)|none=>pure ()) H (λ_ H'=>K (.slice base (sLen+n) b) H') E)
  (A:b<sLen+n->∀m,sLen+n<=m->Ω P (newObj (.cells (((List.range (sLen*k)).map wo).toArray++((List.range (n*k)).map l).toArray++Builtin.zeroCells g.zero.cells (m-(sLen+n))) e)) H (λr H'=>K (.slice (some ⟨r,0,none⟩) (sLen+n) m) H') E) :
  Ω P (Builtin.append_ #[st,xt] w #[.slice base sLen b,.slice j n p]) H K E:=by
 unfold UO at h;split at h<;>try cases h
 rename_i aa ab ad B C;split at h<;>try cases h
 rename_i D d;split at h<;>try cases h
 rename_i F;obtain⟨ae,af,ag,I,o⟩:=F;obtain⟨i,D,hi,J,t,L⟩:=Kn B;rw[d] at t;cases t;unfold Builtin.append_;simp only[List.getElem?_toArray,List.getElem?_cons_zero,List.getElem?_cons_succ];refine Ω.bind' (c.ZD hi ?_);rw[J];refine Ω.bind' (c.size d ?_);rw[L];refine Ω.bind' (Ω.bind' (c.ZD C ?_));split
 .rename_i M;unfold Wi.isInt at o;rw[M] at o;cases o
 refine Ω.bind' (Ω.pure' ?_);simp only[Xf,if_false,Bool.not_false,if_true];refine Ω.bind' (Ω.pure' ?_);split
 .rename_i N;refine Ω.bind' (HV s ?_);have:=y N;cases base with
  | none=>exact this
  | some a=>exact Ω.bind' this
 .rename_i ah;have u:b<sLen+n:=U;refine Ω.bind' (c.info d λf O=>?_);have Q:¬(((sLen+n:Nat):Int) > i64.max/\(False\/f.bytes=0)):=by rw[O];rintro⟨_,h|h⟩;exact h;omega
  simp only[Q,if_false];refine Ω.bind' (c.info d λf2 R=>?_);have S:¬(Builtin.nextslicecap (sLen+n) b*f2.bytes > 2 ^ 48):=by
   rw[R];have V:=z3 u;have ai:Builtin.nextslicecap (sLen+n) b*g.bytes<=(2*(sLen+n)+768)*4096:=OP V I;omega
  simp only[S,if_false];refine Ω.bind' ?_;show Ω P (choose _) H _ E;unfold choose;simp only[Ω];have W:(Question.appendCap (sLen+n) b e).forced=false:=rfl;rw[W];simp only[Xf,if_false];intro q;refine Ω.bind' (c.info d λf3 aj=>?_);have v:Ω P (do
    let X <-Builtin.firstCells k sLen (.slice base sLen b)
    let Y <-Builtin.firstCells k n (.slice j n p)
    let rest <-(do pure (Builtin.zeroCells (<-zeroValue e).cells ((Question.appendCap (sLen+n) b e).cut q-(sLen+n))):Sem (Array Value))
    pure (.slice (some (<-newRow e (X++Y++rest))) (sLen+n) ((Question.appendCap (sLen+n) b e).cut q))) H K E:=by
   refine Ω.bind' (HV x ?_);refine Ω.bind' (HV s ?_);refine Ω.bind' (Ω.bind' (c.zero d (Ω.pure' ?_)));refine Ω.bind' (Ω.bind' ?_);exact A u _ (by simp[Question.cut])
  refine Ω.bind' ?_;unfold askRoom;split
  .refine⟨rfl,?_⟩;show Ω P _ H K E;simpa using v
  .refine Ω.pure' ?_;show Ω P _ H K E;simpa using v
end
section
variable {P:Program} {T:ZR} {S:ο} {B:Z8} {H:Ψ} {σ:Ρ}
def RE (σ:Ρ):I->Option (Nat×ξ)
 | .sl _ k l=>some (k,l)
 | .ms id n i len=>match σ[id]? with
  | some (.cells _ k l)=>if l.length=n/\i+len<=n then some (k,(l.drop i).take len) else none
  | _=>none
 | _=>none
def Nu (S:ο) (B:Z8) (σ:Ρ) (w:Nat->Value) (k:Nat) (l:ξ):Prop:=∀(i:Nat) (e:I),l[i]?=some e->e.cells.length=k/\∀(j:Nat) (a:I),e.cells[j]?=some a->ς S B σ a (w (i*k+j))
theorem z2 {k i j:Nat} (a:j<k):(i*k+j) / k=i/\(i*k+j) % k=j:=by
 have b:0<k:=U;refine⟨?_,?_⟩
 .rw[ON,Nat.add_mul_div_right _ _ b,Nat.div_eq_of_lt a,Vl]
 .rw[ON,Nat.add_mul_mod_self_right];exact PC a
theorem Kb (Q:Holds S B σ H) {a:I} {v:Value} {k A:Nat} {l:ξ} (R:ς S B σ a v) (h:RE σ a=some (A,l)) (T:0<k) (V:l.isEmpty=true\/A=k) :
  ∃base cap w,v=.slice base l.length cap/\l.length<=cap/\Reads H base (l.length*k) w/\Nu S B σ w k l:=by
 have W:∀(b o:Nat) (u:Nat->Nat->Value),(∀(i:Nat) (e:I),l[i]?=some e->e.cells.length=k)->(∀(i:Nat) (e:I),l[i]?=some e->∀(j:Nat) (c:I),e.cells[j]?=some c->∃p,H.κ b (o+i*k+j)=some (u i j,p))->
   (∀(i:Nat) (e:I),l[i]?=some e->∀(j:Nat) (c:I),e.cells[j]?=some c->ς S B σ c (u i j))->Reads H (some ⟨b,o,none⟩) (l.length*k) (λm=>u (m / k) (m % k))/\Nu S B σ (λm=>u (m / k) (m % k)) k l:=by
  intro b o u d s y;refine⟨.inr ⟨b,o,rfl,λm Z=>?_⟩,λi e hi=>⟨d i e hi,λj c g=>?_⟩⟩
  .have hi:m / k<l.length:=(Nat.div_lt_iff_lt_mul T).2 Z
   have X:l[m / k]?=some l[m / k]:=ε hi
   have g:m % k<l[m / k].cells.length:=by rw[d _ _ X];exact Nat.mod_lt _ T
   obtain⟨p,aa⟩:=s _ _ X (m % k) _ (ε g);refine⟨p,?_⟩;have:o+m=o+m / k*k+m % k:=by have:=Nat.div_add_mod m k;rw[Nat.mul_comm] at this;omega
   rw[this];exact aa
  .have ab:j<k:=by rw[<-d i e hi];exact(Zu.1 g).1
   obtain⟨ad,Φ⟩:=z2 (i:=i) ab;simp only[ad,Φ];exact y i e hi j c g
 have F:∀(base:Option Addr) (cap:Nat),l=[]->v=.slice base 0 cap->∃base cap w,v=.slice base l.length cap/\l.length<=cap/\Reads H base (l.length*k) w/\Nu S B σ w k l:=λbase cap r hv=>by
  subst r;exact⟨base,cap,λ_=>undef,hv,Ε _,.inl J,λi e hi=>by simp at hi⟩
 unfold RE at h;split at h
 .cases h;obtain⟨base,cap,rfl,d,_,s⟩:=Q1 R;by_cases r:l=[]
  .exact F base cap r (by rw[r];rfl)
  .obtain⟨b,o,w,rfl,y,Y,K⟩:=s r;have L:A=k:=V.elim (λx=>absurd (Qv.1 x) r) id;subst L;obtain⟨M,O⟩:=W b o w y (λi e hi j c g=>Q.YL _ _ _ (Y i e hi j c g)) K;exact⟨_,cap,_,rfl,d,M,O⟩
 .rename_i id n i len;split at h
  .rename_i t ah C r;split at h
   .rename_i ae;cases h;obtain⟨ai,aj⟩:=ae;have D:((C.drop i).take len).length=len:=by simp;omega
    cases R with
    | ms cap d s y Y K E=>
     rw[r] at d;cases d;rcases E with E|⟨b,N,rfl,rfl,E⟩
     .subst E;have:len=0:=U;subst this;exact F _ 0 J rfl
     .by_cases af:len=0
      .subst af;exact F _ cap J rfl
      .have ag:¬((C.drop i).take len).isEmpty=true:=λx=>by
        rw[Qv] at x;rw[x] at D;simp at D;omega
       have L:=V.resolve_left ag;subst L;obtain⟨ak,al,am,w,P⟩:=Q.row id _ _ r y;have el:∀(x:Nat) (e:I),((C.drop i).take len)[x]?=some e->C[i+x]?=some e:=λx e f=>by
        rw[OS] at f;split at f
        .rw[T7] at f;exact f
        .cases f
       obtain⟨M,O⟩:=W b (i*A) (λx j=>w (i+x) j) (λx e f=>(P _ e (el x e f)).1) (λx e f j c g=>⟨true,by
        have:=((P _ e (el x e f)).2 j c g).1;rw[WT] at this;exact this⟩) (λx e f j c g=>((P _ e (el x e f)).2 j c g).2.1)
       exact⟨_,cap,_,by rw[D],by rw[D];exact K,M,O⟩
    | Vx v d s=>rw[r] at d;cases d;simp only[Row.WQ] at s;omega
   .cases h
  .cases h
 .cases h
theorem HT {w1 f:Nat->Value} {k:Nat} {l1 l2:ξ} (g:Nu S B σ w1 k l1) (m:Nu S B σ f k l2) (r:l1.all (λe=>e.cells.all (I.YG σ))=true) (s:l2.all (λe=>e.cells.all (I.YG σ))=true) (z:Array Value) :
  Xn S B σ (((List.range (l1.length*k)).map w1).toArray++((List.range (l2.length*k)).map f).toArray++z) k (l1++l2):=by
 have o:∀(l:ξ),l.all (λe=>e.cells.all (I.YG σ))=true->∀e∈l,∀a∈e.cells,I.YG σ a=true:=λl h e n a t=>Wv.1 (Wv.1 h e n) a t;refine⟨by simp[WT],λi e hi=>?_⟩;by_cases p:i<l1.length
 .rw[Y0 p] at hi;refine⟨(g i e hi).1,λj a b=>?_⟩;have u:j<k:=by rw[<-(g i e hi).1];exact(Zu.1 b).1
  have d:i*k+j<l1.length*k:=by
   have:(i+1)*k<=l1.length*k:=T8 k p;rw[WT] at this;omega
  have c:=(g i e hi).2 j a b;refine⟨w1 (i*k+j),?_,c,c.Mb (o l1 r e (Zf hi) a (Zf b))⟩;rw[OU,NY (by simpa using d)];simp[d]
 .rw[Xw U] at hi;refine⟨(m _ e hi).1,λj a b=>?_⟩;have u:j<k:=by rw[<-(m _ e hi).1];exact(Zu.1 b).1
  have v:i-l1.length<l2.length:=(Zu.1 hi).1
  have d:(i-l1.length)*k+j<l2.length*k:=by
   have:(i-l1.length+1)*k<=l2.length*k:=T8 k v;rw[WT] at this;omega
  have n:i*k+j=l1.length*k+((i-l1.length)*k+j):=by
   have:i=l1.length+(i-l1.length):=U
   conv=>lhs;rw[this,WT]
   omega
  have c:=(m _ e hi).2 j a b;refine⟨f ((i-l1.length)*k+j),?_,c,c.Mb (o l2 s e (Zf hi) a (Zf b))⟩;rw[n,OU,K7 J];rw[NY (by simp;omega)];simp[d]
def I.Nt (YG:I->Bool) (l:ξ):Bool:=l.all λe=>e.cells.all YG
def Qh (T:ZR) (st xt:TypeId) (b:I->Bool) (σ:Ρ) (s x:I):Zc:=
 match UO T st xt,s,RE σ x with
 | some (_,k,_),.sl true c a,some (d,l1)=>
  if(a.isEmpty=true\/c=k)/\(l1.isEmpty=true\/d=k)/\I.Nt b a=true/\I.Nt b l1=true then .Y9 (a.length+l1.length<=4294967296) (.ok (.sl false k (a++l1))) else .bad
 | _,_,_=>.bad
theorem z1 {k d:Nat} {a:ξ} {v:Value} (h:ς S B σ (.sl true d a) v) (e:a.isEmpty=true\/d=k):ς S B σ (.sl false k a) v:=by
 by_cases c:a=[]
 .subst c;obtain⟨base,cap,rfl,_⟩:=Q1 h;exact .Wj base cap J
 .have:=e.resolve_left (λx=>c (Qv.1 x));subst this;cases h with
  | Wj=>exact absurd rfl c
  | sl b o cap w l f g i j=>exact .sl b o cap w J f g i j
theorem HS {b:I->Bool} (c:∀a:I,b a=true->a.YG σ=true) {l:ξ} (h:I.Nt b l=true):l.all (λe=>e.cells.all (I.YG σ))=true:=by
 unfold I.Nt at h;rw[Wv] at h ⊢;intro e d;have:=h e d;rw[Wv] at this ⊢;exact λa f=>c a (this a f)
theorem E4 (D:Zz P T) (j:Holds S B σ H) {n:I->Bool} (o:∀a:I,n a=true->a.YG σ=true) (st xt E:TypeId) {s x:I} {u v:Value} (l:ς S B σ s u) (F:ς S B σ x v) :
  Y4 P (Builtin.append_ #[st,xt] E #[u,v]) S B H σ ((Qh T st xt n σ s x).YC σ):=by
 unfold Qh;split
 .rename_i e k L ai g aj l1 f M;split
  .rename_i N;obtain⟨p,O,Q,R⟩:=N;refine Y4.Y9 (r:=(Zc.ok (.sl false k (g++l1))).YC σ) λU K V=>?_;have t:0<k:=by
    unfold UO at f;split at f<;>try cases f
    split at f<;>try cases f
    split at f<;>try cases f
    rename_i h;exact h.1
   obtain⟨base,cap,w,rfl,_,W,X⟩:=Kb j l (k:=k) rfl t p;obtain⟨ak,al,w1,rfl,_,Y,Z⟩:=Kb j F M t O;have am:cap=g.length:=by
    obtain⟨an,ao,aa,_,Φ,_⟩:=Q1 l;cases aa;exact Φ rfl
   have m:∀i H' v,Holds i B σ H'->Ext S B H i B H'->Zw S i B B σ σ->ς i B σ (.sl false k (g++l1)) v->VO S B H σ K v H':=λi H' v a b c d=>⟨i,B,σ,_,V,b,a,c,d⟩;refine HU D f W Y U (λab=>?_) (λ_ y ad=>?_)
   .have ae:l1=[]:=by
     cases l1 with
     | nil=>rfl
     | cons=>simp at ab;omega
    subst ae;have A:ς S B σ (.sl false k (g++[])) (.slice base (g.length+([]:ξ).length) cap):=by
     rw[Tn];exact z1 l p
    cases base with
    | none=>exact Ω.pure' (m S H _ j (.refl _ _ _) (.refl _ _ _) A)
    | some a=>
     have af:((List.range (([]:ξ).length*k)).map w1)=[]:=J;rw[af];exact Ω.pure' (m S H _ j (.refl _ _ _) (.refl _ _ _) A)
   .refine L' j _ e λr ag ah C=>m _ _ _ ag ah C ?_;have:=Ki (cap:=y) false C (HT X Z (HS o Q) (HS o R) (Builtin.zeroCells L.zero.cells (y-(g.length+l1.length)))) (by simpa using ad) J;rw[Wc] at this;exact this
  .exact .bad
 .exact .bad
end
section
variable {P:Program} {T:ZR} {S:ο} {B:Z8} {H:Ψ} {σ:Ρ}
theorem z0 {st xt e:TypeId} {k:Nat} {a:Wi} (h:UO T st xt=some (e,k,a)):0<k/\a.zero.cells.size=k:=by
 unfold UO at h;split at h<;>try cases h
 split at h<;>try cases h
 split at h<;>try cases h
 rename_i h;exact⟨h.1,h.2.1⟩
theorem Ka {a:Type} (l:List a) (x:a):(l++[x])[l.length]?=some x:=J
theorem J' {B:Z8} {σ:Ρ} (a:B.length=σ.length) (bo:Option (Nat×Nat)):(B++[bo])[σ.length]?=some bo:=by rw[<-a];simp
def Ov (H:Ψ) (bo:Option (Nat×Nat)) (m:Nat):Value:=match bo with|some (b,_)=>((H.κ b m).map (·.1)).getD undef|none=>undef
theorem E3 (z:Array Value) (n:Nat):(Builtin.zeroCells z n).size=n*z.size:=by simp[Builtin.zeroCells]
def J9 (T:ZR) (st xt:TypeId) (σ:Ρ) (s x:I):YX:=
 match UO T st xt,RE σ x with
 | some (e,k,_),some (a,l1)=>
  if(l1.isEmpty=true\/a=k)/\I.Nt (I.YG σ) l1=true then match s with
   | .sl true _ b=>if b.isEmpty=true then .Y9 (l1.length<=4294967296) (.ok (.ms σ.length l1.length 0 l1.length) (σ++[.cells e k l1])) else .bad
   | .ms id n i len=>match σ[id]? with
    | some (.cells t c l)=>if i=0/\l.length=n/\len=n/\c=k/\t=e then .Y9 (n+l1.length<=4294967296) (.ok (.ms id (n+l1.length) 0 (n+l1.length)) (σ.set id (.cells t k (l++l1)))) else .bad
    | _=>.bad
   | _=>.bad
  else .bad
 | _,_=>.bad
theorem zZ (az:Zz P T) (p:Holds S B σ H) (st xt aQ:TypeId) {s x:I} {u v:Value} (aA:ς S B σ s u) (aR:ς S B σ x v) :
  Y4 P (Builtin.append_ #[st,xt] aQ #[u,v]) S B H σ (J9 T st xt σ s x):=by
 unfold J9;split
 .rename_i e k af bq l1 al aS;split
  .rename_i aT;obtain⟨aU,aV⟩:=aT;obtain⟨am,aB⟩:=z0 al;obtain⟨br,bs,w1,rfl,_,aC,F⟩:=Kb p aR aS am aU;have an:=HS (σ:=σ) (λa h=>h) aV;split
   .rename_i bt aW;split
    .rename_i ag;have aX:aW=[]:=Qv.1 ag;subst aX;refine .Y9 λaD K L=>?_;obtain⟨base,cap,rfl,_,aY,_⟩:=Q1 aA;have aZ:cap=0:=aY rfl;subst aZ;refine HU az al (sLen:=0) (wo:=λ_=>undef) (.inl J) aC U (λao=>?_) (λ_ y ap=>?_)
     .have a0:l1=[]:=by
       cases l1 with
       | nil=>rfl
       | cons=>simp at ao
      subst a0;obtain⟨W,X,Y⟩:=p.push (H':=H) (r:=.cells e k []) (bo:=none) (λb N e=>by cases e) (λb _=>⟨λ_=>rfl,rfl,rfl⟩) (λ_=>rfl);have aE:VO S B H σ K (.slice base (([]:ξ).length+([]:ξ).length) 0) H:=⟨S,_,_,_,L,X,W,Y,.ms 0 (Ka σ _) rfl (J' p.len _) J (Z1 _) (.inl rfl)⟩;cases base with
      | none=>exact Ω.pure' aE
      | some a=>
       have aq:((List.range (([]:ξ).length*k)).map w1)=[]:=J;rw[aq];exact Ω.pure' aE
     .have g:Xn S B σ (((List.range (0*k)).map λ_=>undef).toArray++((List.range (l1.length*k)).map w1).toArray++Builtin.zeroCells af.zero.cells (y-(0+l1.length))) k ([]++l1):=
       HT (l1:=[]) (λi e hi=>by simp at hi) F J an _
      rw[List.nil_append] at g;refine Ma p g e λr _ C R V=>⟨_,_,_,_,L,R,C,V,?_⟩;simp only[List.length_nil,Vl];refine .ms y (Ka σ _) rfl (J' p.len _) U (by simpa using ap) (.inr ⟨r,_,rfl,J,?_⟩);simp only[Vl,Array.size_append,List.size_toArray,Yp,List.length_range,E3,aB,Pz];rw[<-WT];have:l1.length+(y-l1.length)=y:=by simp at ap;omega
      rw[this];exact Z1 _
    .exact .bad
   .rename_i id n i len;split
    .rename_i t d l g;split
     .rename_i a1;obtain⟨a2,D,a3,a4,a5⟩:=a1;subst a2;subst a3;subst a4;subst a5;refine .Y9 λaD K L=>?_;cases aA with
      | @ms _ _ _ _ _ _ _ bo base cap C R V bu a6 E=>
       rw[g] at C;cases C;have M:=p.row id _ bo g V;have a7:Reads H base (len*d) (Ov H bo):=by
        rcases E with E|⟨b,N,rfl,rfl,E⟩
        .exact .inl (by rw[show len=0 from U];simp)
        .refine .inr ⟨b,0,J,λj f=>⟨true,?_⟩⟩;obtain⟨w,A⟩:=M.2.2.1 j (by have:=M.2.1;rw[D] at this;omega);rw[Vl];simp[A,Ov]
       have a8:l1=[]->VO S B H σ K (.slice base (len+l1.length) cap) H:=λO=>by
        subst O;have Z:id<σ.length:=(Zu.1 g).1;have a9:σ.set id (.cells t d (l++[]))=σ:=by
         rw[Tn];apply RQ;intro j;by_cases aF:id=j
         .subst aF;rw[Ww Z,g]
         .rw[Vm aF]
        rw[a9] at L;exact⟨S,B,σ,_,L,.refl _ _ _,p,.refl _ _ _,.ms cap g D V J a6 E⟩
       have Z:id<σ.length:=(Zu.1 g).1
       have aG:id<B.length:=by rw[p.len];exact Z
       refine HU az al a7 aC aD (λao=>?_) (λa' y ap=>?_)
       .by_cases O:l1=[]
        .have:=a8 O;subst O;cases base with
         | none=>exact Ω.pure' this
         | some a=>
          have aq:((List.range (([]:ξ).length*d)).map w1)=[]:=J;rw[aq];exact Ω.pure' this
        .have ba:0<l1.length:=RR.2 O;rcases E with E|⟨b,N,rfl,rfl,E⟩
         .omega
         .obtain⟨aH,bv,aI,w,A⟩:=M;have bb:(len+l1.length)*d<=N:=by
           have:(len+l1.length)*d<=(0+cap)*d:=T8 _ U;omega
          rw[WT] at bb;have bc:(⟨b,0*d,none⟩:Addr).add (len*d)=⟨b,len*d,none⟩:=by rw[Pq];simp
          have aJ:((List.range (l1.length*d)).map w1).length=l1.length*d:=J
          have Wh:∀j,j<l1.length*d->((List.range (l1.length*d)).map w1)[j]?=some (w1 j):=λj f=>by simp[f]
          have aK:∀(i:Nat) (e:I) (j:Nat) (a:I),l1[i]?=some e->e.cells[j]?=some a->One (w1 (i*d+j)):=λi e j a hi f=>
           ((F i e hi).2 j a f).Mb (Wv.1 (Wv.1 an e (Zf hi)) a (Zf f))
          have bd:∀v∈(List.range (l1.length*d)).map w1,One v:=λv hv=>by
           obtain⟨m,ar,rfl⟩:=Zd.1 hv;have be:m<l1.length*d:=by simpa using ar
           have hi:m / d<l1.length:=(Nat.div_lt_iff_lt_mul am).2 be
           have aL:=ε hi
           have f:m % d<l1[m / d].cells.length:=by rw[(F _ _ aL).1];exact Nat.mod_lt _ am
           have:=aK _ _ _ _ aL (ε f)
           have ah:m / d*d+m % d=m:=by have:=Nat.div_add_mod m d;rw[Nat.mul_comm] at this;exact this
           rw[ah] at this;exact this
          have bf:Zw S S B (B.set id (some (b,N))) σ (σ.set id (.cells t d (l++l1)))->Vh S (B.set id (some (b,N))) (σ.set id (.cells t d (l++l1))) (H.WH b (len*d) ((List.range (l1.length*d)).map w1)) (.cells t d (l++l1)) (some (b,N)):=λai=>by
           refine⟨aH,by simp[WT,D];omega,λo au=>?_,λi j=>if i<len then w i j else w1 ((i-len)*d+j),λi e hi=>?_⟩
           .simp only[Ψ.WH];split
            .exact⟨_,rfl⟩
            .exact aI o au
           .by_cases aa:i<l.length
            .rw[Y0 aa] at hi;refine⟨(A i e hi).1,λj a f=>?_⟩;obtain⟨ab,aj,av⟩:=(A i e hi).2 j a f;have aw:j<d:=by rw[<-(A i e hi).1];exact(Zu.1 f).1
             have ad:i*d+j<len*d:=by
              have:(i+1)*d<=len*d:=T8 d U;rw[WT] at this;omega
             simp only[show i<len by omega,if_true];refine⟨?_,aj.later ai,av⟩;simp only[Ψ.WH];rw[if_neg U];exact ab
            .rw[Xw U,D] at hi;refine⟨(F _ e hi).1,λj a f=>?_⟩;have aw:j<d:=by rw[<-(F _ e hi).1];exact(Zu.1 f).1
             have bg:i-len<l1.length:=(Zu.1 hi).1
             have ad:(i-len)*d+j<l1.length*d:=by
              have:(i-len+1)*d<=l1.length*d:=T8 d bg;rw[WT] at this;omega
             have ag:i*d+j=len*d+((i-len)*d+j):=by
              have:i=len+(i-len):=U
              conv=>lhs;rw[this,WT]
              omega
             simp only[show ¬i<len by omega,if_false];refine⟨?_,((F _ e hi).2 j a f).later ai,aK _ e j a hi f⟩;simp only[Ψ.WH,aJ];rw[if_pos ⟨trivial,U,U⟩];have:i*d+j-len*d=(i-len)*d+j:=U;rw[this,Wh _ ad];rfl
          obtain⟨W,X,Y⟩:=p.NB (H':=H.WH b (len*d) ((List.range (l1.length*d)).map w1)) (r':=.cells t d (l++l1)) (bo':=some (b,N)) g trivial V (.inr λm ar=>by simp only[Row.WQ,Wc];omega) (λae aM Q=>.inl ⟨aM,Q⟩)
           (λae C _=>by
            have ak:ae≠b:=λQ=>by subst Q;exact C N rfl
            exact⟨λo=>by simp[Ψ.WH,ak],rfl,rfl⟩) Ψ.H2 (Kl p g) bf
          show Ω P (storeCells ((⟨b,0*d,none⟩:Addr).add (len*d)) _) H _ _;rw[bc];refine Ω.storeCells (G:=H) rfl ⟨t,N,aH⟩ _ 0 H bd (λj _ f=>?_) rfl ?_
          .rw[aJ] at f;obtain⟨u,bh⟩:=aI (len*d+j) U;exact⟨u,bh⟩
          .refine⟨S,_,_,_,L,X,W,Y,.ms cap (by rw[Ww Z]) (by simp[D]) (by rw[Ww aG]) U ao (.inr ⟨b,N,rfl,rfl,E⟩)⟩
       .have O:l1≠[]:=by rintro rfl;simp at a';omega
        have ba:0<l1.length:=RR.2 O
        have ax:Nu S B σ (Ov H bo) d l:=λi e hi=>by
         cases bo with
         | none=>have:l=[]:=M
                 rw[this] at hi;simp at hi
         | some x=>
          obtain⟨b,N⟩:=x;obtain⟨_,_,_,w,A⟩:=M;refine⟨(A i e hi).1,λj a f=>?_⟩;obtain⟨ab,aj,_⟩:=(A i e hi).2 j a f;simp only[Ov,ab];exact aj
        have ay:Xn S B σ (((List.range (len*d)).map (Ov H bo)).toArray++((List.range (l1.length*d)).map w1).toArray++Builtin.zeroCells af.zero.cells (y-(len+l1.length))) d (l++l1):=by
         refine⟨by simp[WT,D],λi e hi=>?_⟩;by_cases aa:i<l.length
         .rw[Y0 aa] at hi;refine⟨(ax i e hi).1,λj a f=>?_⟩;have aw:j<d:=by rw[<-(ax i e hi).1];exact(Zu.1 f).1
          have ad:i*d+j<len*d:=by
           have:(i+1)*d<=len*d:=T8 d U;rw[WT] at this;omega
          refine⟨_,?_,(ax i e hi).2 j a f,?_⟩
          .rw[OU,NY (by simpa using ad)];simp[ad]
          .cases bo with
           | none=>have:l=[]:=M
                   rw[this] at aa;simp at aa
           | some x=>
            obtain⟨b,N⟩:=x;obtain⟨_,_,_,w,A⟩:=M;obtain⟨ab,aj,av⟩:=(A i e hi).2 j a f;simp only[Ov,ab];exact av
         .rw[Xw U,D] at hi;have:=HT (l1:=[]) (w1:=λ_=>undef) (k:=d) (λi e hi=>by simp at hi) F J an (Builtin.zeroCells af.zero.cells (y-(len+l1.length)));obtain⟨aN,bi⟩:=this.2 (i-len) e (by simpa using hi);refine⟨aN,λj a f=>?_⟩;obtain⟨x,bj,bk,bl⟩:=bi j a f;have aw:j<d:=by rw[<-aN];exact(Zu.1 f).1
          have ag:i*d+j=len*d+((i-len)*d+j):=by
           have:i=len+(i-len):=U
           conv=>lhs;rw[this,WT]
           omega
          refine⟨x,?_,bk,bl⟩;rw[ag,OU,K7 J];simpa using bj
        refine⟨rfl,λr aO=>?_⟩;generalize bm:(((List.range (len*d)).map (Ov H bo)).toArray++((List.range (l1.length*d)).map w1).toArray++Builtin.zeroCells af.zero.cells (y-(len+l1.length)))=c at ay;have bn:y*d<=c.size:=by
         rw[<-bm];simp only[Array.size_append,List.size_toArray,Yp,List.length_range,E3,aB];rw[<-WT,<-WT];have:len+l1.length+(y-(len+l1.length))=y:=U;rw[this];exact Z1 _
        obtain⟨W,X,Y⟩:=p.NB (H':=H.YB r c t) (r':=.cells t d (l++l1)) (bo':=some (r,c.size)) g trivial V (.inr λm ar=>by simp only[Row.WQ,Wc];omega) (λae aM Q=>.inr (by cases Q;exact aO))
         (λae _ R=>by
          have ak:ae≠r:=λQ=>by subst Q;exact R _ rfl
          exact⟨λo=>by simp[Ψ.YB,ak],by simp[Ψ.YB,ak],rfl⟩) (Ψ.Fu aO c t) (Kl p g) (λai=>by
          have aP:=ay.later ai;refine⟨by simp[Ψ.YB],ay.1,λo au=>⟨c[o],by simp[Ψ.YB,au]⟩,λi j=>(c[i*d+j]?).getD undef,λi e hi=>⟨(aP.2 i e hi).1,λj a f=>?_⟩⟩;obtain⟨x,ah,Φ,bp⟩:=(aP.2 i e hi).2 j a f;simp only[ah,Option.getD_some];exact⟨by simp[Ψ.YB,ah],Φ,bp⟩)
        exact⟨S,_,_,_,L,X,W,Y,.ms y (by rw[Ww Z]) (by simp[D]) (by rw[Ww aG]) U U (.inr ⟨r,c.size,rfl,J,by simpa using bn⟩)⟩
      | Vx v C R=>rw[g] at C;cases C;simp only[Row.WQ] at R;omega
     .exact .bad
    .exact .bad
   .exact .bad
  .exact .bad
 .exact .bad
end
section
variable {P:Program} {T:ZR} {S:ο} {B:Z8} {H:Ψ} {σ:Ρ}
def RD (o:Option I) (d:Int):Option Int:=match o with
 | none=>some d
 | some (.z (.int _ n))=>some n
 | _=>none
def Ou (S:ο) (B:Z8) (σ:Ρ):Option I->Option Value->Prop
 | none,none=>True
 | some a,some v=>ς S B σ a v
 | _,_=>False
theorem E2 {k:IntKind} {n:Int} {y:Nat} {a:BoundsCode} (h:0<=n/\n<=y) {G:Ψ} {K:Nat->Ψ->Prop} {E:Value->Ψ->Prop} (b:K n.toNat G):Ω P (Instr.sliceBound (.int k n) y a) G K E:=by
 unfold Instr.sliceBound;refine Ω.bind' (Ω.pure' ?_);simp only[h,and_self,if_true];exact Ω.pure' b
theorem J8 {j:Bool} {len cap:Nat} {lo hi:Option I} {lv hv:Option Value} (f:Ou S B σ lo lv) (g:Ou S B σ hi hv) {a b:Int} (c:RD lo 0=some a) (d:RD hi len=some b) (h:0<=a/\a<=b/\b<=cap) {G:Ψ} {K:Nat×Nat×Nat->Ψ->Prop} {E:Value->Ψ->Prop}
  (i:K (a.toNat,b.toNat,cap) G):Ω P (Instr.sliceBounds j len cap lv hv none) G K E:=by
 unfold Instr.sliceBounds;refine Ω.bind' (Ω.pure' ?_);have low:∀(n:Nat),b.toNat=n->Ω P (match lv with|some v=>Instr.sliceBound v n (if(none:Option Value).isSome then .slice3C else .sliceB)|none=>pure 0) G (λl G'=>Ω P (pure (l,n,cap)) G' K E) E:=λn m=>by
  subst m;cases lo with
  | none=>
   cases lv with
   | some v=>exact f.elim
   | none=>cases c;exact Ω.pure' (Ω.pure' i)
  | some x=>
   cases lv with
   | none=>exact f.elim
   | some v=>
    unfold RD at c;split at c
    .rename_i e;cases e
    .rename_i k n e;cases e;cases c;cases f;exact E2 U (Ω.pure' i)
    .cases c
 cases hi with
 | none=>
  cases hv with
  | some v=>exact g.elim
  | none=>
   cases d;refine Ω.bind' (Ω.pure' ?_);have:=low len J;cases lv with
   | none=>exact Ω.bind' this
   | some v=>exact Ω.bind' this
 | some x=>
  cases hv with
  | none=>exact g.elim
  | some v=>
   unfold RD at d;split at d
   .rename_i e;cases e
   .rename_i k n e;cases e;cases d;cases g;refine Ω.bind' (E2 U ?_);have:=low _ rfl;cases lv with
    | none=>exact Ω.bind' this
    | some v=>exact Ω.bind' this
   .cases d
def J7 (T:ZR) (g:TypeId) (x:I) (lo hi:Option I):Zc:=match T g with
 | some i=>match i.ZD,x with
  | .string,.z (.string s)=>match RD lo 0,RD hi s.size with
   | some a,some b=>.Y9 (0<=a/\a<=b/\b<=s.size) (.ok (.z (.string (s.extract a.toNat b.toNat))))
   | _,_=>.bad
  | .slice e,.sl ex k l=>match T e,RD lo 0,RD hi l.length with
   | some d,some a,some b=>if l.isEmpty=true\/k=d.size then .Y9 (0<=a/\a<=b/\b<=l.length) (.ok (.sl (ex&&hi.isNone) k ((l.take b.toNat).drop a.toNat))) else .bad
   | _,_,_=>.bad
  | .array n e,.ω f=>match T e with
   | some d=>if d.size=1/\d.agg=false/\n<=f.length/\0<n/\lo.isNone/\hi.isNone/\(f.take n).all (λc=>decide (c.cells.length=1)&&I.YG [] c) then .ok (.sl true 1 (f.take n)) else .bad
   | none=>.bad
  | _,_=>.bad
 | none=>.bad
def J6 (T:ZR) (c:TypeId) (σ:Ρ) (x:I) (lo hi:Option I):YX:=match T c with
 | some i=>match i.ZD,x with
  | .slice e,.ms id n i len=>match T e,σ[id]?,RD lo 0,RD hi len with
   | some d,some (.cells _ k l),some a,some b=>if k=d.size/\l.length=n then .Y9 (0<=a/\a<=b/\b<=len) (.ok (.ms id n (i+a.toNat) (b.toNat-a.toNat)) σ) else .bad
   | _,_,_,_=>.bad
  | _,_=>.bad
 | none=>.bad
theorem zY {ex:Bool} {k:Nat} {l:ξ} {base:Option Addr} {len cap:Nat} (h:ς S B σ (.sl ex k l) (.slice base len cap)) {a b f:Nat} (J:a<=b) (K:b<=l.length) (v:l.isEmpty=true\/k=f) (g:Bool) (s:g=true->ex=true/\b=l.length) :
  ς S B σ (.sl g k ((l.take b).drop a)) (.slice (if cap=a then base else base.map (·.add (a*f))) (b-a) (cap-a)):=by
 obtain⟨L,M,e,N,t,y⟩:=Q1 h;cases e;have d:((l.take b).drop a).length=b-a:=by simp;omega
 by_cases m:(l.take b).drop a=[]
 .rw[m] at d ⊢;have:b-a=0:=by simpa using d.symm
  rw[this];refine .Wj _ _ λn=>?_;obtain⟨p,Φ⟩:=s n;have:=t p;omega
 .have u:l≠[]:=by rintro rfl;simp at m
  obtain⟨A,o,w,rfl,C,D,E⟩:=y u;have F:k=f:=v.resolve_left λx=>u (Qv.1 x);subst F;have O:a<b:=by
   apply Ts;intro P;apply m;have:b-a=0:=U;rw[this] at d;exact YP.1 d
  rw[if_neg U];simp only[Option.map_some,Pq];have el:∀(i:Nat) (e:I),((l.take b).drop a)[i]?=some e->l[a+i]?=some e:=λi e hi=>by
   rw[T7,OS] at hi;split at hi
   .exact hi
   .cases hi
  have H:((l.take b).drop a).length<=cap-a:=by rw[d];omega
  have:=ς.sl (S:=S) (B:=B) (σ:=σ) (ex:=g) (k:=k) (l:=(l.take b).drop a) A (o+a*k) (cap-a) (λi j=>w (a+i) j) (λn=>by obtain⟨p,Φ⟩:=s n;have:=t p;omega) H
   (λi e hi=>C _ e (el i e hi)) (λi e hi j c r=>by have:=D _ e (el i e hi) j c r;rw[WT] at this;rw[SZ o];exact this) (λi e hi j c r=>E _ e (el i e hi) j c r)
  rw[d] at this;exact this
theorem zX (f:Zz P T) (A:Holds S B σ H) (C:TypeId) {x:I} {v:Value} (t:ς S B σ x v) {lo hi:Option I} {lv hv:Option Value} (D:Ou S B σ lo lv) (E:Ou S B σ hi hv) :
  Y4 P (Instr.sliceAt C v lv hv none) S B H σ ((J7 T C x lo hi).YC σ):=by
 unfold J7;cases m:T C with
 | none=>exact .bad
 | some i=>
  simp only;split
  .rename_i s g;cases t;split
   .rename_i a b F u;refine Y4.Y9 (r:=(Zc.ok (.z (.string (s.extract a.toNat b.toNat)))).YC σ) λh K p=>?_;unfold Instr.sliceAt;refine Ω.bind' (f.ZD m ?_);rw[g];simp only;unfold Instr.slice;refine Ω.bind' (f.ZD m ?_);rw[g];simp only[Option.isSome_none,Xf,if_false];refine Ω.bind' (J8 D E F u h ?_);exact Ω.pure' (.same A p (.z _))
   .exact .bad
  .rename_i e ex k l g;split
   .rename_i V a b J F u;split
    .rename_i W;refine Y4.Y9 (r:=(Zc.ok (.sl (ex&&hi.isNone) k ((l.take b.toNat).drop a.toNat))).YC σ) λh K p=>?_;obtain⟨base,cap,rfl,M,N,_⟩:=Q1 t;unfold Instr.sliceAt;refine Ω.bind' (f.ZD m ?_);rw[g];simp only;unfold Instr.slice;refine Ω.bind' (f.ZD m ?_);rw[g];simp only;refine Ω.bind' (J8 D E F u U ?_);simp only;refine Ω.bind' (f.size J ?_);refine Ω.pure' (.same A p (zY t U U W _ λL=>?_));simp only[VT] at L;refine⟨L.1,?_⟩;cases hi with
     | none=>cases u;simp
     | some=>simp at L
    .exact .bad
   .exact .bad
  .rename_i n e y g;split
   .rename_i V J;split
    .rename_i X;obtain⟨Y,ad,ae,af,Z,aa,O⟩:=X;intro K p;cases t with
     | ω b o w M N=>
      cases lo with
      | some=>simp at Z
      | none=>
       cases hi with
       | some=>simp at aa
       | none=>
        cases lv with
        | some=>exact D.elim
        | none=>
         cases hv with
         | some=>exact E.elim
         | none=>
          unfold Instr.sliceAt;refine Ω.bind' (f.ZD m ?_);rw[g];simp only;refine Ω.bind' (Ω.pure' ?_);refine Ω.bind' (J8 (S:=S) (B:=B) (σ:=σ) (lo:=none) (hi:=none) (lv:=none) (hv:=none) trivial trivial (a:=0) (b:=n) rfl rfl U ?_);simp only[Int.toNat_natCast];refine Ω.bind' (f.size J ?_);rw[Y];refine Ω.pure' (.same A p ?_);have ab:(0:Int).toNat=0:=rfl;rw[ab,if_neg U,Pq];simp only[Pz,Nat.add_zero,Nat.sub_zero];have Q:(y.take n).length=n:=by simp;omega
          rw[Wv] at O;have el:∀(i:Nat) (e:I),(y.take n)[i]?=some e->y[i]?=some e/\e.cells=[e]:=λi e hi=>by
           have R:=O e (Zf hi);simp only[VT] at R;rw[OS] at hi;split at hi
           .exact⟨hi,I.HY R.2⟩
           .cases hi
          have:=ς.sl (S:=S) (B:=B) (σ:=σ) (ex:=true) (k:=1) (l:=y.take n) b o n (λi _=>w i) (λ_=>Q.symm) U (λi e hi=>by rw[(el i e hi).2];rfl)
           (λi e hi j c d=>by
            rw[(el i e hi).2] at d
            match j with
            | 0=>simp at d;subst d;have:=M i _ (el i _ hi).1;simpa using this
            | j+1=>simp at d) (λi e hi j c d=>by
            rw[(el i e hi).2] at d
            match j with
            | 0=>simp at d;subst d;exact N i _ (el i _ hi).1
            | j+1=>simp at d)
          rw[Q] at this;exact this
    .exact .bad
   .exact .bad
  .exact .bad
theorem zW (f:Zz P T) (s:Holds S B σ H) (g:TypeId) {x:I} {v:Value} (u:ς S B σ x v) {lo hi:Option I} {lv hv:Option Value} (w:Ou S B σ lo lv) (y:Ou S B σ hi hv) :
  Y4 P (Instr.sliceAt g v lv hv none) S B H σ (J6 T g σ x lo hi):=by
 unfold J6;cases o:T g with
 | none=>exact .bad
 | some O=>
  simp only;split
  .rename_i e id n i len p;split
   .rename_i Q t k l a b A j C D;split
    .rename_i m;obtain⟨E,F⟩:=m;refine .Y9 λh K J=>?_;cases u with
     | ms cap c r L R V d=>
      rw[j] at c;cases c;unfold Instr.sliceAt;refine Ω.bind' (f.ZD o ?_);rw[p];simp only;unfold Instr.slice;refine Ω.bind' (f.ZD o ?_);rw[p];simp only;refine Ω.bind' (J8 w y C D U ?_);simp only;refine Ω.bind' (f.size A ?_);refine Ω.pure' (.same s J (.ms (cap-a.toNat) j F L U U ?_));by_cases m:cap=a.toNat
      .exact .inl U
      .rcases d with d|⟨M,N,rfl,rfl,d⟩
       .exact .inl U
       .refine .inr ⟨M,N,rfl,?_,?_⟩
        .rw[if_neg m];simp only[Option.map_some,Pq,E,WT]
        .have:i+a.toNat+(cap-a.toNat)=i+cap:=U
         rw[this];exact d
     | Vx v c r=>rw[j] at c;cases c;simp only[Row.WQ] at r;omega
    .exact .bad
   .exact .bad
  .exact .bad
def J5 (T:ZR) (a:TypeId) (x:I):Zc:=match T a with
 | some i=>match i.ZD,x with
  | .string,.z (.string s)=>.ok (.z (.int .i64 s.size))
  | .slice _,.sl _ _ l=>.ok (.z (.int .i64 l.length))
  | .array n _,_=>.ok (.z (.int .i64 n))
  | _,_=>.bad
 | none=>.bad
def J4 (T:ZR) (a:TypeId) (σ:Ρ) (x:I):YX:=match T a with
 | some i=>match i.ZD,x with
  | .slice _,.ms id n _ len=>match σ[id]? with
   | some (.cells _ _ l)=>if l.length=n then .ok (.z (.int .i64 len)) σ else .bad
   | _=>.bad
  | _,_=>.bad
 | none=>.bad
theorem zV (c:Zz P T) (h:Holds S B σ H) (d j:TypeId) {x:I} {v:Value} (g:ς S B σ x v):Y4 P (Builtin.len_ #[d] j #[v]) S B H σ ((J5 T d x).YC σ):=by
 unfold J5;cases hi:T d with
 | none=>exact .bad
 | some i=>
  simp only;have f:∀(K:I->Ρ->Prop) (n:Int),K (.z (.int .i64 n)) σ->Ω P (pure (goInt n):Sem Value) H (VO S B H σ K) (λ_ _=>False):=λK n a=>Ω.pure' (.same h a (.z _));split
  .rename_i s b;cases g;intro K a;unfold Builtin.len_;refine Ω.bind' (c.ZD hi ?_);rw[b];exact f K _ a
  .rename_i e ex k l b;obtain⟨base,cap,rfl,_⟩:=Q1 g;intro K a;unfold Builtin.len_;refine Ω.bind' (c.ZD hi ?_);rw[b];exact f K _ a
  .rename_i n e b;intro K a;unfold Builtin.len_;refine Ω.bind' (c.ZD hi ?_);rw[b];cases v<;>exact f K _ a
  .exact .bad
theorem zU (d:Zz P T) (f:Holds S B σ H) (a g:TypeId) {x:I} {v:Value} (h:ς S B σ x v):Y4 P (Builtin.len_ #[a] g #[v]) S B H σ (J4 T a σ x):=by
 unfold J4;cases hi:T a with
 | none=>exact .bad
 | some i=>
  simp only;split
  .rename_i e id n j len m;split
   .rename_i t k l o;split
    .rename_i r;intro K p;cases h with
     | ms cap b c s u w y=>
      unfold Builtin.len_;refine Ω.bind' (d.ZD hi ?_);rw[m];exact Ω.pure' (.same f p (.z _))
     | Vx v b c=>rw[o] at b;cases b;simp only[Row.WQ] at c;omega
    .exact .bad
   .exact .bad
  .exact .bad
def Ns (T:ZR) (src dst:TypeId) (x:I):Zc:=match T src,T dst with
 | some _,some j=>match j.ZD,x with
  | .int k,.z (.int _ n)=>.ok (.z (.int k (k.wrap n)))
  | _,_=>.bad
 | _,_=>.bad
theorem zT (a:Zz P T) (b:Holds S B σ H) (src dst:TypeId) {x:I} {v:Value} (c:ς S B σ x v):Y4 P (convert src dst v) S B H σ ((Ns T src dst x).YC σ):=by
 unfold Ns;split
 .rename_i i j hi d;split
  .rename_i k kk n e;cases c;intro K f;unfold convert;refine Ω.bind' (a.ZD hi (Ω.bind' (a.ZD d ?_)));rw[e];exact Ω.pure' (.same b f (.z _))
  .exact .bad
 .exact .bad
def J3 (l:ξ):Zc:=match l with
 | [.z (.int k x),.z (.int _ y)]=>.ok (.z (.int k (if y > x then y else x)))
 | _=>.bad
theorem zS (c:Holds S B σ H) (d:Array TypeId) (f:TypeId) {a b:I} {u v:Value} (g:ς S B σ a u) (h:ς S B σ b v):Y4 P (Builtin.max_ d f #[u,v]) S B H σ ((J3 [a,b]).YC σ):=by
 unfold J3;split
 .rename_i k x kk y e;simp at e;obtain⟨rfl,rfl⟩:=e;cases g;cases h;intro K i;exact Ω.pure' (.same c i (.z _))
 .exact .bad
end
def TY (d:TypeDesc) (x y:Value):Option Bool:=match d,x,y with
 | .int _,.int k a,.int c b=>if k=c then some (a==b) else none
 | .string,.string a,.string b=>some (a==b)
 | .bool,.bool a,.bool b=>some (a==b)
 | _,_,_=>none
def Vg:List (TypeDesc×Nat)->ξ->ξ->Option Bool
 | [],_,_=>some true
 |(d,o)::r,xs,a=>match xs[o]?,a[o]? with
  | some (.z x),some (.z y)=>match TY d x y,Vg r xs a with
   | some b,some c=>some (b&&c)
   | _,_=>none
  | _,_=>none
def aeqv (T:ZR) (e:TypeId) (a b:I):Option Bool:=match T e with
 | some i=>match a,b with
  | .z x,.z y=>if VP i.ZD then TY i.ZD x y else none
  | .Z' xs,.Z' d=>match i.eqs with|some c=>if xs.length=c.length/\d.length=c.length then Vg c xs d else none|none=>none
  | _,_=>none
 | none=>none
section
variable {P:Program} {T:ZR} {S:ο} {B:Z8} {H:Ψ} {σ:Ρ}
theorem Ω.forIn_nil {b a:Type} {c:a} {f:b->a->Sem (ForInStep a)} {G:Ψ} {K:a->Ψ->Prop} {E:Value->Ψ->Prop} (h:K c G):Ω P (forIn ([]:List b) c f) G K E:=by
 rw[List.forIn_nil];exact h
theorem Ω.forIn_cons {d c:Type} {a:d} {l:List d} {e:c} {f:d->c->Sem (ForInStep c)} {G:Ψ} {K:c->Ψ->Prop} {E:Value->Ψ->Prop}
  (h:Ω P (f a e) G (λr G'=>match r with|.done b=>K b G'|.yield b=>Ω P (forIn l b f) G' K E) E):Ω P (forIn (a::l) e f) G K E:=by
 rw[List.forIn_cons];refine Ω.bind' (Ω.mono (λr G' g=>?_) (λ_ _ h=>h) _ h);cases r with
 | done b=>exact Ω.pure' g
 | yield b=>exact g
theorem forIn_range {a:Type} (m:Nat) (b:a) (f:Nat->a->Sem (ForInStep a)):forIn [:m] b f=forIn (List.range m) b f:=by
 rw[Std.Legacy.Range.forIn_eq_forIn_range'];simp[Std.Legacy.Range.size,K2]
theorem HR {c:TypeId} {d:TypeDesc} (hd:P.underlying c=some d) (f:VP d=true) {x y:Value} {b:Bool} (h:TY d x y=some b) {n:Nat} {G:Ψ} {K:Bool->Ψ->Prop} {E:Value->Ψ->Prop} (a:K b G):Ω P (Op.equalIn (n+1) c x y) G K E:=by
 unfold Op.equalIn;refine Ω.bind' (Ω.underlying hd ?_);unfold TY at h;split at h
 .split at h
  .rename_i e;subst e;cases h;simp only[if_true];exact Ω.pure' a
  .cases h
 .cases h;exact Ω.pure' a
 .cases h;exact Ω.pure' a
 .cases h
def HQ (xs:ξ) (vs:Array Value):Prop:=∀(o:Nat) (v:Value),xs[o]?=some (I.z v)->vs[o]?=some v
theorem L6 {xs:ξ} {vs:Array Value} (h:ς S B σ (.Z' xs) (.agg vs)):HQ xs vs:=λo v hv=>by
 cases h with
 | Z' _ b c=>
  have d:o<vs.size:=by rw[<-b];exact(Zu.1 hv).1
  have a:=XI d
  have:=c o _ _ hv a;generalize vs[o]=u at this a;cases this;exact a
theorem L5 {a:TypeId} {d:TypeDesc} (hd:P.underlying a=some d) (b:VP d=true) {vs:Array Value} {o:Nat} {v:Value} (hv:vs[o]?=some v) {G:Ψ} {K:Value->Ψ->Prop} {E:Value->Ψ->Prop} (c:K v G):Ω P (part a vs o) G K E:=by
 unfold part;refine Ω.bind' (Ω.isAgg hd ?_);have:UG d=false:=by cases d<;>first|rfl|cases b
 rw[this];simp only[Xf,if_false,hv];exact Ω.pure' c
theorem zR {xs u:ξ} {vs t:Array Value} (R:HQ xs vs) (S:HQ u t) {v:TypeId} {T:List (TypeDesc×Nat)} (w:H0 P v (some T)) {b:Bool} (h:Vg T xs u=some b) {n:Nat} {G:Ψ} {K:Bool->Ψ->Prop} {E:Value->Ψ->Prop} (U:K b G) :
  Ω P (Op.equalIn (n+2) v (.agg vs) (.agg t)) G K E:=by
 obtain⟨_,_,w⟩:=w;rcases w with⟨A,B,W,C,X⟩|⟨m,e,d,f,B,D,p,Y,Z,C⟩
 .unfold Op.equalIn;refine Ω.bind' (Ω.underlying B ?_);simp only;refine Ω.bind' ?_;show Ω P (if P.stoodInHeld v=true then _ else _) G K E;rw[W];simp only[Xf,if_false];have F:∀(l:List Field) (c:Bool),(∀f∈l,f.name≠ "_" /\ ∃d,P.underlying f.type=some d/\VP d=true)->Vg (l.map λf=>((P.underlying f.type).getD .invalid,f.offset)) xs u=some c->
    ∀k:Option Bool×PUnit->Ψ->Prop,k (if c then none else some false,⟨⟩) G->Ω P (forIn l (none,⟨⟩) λ(f:Field) (_:Option Bool×PUnit)=>if f.name≠ "_" then do
     let a <-part f.type vs f.offset
     let b <-part f.type t f.offset
     let r <-Op.equalIn (n+1) f.type a b
     if(!r)=true then pure (ForInStep.done (some false,⟨⟩)) else pure (ForInStep.yield (none,⟨⟩))
    else pure (ForInStep.yield (none,⟨⟩))) G k E:=by
   intro l
   induction l with
   | nil=>intro c _ j k o;simp[Vg] at j;subst j;exact .forIn_nil (by simpa using o)
   | cons f l H=>
    intro c V j k o;obtain⟨aa,d,hd,p⟩:=V f J;simp only[XC,Vg,hd,Option.getD_some] at j;split at j<;>try cases j
    rename_i x y I L;split at j<;>try cases j
    rename_i M N O Q;refine .forIn_cons ?_;rw[if_pos aa];refine Ω.bind' (L5 hd p (R _ _ I) (Ω.bind' (L5 hd p (S _ _ L) (Ω.bind' (HR hd p O ?_)))));cases M with
    | false=>exact Ω.pure' (by simpa using o)
    | true=>exact Ω.pure' (H N (λg ab=>V g (by simp[ab])) Q k (by simpa using o))
  refine Ω.bind' ?_;have ad:(forIn A (none,⟨⟩) λ(f:Field) (_:Option Bool×PUnit)=>if f.name≠ "_" then do
     let a <-part f.type vs f.offset
     let b <-part f.type t f.offset
     let r <-Op.equalIn (n+1) f.type a b
     if(!r)=true then pure (ForInStep.done (some false,⟨⟩)) else pure (ForInStep.yield (none,⟨⟩))
    else pure (ForInStep.yield (none,⟨⟩)):Sem (Option Bool×PUnit))=forIn A.toList (none,⟨⟩) _:=(Array.forIn_toList ..).symm
  refine Eq.mpr (congrArg (λs=>Ω P s G _ E) ad) ?_;refine F A.toList b X (by rw[<-C];exact h) _ ?_;cases b<;>exact Ω.pure' U
 .unfold Op.equalIn;refine Ω.bind' (Ω.underlying B ?_);simp only;refine Ω.bind' (Ω.sizeOf Y ?_);rw[Z];have F:∀(l:List Nat) (c:Bool),Vg (l.map λi=>(d,i)) xs u=some c->
    ∀k:Option Bool×PUnit->Ψ->Prop,k (if c then none else some false,⟨⟩) G->Ω P (forIn l (none,⟨⟩) λ(i:Nat) (_:Option Bool×PUnit)=>do
     let a <-part e vs (i*1)
     let b <-part e t (i*1)
     let r <-Op.equalIn (n+1) e a b
     if(!r)=true then pure (ForInStep.done (some false,⟨⟩)) else pure (ForInStep.yield (none,⟨⟩))) G k E:=by
   intro l
   induction l with
   | nil=>intro c j k o;simp[Vg] at j;subst j;exact .forIn_nil (by simpa using o)
   | cons i l H=>
    intro c j k o;simp only[XC,Vg] at j;split at j<;>try cases j
    rename_i x y I L;split at j<;>try cases j
    rename_i M N O Q;refine .forIn_cons ?_;refine Ω.bind' (L5 D p (by rw[Qt];exact R _ _ I) (Ω.bind' (L5 D p (by rw[Qt];exact S _ _ L) (Ω.bind' (HR D p O ?_)))));cases M with
    | false=>exact Ω.pure' (by simpa using o)
    | true=>exact Ω.pure' (H N Q k (by simpa using o))
  refine Ω.bind' ?_;rw[forIn_range];refine F (List.range m) b (by rw[<-C];exact h) _ ?_;cases b<;>exact Ω.pure' U
theorem HP (j:Zz P T) {c:TypeId} {a b:I} {v w:Value} {r:Bool} (d:ς S B σ a v) (e:ς S B σ b w) (h:aeqv T c a b=some r) {K:Bool->Ψ->Prop} {E:Value->Ψ->Prop} (f:K r H):Ω P (Op.equal c v w) H K E:=by
 unfold aeqv at h;split at h
 .rename_i i hi;obtain⟨⟨k,g⟩,_⟩:=j c i hi;split at h
  .split at h
   .rename_i l;cases d;cases e;exact HR k l h f
   .cases h
  .split at h
   .rename_i u m;rw[m] at g;split at h<;>try cases h
    cases d with
    | Z' vs n o=>cases e with
     | Z' p s t=>exact zR (L6 (.Z' vs n o)) (L6 (.Z' p s t)) g h f
   .cases h
  .cases h
 .cases h
theorem E1 (a b:ByteArray):(a==b)=(a.data==b.data):=by
 cases a;cases b;rfl
theorem zQ {a b:ByteArray} (h:(a==b)=true):a=b:=by
 rw[E1] at h;have:=eq_of_beq h;cases a;cases b;simp at this;simp[this]
theorem zP (a:ByteArray):(a==a)=true:=by rw[E1];exact beq_self_eq_true _
theorem E0 {d:TypeDesc} {x y:Value} (h:TY d x y=some true):x=y/\∀n,Instr.sameBits n x x=true:=by
 unfold TY at h;split at h
 .split at h
  .rename_i e;subst e;simp only[Qx,beq_iff_eq] at h;subst h;exact⟨rfl,λn=>by cases n<;>simp[Instr.sameBits]⟩
  .cases h
 .simp only[Qx] at h;have:=zQ h;subst this;exact⟨rfl,λn=>by cases n<;>simp[Instr.sameBits,zP]⟩
 .simp only[Qx,beq_iff_eq] at h;subst h;exact⟨rfl,λn=>by cases n<;>simp[Instr.sameBits]⟩
 .cases h
theorem zO {xs g:ξ}:∀(f:List (TypeDesc×Nat)),Vg f xs g=some true->∀o,o∈f.map (·.2)->∃x,xs[o]?=some (.z x)/\g[o]?=some (.z x)/\∀n,Instr.sameBits n x x=true:=by
 intro f
 induction f with
 | nil=>intro _ o e;simp at e
 | cons a f i=>
  obtain⟨d,p⟩:=a;intro h o e;simp only[Vg] at h;split at h<;>try cases h
  rename_i x y j k;split at h<;>try cases h
  rename_i b c l m;simp only[Qx,VT] at h;obtain⟨rfl,rfl⟩:=h;simp only[XC,Zm] at e;rcases e with rfl|e
  .obtain⟨r,Φ⟩:=E0 l;subst r;exact⟨x,j,k,Φ⟩
  .exact i m o e
theorem zN (C:Zz P T) {r:TypeId} {a b:I} {v w:Value} (s:ς S B σ a v) (t:ς S B σ b w) (h:aeqv T r a b=some true):v=w/\a=b/\∀n,Instr.sameBits (n+1) v v=true:=by
 unfold aeqv at h;split at h
 .rename_i i hi;obtain⟨⟨O,u⟩,_⟩:=C r i hi;split at h
  .split at h
   .obtain⟨f,Φ⟩:=E0 h;subst f;cases s;cases t;exact⟨rfl,rfl,λn=>Φ _⟩
   .cases h
  .rename_i xs y;split at h
   .rename_i d D;rw[D] at u;split at h<;>try cases h
    rename_i E;obtain⟨Q,R⟩:=E;have F:=u.2.1;have get:∀o,o<d.length->∃x,xs[o]?=some (.z x)/\y[o]?=some (.z x)/\∀n,Instr.sameBits n x x=true:=λo c=>zO d h o (by rw[F];simpa using c);have H:xs=y:=by
     apply RQ;intro o;by_cases c:o<d.length
     .obtain⟨x,g,j,_⟩:=get o c;rw[g,j]
     .rw[S0 U,S0 U]
    cases s with
    | Z' vs g j=>cases t with
     | Z' k J K=>
      have A:∀o,o<d.length->∃x,vs[o]?=some x/\k[o]?=some x/\∀n,Instr.sameBits n x x=true:=λo c=>by
       obtain⟨x,e,l,m⟩:=get o c;exact⟨x,L6 (.Z' vs g j) o x e,L6 (.Z' k J K) o x l,m⟩
      have L:vs=k:=by
       apply NP;intro o;by_cases c:o<d.length
       .obtain⟨x,e,l,_⟩:=A o c;rw[e,l]
       .rw[NV U,NV U]
      subst L;refine⟨rfl,by rw[H],λn=>?_⟩;simp only[Instr.sameBits,beq_self_eq_true,Bool.true_and,Wv];intro p M;obtain⟨o,c⟩:=Su M;rw[List.getElem?_zip_eq_some] at c;have N:o<d.length:=by
       have:=(Zu.1 c.1).1;simp at this;omega
      obtain⟨x,e,_,m⟩:=A o N;rw[Wl,e] at c;obtain⟨f,Φ⟩:=c;cases f;rw[<-W3 Φ];exact m n
   .cases h
  .cases h
 .cases h
end
end Go.TL
