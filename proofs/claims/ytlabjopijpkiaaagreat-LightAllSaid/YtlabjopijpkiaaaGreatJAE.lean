import Derived.Test.YtlabjopijpkiaaaGreatJAD
set_option maxHeartbeats 16000000
set_option maxRecDepth 20000
set_option linter.unusedSectionVars false
set_option linter.unusedSimpArgs false
set_option linter.unusedVariables false
namespace Go.TL
open Go.Conc
open Go.ConcM (OsLater)
open Go.ConcN (sumTo upd sumTo_upd upd_ne upd_same sumTo_congr le_sumTo)
def Χ.Ug (w:World):Χ:=
 ⟨λb o=>match w.heap[b]? with|some (.cells c _ _)=>(c[o]?).map (·,false)|_=>none,
  λb=>match w.heap[b]? with|some (.cells c t a)=>if a=(0,0) then some (t,c.size) else none|_=>none,λ_=>none⟩
theorem Χ.zC (w:World):Fits (Χ.Ug w) w:=by
 refine⟨λb o v p h=>?_,λb t n h=>?_,λb x h=>(by cases h)⟩
 .simp only[Χ.Ug] at h;cases a:w.heap[b]? with
  | none=>rw[a] at h;cases h
  | some x=>
   rw[a] at h;cases x with
   | cells c t f=>
    simp only at h;cases d:c[o]? with
    | none=>rw[d] at h;cases h
    | some g=>rw[d] at h;cases h;exact SX a d
   | _=>cases h
 .simp only[Χ.Ug] at h;cases a:w.heap[b]? with
  | none=>rw[a] at h;cases h
  | some x=>
   rw[a] at h;cases x with
   | cells c t' f=>
    simp only at h;split at h
    .rename_i e;cases h;exact⟨c,by rw[e],rfl⟩
    .cases h
   | _=>cases h
theorem Χ.zB (w:World) (b o:Nat):¬(Χ.Ug w).owns b o:=λ⟨v,h⟩=>by
 simp only[Χ.Ug] at h;cases a:w.heap[b]? with
 | none=>rw[a] at h;cases h
 | some x=>
  rw[a] at h;cases x with
  | cells c t e=>
   simp only at h;cases d:c[o]? with
   | none=>rw[d] at h;cases h
   | some f=>rw[d] at h;cases h
  | _=>cases h
def ZZ.start (w:World):ZZ:=⟨Χ.Ug w,λ_=>none,λ_=>.nil,λ_=>none,λ_=>none,0,false⟩
theorem Goes.comes {P:Program} {A:Value->Prop} {g:Goroutine} {w:World} (h:Goes P A true g (ZZ.start w)):Comes P A w (solo g w) #[]:=by
 obtain⟨T,K⟩:=h;let c:YQ:={H:=Zz (λ_=>Χ.empty) (.inl 0) (Χ.Ug w),Z3:=λ_ _=>none,tok:=λ_ _=>.nil,spec:=λ_ _=>none,view:=λ_ _=>none,deaf:=λ_=>0,rel:=λ_=>false,T:=λ_=>T,O:=λ_=>none,Zs:=λ_=>0,home:=λ_=>0,XM:=λ_=>0};have M:c.x 0=ZZ.start w:=by simp[c,YQ.x,ZZ.start]
 have y:∀k,k≠.inl 0->c.H k=Χ.empty:=λk B=>Zy (λ_=>Χ.empty) (Χ.Ug w) B
 have C:c.H (.inl 0)=Χ.Ug w:=Yw (λ_=>Χ.empty) (.inl 0) (Χ.Ug w)
 have D:∀k b o,¬(c.H k).owns b o:=λk b o f=>by
  by_cases e:k=.inl 0
  .subst e;rw[C] at f;exact Χ.zB w b o f
  .rw[y k e] at f;obtain⟨v,hv⟩:=f;cases hv
 have F:∀k b,¬(c.H k).XF b:=λk b f=>by
  by_cases e:k=.inl 0
  .subst e;rw[C] at f;obtain⟨v,hv⟩:=f;cases hv
  .rw[y k e] at f;obtain⟨v,hv⟩:=f;cases hv
 have S:∀i:Nat,(#[]:Trace)[i]?=none:=λi=>I
 have J:(#[g]:Array Goroutine).size=1:=rfl
 have N:Inv P A w c #[g] w #[]:=by
  refine⟨I,⟨λk=>?_,λj b c t r=>(by cases r),λs o d=>(by cases d),Xj.refl _ _ _⟩,
   ⟨λk l _=>⟨λb o f=>absurd f (D k b o),λb o f=>absurd f (D l b o),λb f=>absurd f (F k b)⟩,λk b o f=>absurd f (D k b o),λk b f=>absurd f (F k b),λj b v hv=>(by cases hv),λs o b d=>(by cases d),λs U o o' b d=>(by cases d),λs o m d=>(by cases d),λb _=>y _ I⟩,
   ⟨λV ⟨i,j,_,⟨a,b,u,_⟩,_⟩=>(by simp[Trace.act?] at u),λQ E=>(by simp at E),λQ E=>(by simp at E),λk=>⟨λb o v p _ i a u=>(by simp[touchAt,Trace.act?] at u),λb _ i a u=>(by simp[touchAt,Trace.act?] at u)⟩,λj b v hv=>(by cases hv),λs o b d=>(by cases d),λj=>rfl⟩,
   ?_,⟨λs o m d=>(by cases d),λs o d=>(by cases d)⟩,⟨λk a B=>(by simp[Trace.g?] at B),λj _ n=>(by cases n),λj _ n=>(by cases n),λj _ n=>(by cases n)⟩,⟨λs o m d=>(by cases d),λj b v hv=>(by cases hv)⟩,λj b r=>?_⟩
  .by_cases e:k=.inl 0
   .subst e;rw[C];exact Χ.zC w
   .rw[y k e];exact Ov w
  .exact⟨λs o d=>(by cases d),λs _ j=>rfl,λj s _=>rfl,λj s sp d=>(by cases d),λj s φ o d=>(by cases d),λj s k L g o d=>(by cases d),λj s m p R d=>(by cases d),λj s k m g d=>(by cases d),λj W n=>(by rw[J] at n;omega),λj k m g _ d=>(by cases d),rfl,λj s d=>(by cases d),λj s k m g o d=>(by cases d),λs j X k m g Y g' d=>(by cases d),λs j k m g q p R d=>(by cases d),λs o d=>(by cases d),λs o d=>(by cases d)⟩
  .have n:j=0:=by have:=TR r;rw[J] at this;omega
   subst n;simp at r;subst r;exact⟨g,by rw[M];exact K,.inl rfl⟩
 rw[solo_eq_crowd];exact Inv.comes _ _ c [0] #[g] w #[] none rfl ⟨I,λi=>I⟩ rfl N
def Χ.fresh (G:Χ) (r:Nat):Prop:=(∀o,G.θ r o=none)/\G.row r=none/\G.obj r=none/\∀b,r<b->(∀o,G.θ b o=none)/\G.row b=none/\G.obj b=none
def Χ.Om (G:Χ) (a:Addr) (v:Value):Χ:={G with θ:=λb o=>if b=a.block/\o=a.off then some (v,true) else G.θ b o}
def Χ.YB (G:Χ) (r:Nat) (c:Array Value) (t:TypeId):Χ:=⟨λb o=>if b=r then(c[o]?).map (·,true) else G.θ b o,λb=>if b=r then some (t,c.size) else G.row b,G.obj⟩
def Χ.ZU (G:Χ) (r:Nat) (x:Obj):Χ:={G with obj:=λb=>if b=r then some x else G.obj b}
def One:Value->Prop
 | .agg _|.tuple _=>False
 | _=>True
def Ψ {α:Type} (P:Program):Sem α->Χ->(α->Χ->Prop)->(Value->Χ->Prop)->Prop
 | .pure a,G,K,_=>K a G
 | .load m a k,G,K,E=>m=.plain/\a.spot=none/\∃v p,G.θ a.block a.off=some (v,p)/\Ψ P (k v) G K E
 | .store m a v k,G,K,E=>m=.plain/\a.spot=none/\G.owns a.block a.off/\(∃t n,G.row a.block=some (t,n))/\One v/\Ψ P k (G.Om a v) K E
 | .new (.cells c t b) k,G,K,E=>b=(0,0)/\∀r,G.fresh r->Ψ P (k r) (G.YB r c t) K E
 | .new o k,G,K,E=>∀r,G.fresh r->Ψ P (k r) (G.ZU r o) K E
 | .shape r k,G,K,E=>∃t n,G.row r=some (t,n)/\Ψ P (k (some (t,n))) G K E
 | .freeze _ _ _,_,_,_=>False
 | .frozen a k,G,K,E=>(∃t n,G.row a.block=some (t,n))/\Ψ P (k false) G K E
 | .getObj r k,G,K,E=>∃o,G.obj r=some o/\o.isChan=false/\Ψ P (k o) G K E
 | .setObj r o k,G,K,E=>G.XF r/\Obj.Qe o=false/\o.isChan=false/\Ψ P k (G.ZU r o) K E
 | .choose q k,G,K,E=>if q.forced then Ψ P (k 0) G K E else ∀n,Ψ P (k (q.cut n)) G K E
 | .sys _ _,_,_,_=>False
 | .program k,G,K,E=>Ψ P (k P) G K E
 | .mark m k,G,K,E=>m=.noRoom/\Ψ P k G K E
 | .halt (.panic v),G,_,E=>E v G
 | .halt _,_,_,_=>False
structure Yo (G0:Χ) (w0:World) (G:Χ) (w:World) (es:Array Event):Prop where
 fit:Fits G w
 keeps:Xj G0.owns G0.XF w0 w
 UM:Kg G0 G w0.heap.size
 Pp:∀e∈es,Wq G0 w0.heap.size w.heap.size e
theorem Yo.start {G:Χ} {w:World} (h:Fits G w):Yo G w G w #[]:=
 ⟨h,Xj.refl _ _ _,⟨λb o v p h=>.inr ⟨v,p,h,id⟩,λb h=>.inr h⟩,λe a=>by simp at a⟩
section
variable {G0 G:Χ} {w0 w:World} {es:Array Event}
theorem Fits.bare (h:Fits G w) {b:Nat} (d:w.heap.size<=b):(∀o,G.θ b o=none)/\G.row b=none/\G.obj b=none:=by
 refine⟨λo=>?_,?_,?_⟩
 .cases a:G.θ b o with
  | none=>rfl
  | some x=>obtain⟨c,t,e,d,_⟩:=Q3 (h.θ _ _ x.1 x.2 a);have:=Xi d;omega
 .cases a:G.row b with
  | none=>rfl
  | some x=>obtain⟨c,d,_⟩:=h.row _ x.1 x.2 a;have:=Xi d;omega
 .cases a:G.obj b with
  | none=>rfl
  | some x=>have:=Xi (h.obj _ x a).1;omega
theorem Fits.fresh (h:Fits G w):G.fresh w.heap.size:=
 ⟨(h.bare (γ _)).1,(h.bare (γ _)).2.1,(h.bare (γ _)).2.2,λ_ a=>h.bare (Sr a)⟩
theorem Χ.Hr {H H':Χ} (c:∀b o,H'.θ b o=none->H.θ b o=none) (d:∀b,H'.row b=none->H.row b=none) (e:∀b,H'.obj b=none->H.obj b=none) (r:Nat) (h:H'.fresh r):H.fresh r:=
 ⟨λo=>c _ _ (h.1 o),d _ h.2.1,e _ h.2.2.1,λb a=>⟨λo=>c _ _ ((h.2.2.2 b a).1 o),d _ (h.2.2.2 b a).2.1,e _ (h.2.2.2 b a).2.2⟩⟩
theorem Χ.Ey {H:Χ} {r:Nat} (a:H.fresh r) (c:Array Value) (t:TypeId):∀b,(H.YB r c t).fresh b->H.fresh b:=
 Χ.Hr (λb o h=>by
  by_cases e:b=r
  .subst e;exact a.1 o
  .simpa[Χ.YB,e] using h) (λb h=>by
  by_cases e:b=r
  .subst e;exact a.2.1
  .simpa[Χ.YB,e] using h) (λb h=>h)
theorem Χ.Hq {H:Χ} {r:Nat} {x:Obj}:∀b,(H.ZU r x).fresh b->H.fresh b:=
 Χ.Hr (λb o h=>h) (λb h=>h) (λb h=>by
  by_cases e:b=r
  .subst e;simp[Χ.ZU] at h
  .simpa[Χ.ZU,e] using h)
theorem Wq.mono {n b c:Nat} {e:Event} (h:Wq G n b e) (f:b<=c):Wq G n c e:=by
 obtain⟨d,wr,g⟩:=e;cases d with
 | cell a=>exact h.imp (λx=>⟨x.1,U⟩) id
 | obj r=>exact⟨h.1,h.2.imp (λx=>⟨x.1,U⟩) id⟩
 | _=>exact h
theorem Yo.read (h:Yo G0 w0 G w es) {a:Addr} {v:Value} {p:Bool} (g:a.spot=none) (d:G.θ a.block a.off=some (v,p)):w.cell? a=some v/\Yo G0 w0 G w (es.push ⟨.cell a,false,false⟩):=by
 obtain⟨b,o,sp⟩:=a;simp only at g d;subst g;have hv:=h.fit.θ b o v p d;refine⟨hv,h.fit,h.keeps,h.UM,λe f=>?_⟩;rcases ND.1 f with f|rfl
 .exact h.Pp e f
 .rcases h.UM.θ b o v p d with i|⟨l,m,j,_⟩
  .obtain⟨c,t,n,k,_⟩:=Q3 hv;exact .inl ⟨i,Xi k⟩
  .exact .inr ⟨rfl,_,j⟩
theorem heap_setCell {a:Addr} {v:Value} {c:Array Value} {t:TypeId} {f:Nat×Nat} (g:a.spot=none) (d:w.heap[a.block]?=some (.cells c t f)):(w.setCell a v).heap=w.heap.setIfInBounds a.block (.cells (c.setIfInBounds a.off v) t f):=by
 obtain⟨b,o,sp⟩:=a;simp only at g d;subst g;have h:=Xi d;simp only[World.setCell];apply NF;intro j;rw[Array.getElem?_modify];by_cases e:b=j
 .subst e;rw[Tv h,if_pos rfl,d];simp
 .rw[UR e,if_neg e]
theorem Yo.write (h:Yo G0 w0 G w es) {a:Addr} {v:Value} (L:a.spot=none) (M:G.owns a.block a.off):(∃u,w.cell? a=some u)/\Yo G0 w0 (G.Om a v) (w.setCell a v) (es.push ⟨.cell a,true,false⟩):=by
 obtain⟨b,o,sp⟩:=a;simp only at L M;subst L;obtain⟨u,B⟩:=M;have hv:=h.fit.θ b o u true B;obtain⟨c,t,W,k,X⟩:=Q3 hv;have N:=Xi k;have C:=heap_setCell (w:=w) (a:=⟨b,o,none⟩) (v:=v) rfl k;have O:(w.setCell ⟨b,o,none⟩ v).heap.size=w.heap.size:=by rw[C];simp
 have p:(w.setCell ⟨b,o,none⟩ v).heap[b]?=some (.cells (c.setIfInBounds o v) t W):=by rw[C,Tv N]
 have m:∀j,b≠j->(w.setCell ⟨b,o,none⟩ v).heap[j]?=w.heap[j]?:=λj Y=>by rw[C,UR Y]
 have Z:o<c.size:=(TY.1 X).1
 have P:b<w0.heap.size->G0.owns b o:=λr=>by
  rcases h.UM.θ b o u true B with s|⟨D,Q,E,F⟩
  .omega
  .exact⟨D,by rw[E,F rfl]⟩
 refine⟨⟨u,hv⟩,⟨λd o' H I i=>?_,λd t' aa ab=>?_,λd x y=>?_⟩,⟨by rw[O];exact h.keeps.size,λd c' t' ad A=>?_,λd x A y s=>?_,h.keeps.os,h.keeps.output,h.keeps.tape⟩,⟨λd o' H I i=>?_,h.UM.obj⟩,λe J=>?_⟩
 .simp only[Χ.Om] at i;by_cases e:d=b/\o'=o
  .obtain⟨rfl,rfl⟩:=e;rw[if_pos ⟨rfl,rfl⟩] at i;cases i;exact SX p (by rw[Tv Z])
  .rw[if_neg e] at i;have:=h.fit.θ d o' H I i;by_cases f:d=b
   .subst f;have Φ:o≠o':=λx=>e ⟨rfl,x.symm⟩;obtain⟨n,t2,ae,g,K⟩:=Q3 this;rw[k] at g;cases g;exact SX p (by rw[UR Φ];exact K)
   .obtain⟨n,t2,ae,g,K⟩:=Q3 this;exact SX (by rw[m d (YR f)];exact g) K
 .obtain⟨n,g,R⟩:=h.fit.row d t' aa ab;by_cases f:d=b
  .subst f;rw[k] at g;cases g;exact⟨_,p,by simpa using R⟩
  .exact⟨n,by rw[m d (YR f)];exact g,R⟩
 .obtain⟨g,S⟩:=h.fit.obj d x y;have f:b≠d:=λe=>by subst e;rw[k] at g;cases g;cases S
  exact⟨by rw[m d f];exact g,S⟩
 .obtain⟨n,l,T,U⟩:=h.keeps.cells d c' t' ad A;by_cases f:d=b
  .subst f;rw[k] at l;cases l;refine⟨_,p,by simpa using T,λo' V=>?_⟩;have Φ:o≠o':=λe=>by subst e;exact V (P (Xi A))
   rw[UR Φ];exact U o' V
  .exact⟨n,by rw[m d (YR f)];exact l,T,U⟩
 .have l:=h.keeps.Tp d x A y s
  have f:b≠d:=λe=>by subst e;rw[k] at l;cases l;cases y
  rw[m d f];exact l
 .simp only[Χ.Om] at i;by_cases e:d=b/\o'=o
  .obtain⟨rfl,rfl⟩:=e;rw[if_pos ⟨rfl,rfl⟩] at i;cases i;rcases h.UM.θ _ _ _ _ B with s|⟨D,Q,E,F⟩
   .exact .inl s
   .exact .inr ⟨D,Q,E,F⟩
  .rw[if_neg e] at i;exact h.UM.θ d o' H I i
 .rw[O];rcases ND.1 J with J|rfl
  .exact h.Pp e J
  .rcases OH b w0.heap.size with r|r
   .refine .inr ⟨rfl,?_⟩;exact P r
   .exact .inl ⟨r,N⟩
theorem L6 {x:Obj} {j:Nat} (a:j<w.heap.size):(w.heap.push x)[j]?=w.heap[j]?:=by
 rw[NH,if_neg U]
theorem J4 {x:Obj}:(w.heap.push x)[w.heap.size]?=some x:=I
theorem Yo.new (h:Yo G0 w0 G w es) {x:Obj} {G':Χ} (k:∀b o,b≠w.heap.size->G'.θ b o=G.θ b o) (m:∀b,b≠w.heap.size->G'.row b=G.row b) (l:∀b,b≠w.heap.size->G'.obj b=G.obj b)
  (i:Fits {θ:=λb o=>if b=w.heap.size then G'.θ b o else none,row:=λb=>if b=w.heap.size then G'.row b else none,obj:=λb=>if b=w.heap.size then G'.obj b else none} {w with heap:=w.heap.push x}) :
  Yo G0 w0 G' {w with heap:=w.heap.push x} es:=by
 have E:=h.keeps.size;refine⟨⟨λb o v p a=>?_,λb t n a=>?_,λb y a=>?_⟩,⟨by simp;omega,λb c t r a=>?_,λb y a j s=>?_,h.keeps.os,h.keeps.output,h.keeps.tape⟩,⟨λb o v p a=>?_,λb ⟨y,a⟩=>?_⟩,λe u=>(h.Pp e u).mono I⟩
 .by_cases e:b=w.heap.size
  .exact i.θ b o v p (by simp only[e,if_true];rw[<-e];exact a)
  .rw[k b o e] at a;obtain⟨g,t2,F,d,A⟩:=Q3 (h.fit.θ b o v p a);exact SX (w:={w with heap:=w.heap.push x}) (by show(w.heap.push x)[b]?=_;rw[L6 (Xi d)];exact d) A
 .by_cases e:b=w.heap.size
  .exact i.row b t n (by simp only[e,if_true];rw[<-e];exact a)
  .rw[m b e] at a;obtain⟨g,d,B⟩:=h.fit.row b t n a;exact⟨g,by show(w.heap.push x)[b]?=_;rw[L6 (Xi d)];exact d,B⟩
 .by_cases e:b=w.heap.size
  .exact i.obj b y (by simp only[e,if_true];rw[<-e];exact a)
  .rw[l b e] at a;obtain⟨d,j⟩:=h.fit.obj b y a;exact⟨by show(w.heap.push x)[b]?=_;rw[L6 (Xi d)];exact d,j⟩
 .obtain⟨g,f,C,D⟩:=h.keeps.cells b c t r a;exact⟨g,by show(w.heap.push x)[b]?=_;rw[L6 (Xi f)];exact f,C,D⟩
 .have f:=h.keeps.Tp b y a j s
  show(w.heap.push x)[b]?=_;rw[L6 (Xi f)];exact f
 .by_cases e:b=w.heap.size
  .exact .inl U
  .rw[k b o e] at a;exact h.UM.θ b o v p a
 .by_cases e:b=w.heap.size
  .exact .inl U
  .rw[l b e] at a;exact h.UM.obj b ⟨y,a⟩
end
section
variable {G0 G:Χ} {w0 w:World} {es:Array Event} {P:Program}
theorem Yo.push (h:Yo G0 w0 G w es) {e:Event} (a:Wq G0 w0.heap.size w.heap.size e):Yo G0 w0 G w (es.push e):=
 ⟨h.fit,h.keeps,h.UM,λx b=>(ND.1 b).elim (h.Pp x) λy=>y▸a⟩
theorem Yo.draw (h:Yo G0 w0 G w es) (n:Nat):Yo G0 w0 G {w with drawn:=n} es:=
 ⟨⟨h.fit.θ,h.fit.row,h.fit.obj⟩,⟨h.keeps.size,h.keeps.cells,h.keeps.Tp,h.keeps.os,h.keeps.output,h.keeps.tape⟩,h.UM,h.Pp⟩
theorem Yo.row (h:Yo G0 w0 G w es) (c:Array Value) (t:TypeId):Yo G0 w0 (G.YB w.heap.size c t) {w with heap:=w.heap.push (.cells c t (0,0))} es:=by
 refine h.new (λb o a=>by simp[Χ.YB,a]) (λb a=>by simp[Χ.YB,a]) (λb a=>rfl) ⟨λb o v p a=>?_,λb t' n a=>?_,λb y a=>?_⟩
 .by_cases e:b=w.heap.size
  .simp[Χ.YB,e] at a;obtain⟨f,d,rfl,rfl⟩:=a;rw[e];exact SX (w:={w with heap:=w.heap.push (.cells c t (0,0))}) J4 d
  .simp[e] at a
 .by_cases e:b=w.heap.size
  .simp[Χ.YB,e] at a;obtain⟨rfl,rfl⟩:=a;rw[e];exact⟨c,J4,rfl⟩
  .simp[e] at a
 .by_cases e:b=w.heap.size
  .simp only[e,if_true,Χ.YB] at a;rw[h.fit.fresh.2.2.1] at a;cases a
  .simp[e] at a
theorem Yo.obj (h:Yo G0 w0 G w es) {x:Obj} (c:Obj.Qe x=false):Yo G0 w0 (G.ZU w.heap.size x) {w with heap:=w.heap.push x} es:=by
 refine h.new (λb o a=>rfl) (λb a=>rfl) (λb a=>by simp[Χ.ZU,a]) ⟨λb o v p a=>?_,λb t' n a=>?_,λb y a=>?_⟩
 .by_cases e:b=w.heap.size
  .simp only[e,if_true,Χ.ZU] at a;rw[h.fit.fresh.1] at a;cases a
  .simp[e] at a
 .by_cases e:b=w.heap.size
  .simp only[e,if_true,Χ.ZU] at a;rw[h.fit.fresh.2.1] at a;cases a
  .simp[e] at a
 .by_cases e:b=w.heap.size
  .simp[Χ.ZU,e] at a;subst a;rw[e];exact⟨J4,c⟩
  .simp[e] at a
theorem Yo.setObj (h:Yo G0 w0 G w es) {r:Nat} {x:Obj} (F:G.XF r) (k:Obj.Qe x=false):(∃y,w.heap[r]?=some y/\Obj.Qe y=false)/\Yo G0 w0 (G.ZU r x) {w with heap:=w.heap.setIfInBounds r x} (es.push ⟨.obj r,true,false⟩):=by
 obtain⟨y,m⟩:=F;obtain⟨s,B⟩:=h.fit.obj r y m;have C:=Xi s;have H:(w.heap.setIfInBounds r x)[r]?=some x:=Tv C;have l:∀j,r≠j->(w.heap.setIfInBounds r x)[j]?=w.heap[j]?:=λj I=>UR I;have u:∀b c t g,w.heap[b]?=some (.cells c t g)->r≠b:=λb c t g d e=>by subst e;rw[s] at d;cases d;cases B
 refine⟨⟨y,s,B⟩,⟨λb o v p d=>?_,λb t n d=>?_,λb z f=>?_⟩,⟨by simp;exact h.keeps.size,λb c t g d=>?_,λb z d f D=>?_,h.keeps.os,h.keeps.output,h.keeps.tape⟩,⟨h.UM.θ,λb f=>?_⟩,λe A=>?_⟩
 .obtain⟨c,t,g,a,i⟩:=Q3 (h.fit.θ b o v p d);exact SX (w:={w with heap:=w.heap.setIfInBounds r x}) (by show(w.heap.setIfInBounds r x)[b]?=_;rw[l b (u b c t g a)];exact a) i
 .obtain⟨c,a,i⟩:=h.fit.row b t n d;exact⟨c,by show(w.heap.setIfInBounds r x)[b]?=_;rw[l b (u b c t _ a)];exact a,i⟩
 .by_cases e:b=r
  .subst e;simp[Χ.ZU] at f;subst f;exact⟨H,k⟩
  .simp[Χ.ZU,e] at f;obtain⟨a,i⟩:=h.fit.obj b z f;exact⟨by show(w.heap.setIfInBounds r x)[b]?=_;rw[l b (YR e)];exact a,i⟩
 .obtain⟨E,a,i,J⟩:=h.keeps.cells b c t g d;exact⟨E,by show(w.heap.setIfInBounds r x)[b]?=_;rw[l b (u b E t g a)];exact a,i,J⟩
 .have a:=h.keeps.Tp b z d f D
  have e:r≠b:=λe=>by
   subst e;rcases h.UM.obj r ⟨y,m⟩ with k|k
   .have:=Xi d;omega
   .exact D k
  show(w.heap.setIfInBounds r x)[b]?=_;rw[l b e];exact a
 .by_cases e:b=r
  .subst e;exact h.UM.obj b ⟨y,m⟩
  .obtain⟨z,f⟩:=f;simp[Χ.ZU,e] at f;exact h.UM.obj b ⟨z,f⟩
 .simp only[TX];rcases ND.1 A with A|rfl
  .exact h.Pp e A
  .exact⟨rfl,(h.UM.obj r ⟨y,m⟩).imp (λk=>⟨k,C⟩) id⟩
theorem Ψ.sound {α:Type} {K:α->Χ->Prop} {E:Value->Χ->Prop} (s:Sem α):∀{G:Χ} {w:World} {es:Array Event},Ψ P s G K E->Yo G0 w0 G w es->
  ∃G' w' es',Yo G0 w0 G' w' es'/\((∃a,s.runT P w es=(.ok a w',es')/\K a G')\/(∃v,s.runT P w es=(.halt (.panic v) w',es')/\E v G')):=by
 induction s with
 | pure a=>intro G w es h b;exact⟨G,w,es,b,.inl ⟨a,rfl,h⟩⟩
 | load m a k d=>
  intro G w es h b;obtain⟨rfl,C,v,p,D,i⟩:=h;obtain⟨hv,l⟩:=b.read C D;obtain⟨G',w',es',f,g⟩:=d v i l;refine⟨G',w',es',f,?_⟩;simp only[Sem.runT,hv];exact g
 | store m a v k d=>
  intro G w es h b;obtain⟨rfl,C,D,⟨t,n,J⟩,L,i⟩:=h;obtain⟨⟨u,hv⟩,l⟩:=b.write (v:=v) C D;obtain⟨G',w',es',f,g⟩:=d i l;have M:w.frozen? a=false:=by
   obtain⟨c,j,_⟩:=b.fit.row a.block t n J;simp[World.frozen?,j]
  refine⟨G',w',es',f,?_⟩;have e:(Sem.store .plain a v k).runT P w es=k.runT P (w.setCell a v) (es.push ⟨.cell a,true,false⟩):=by
   cases v<;>first|exact L.elim|(simp only[Sem.runT,hv,M];rfl)
  rw[e];exact g
 | new o k d=>
  intro G w es h b;cases o with
  | cells c t S=>
   obtain⟨rfl,i⟩:=h;obtain⟨G',w',es',f,g⟩:=d w.heap.size (i _ b.fit.fresh) (b.row c t);exact⟨G',w',es',f,g⟩
  | _=>
   obtain⟨G',w',es',f,g⟩:=d w.heap.size (h _ b.fit.fresh) (b.obj rfl);exact⟨G',w',es',f,g⟩
 | shape r k d=>
  intro G w es h b;obtain⟨t,n,A,i⟩:=h;have e:w.shape? r=some (t,n):=by
   obtain⟨c,j,N⟩:=b.fit.row r t n A;simp[World.shape?,j,N]
  obtain⟨G',w',es',f,g⟩:=d _ i b;refine⟨G',w',es',f,?_⟩;simp only[Sem.runT,e];exact g
 | freeze a n k d=>intro G w es h b;exact h.elim
 | frozen a k d=>
  intro G w es h b;obtain⟨⟨t,n,A⟩,i⟩:=h;have e:w.frozen? a=false:=by
   obtain⟨c,j,_⟩:=b.fit.row a.block t n A;simp[World.frozen?,j]
  obtain⟨G',w',es',f,g⟩:=d _ i b;refine⟨G',w',es',f,?_⟩;simp only[Sem.runT,e];exact g
 | getObj r k d=>
  intro G w es h b;obtain⟨o,I,F,i⟩:=h;obtain⟨j,H⟩:=b.fit.obj r o I;have O:=Xi j;have l:=b.push (e:=⟨.obj r,false,false⟩) ⟨rfl,(b.UM.obj r ⟨o,I⟩).imp (λQ=>⟨Q,O⟩) id⟩;obtain⟨G',w',es',f,g⟩:=d _ i l;refine⟨G',w',es',f,?_⟩;have e:(Sem.getObj r k).runT P w es=(k o).runT P w (es.push ⟨.obj r,false,false⟩):=by
   cases o<;>first|(simp only[Sem.runT,j];first|done|rfl|(rw[F];done))|(cases H;done)
  rw[e];exact g
 | setObj r o k d=>
  intro G w es h b;obtain⟨A,H,F,i⟩:=h;obtain⟨⟨y,j,R⟩,l⟩:=b.setObj A H;obtain⟨G',w',es',f,g⟩:=d i l;refine⟨G',w',es',f,?_⟩;have e:(Sem.setObj r o k).runT P w es=k.runT P {w with heap:=w.heap.setIfInBounds r o} (es.push ⟨.obj r,true,false⟩):=by
   cases y<;>first|(simp only[Sem.runT,j,F];done)|(cases R;done)
  rw[e];exact g
 | choose q k d=>
  intro G w es h b;simp only[Ψ] at h;by_cases B:q.forced=true
  .rw[if_pos B] at h;obtain⟨G',w',es',f,g⟩:=d _ h b;refine⟨G',w',es',f,?_⟩;simp only[Sem.runT,B,if_true];exact g
  .rw[if_neg B] at h;obtain⟨G',w',es',f,g⟩:=d _ (h (w.tape w.drawn q)) (b.draw (w.drawn+1));refine⟨G',w',es',f,?_⟩;simp only[Sem.runT,B];exact g
 | sys c k d=>intro G w es h b;exact h.elim
 | program k d=>
  intro G w es h b;obtain⟨G',w',es',f,g⟩:=d P h b;exact⟨G',w',es',f,g⟩
 | mark m k d=>
  intro G w es h b;obtain⟨rfl,i⟩:=h;obtain⟨G',w',es',f,g⟩:=d i (b.push (e:=⟨.mark .noRoom,false,true⟩) rfl);exact⟨G',w',es',f,g⟩
 | halt x=>
  intro G w es h b;cases x<;>first|exact h.elim|skip
  exact⟨G,w,es,b,.inr ⟨_,rfl,h⟩⟩
theorem mem_seen {fn:FuncId} {e:Event} (h:e∈seen P fn es):e∈es:=by
 unfold seen at h;obtain⟨l⟩:=es;have d:∀(l:List Event) (q:Bool) (c:Array Event) (x:Event),x∈(l.foldl (λ(s:Bool×Array Event) e=>match e.loc with
   | .mark (Mark.extern f)=>((P.funcs[f]?).any (·.norace),s.2)
   | _=>(s.1,if s.1&&!e.sync then s.2 else s.2.push e)) (q,c)).2->x∈c\/x∈l:=by
  intro l
  induction l with
  | nil=>intro q c x a;exact .inl a
  | cons y l g=>
   intro q c x a;rw[List.foldl_cons] at a;rcases g _ _ x a with b|b
   .split at b
    .exact .inl b
    .simp only at b;split at b
     .exact .inl b
     .rcases ND.1 b with i|rfl
      .exact .inl i
      .exact .inr I
   .exact .inr (by simp[b])
 simp only[List.foldl_toArray'] at h;rcases d l _ #[] e h with a|a
 .simp at a
 .simpa using a
end
def Zd (P:Program) (a:Value->Prop) (mn:Bool) (y:ZZ) (ο:Frame) (cs:List Frame) (H:Χ):Prop:=Goes P a mn (Go.Conc.G ο cs) {y with G:=H}
def W2:Type:=ZZ->Prop
class ZX where
 q:W2->Prop
structure Seq [ZX] (x:W2):Prop where
 cls:ZX.q x
 rel:∀y,x y->y.rel=false
 Z3:∀y,x y->y.Z3=λ_=>none
def ι (P:Program) (a:Value->Prop) (mn:Bool) (x:W2) (ο:Frame) (cs:List Frame) (H:Χ):Prop:=∀y,x y->Zd P a mn y ο cs H
def ο (b:Frame) (t:Array Value) (k:List Item):Frame:={b with tmps:=t,todo:=k}
section
variable {P:Program} {Q:Value->Prop} {mn:Bool} {x:W2} {cs:List Frame} {H:Χ} {b f:Frame} {t:Array Value} {k:List Item}
theorem Zd.own {y:ZZ} (g:y.rel=false) (i:y.Z3=λ_=>none) (h:∀w,Fits H w->∃f' cs' w' es H',stepG P mn (Go.Conc.G f cs) w=.go (Go.Conc.G f' cs') w' es/\Yo H w H' w' es/\Zd P Q mn y f' cs' H'):Zd P Q mn y f cs H:=by
 refine Goes.step (λj=>by rw[show({y with G:=H}:ZZ).rel=y.rel from rfl,g] at j;cases j) (.inr ⟨⟨rfl,rfl⟩,.inl λw k hv=>?_⟩);obtain⟨f',cs',w',es,H',l,d,m⟩:=h w k;rw[l];refine⟨H',y.Z3,⟨rfl,rfl⟩,d.keeps,d.fit,λb c t a=>?_,d.UM,λb c a=>.inl a,λe n=>?_,λb c a=>?_,m⟩
 .rw[i] at a;cases a
 .rw[if_neg (by rw[show({y with G:=H}:ZZ).rel=y.rel from rfl,g];simp)];exact d.Pp e n
 .rw[i] at a;cases a
variable [ZX]
theorem ι.own (e:Seq x) (h:∀w,Fits H w->∃f' cs' w' es H',stepG P mn (Go.Conc.G f cs) w=.go (Go.Conc.G f' cs') w' es/\Yo H w H' w' es/\ι P Q mn x f' cs' H'):ι P Q mn x f cs H:=
 λy d=>.own (e.rel y d) (e.Z3 y d) λw g=>let ⟨f',cs',w',es,H',a,b,c⟩:=h w g;⟨f',cs',w',es,H',a,b,c y d⟩
theorem ι.still (a:Seq x) {f':Frame} {cs':List Frame} (b:∀w,stepG P mn (Go.Conc.G f cs) w=.go (Go.Conc.G f' cs') w #[]) (h:ι P Q mn x f' cs' H):ι P Q mn x f cs H:=
 .own a λw c=>⟨f',cs',w,#[],H,b w,.start c,h⟩
theorem Vu (a:b.mode=.run) (w:World):stepG P mn (Go.Conc.G (ο b t k) cs) w=stepG.exec P mn true (ο b t k) cs none w:=by
 obtain⟨fn,c,td,d,e,f,g⟩:=b;simp only at a;subst a;rfl
section moves
variable (X8:Seq x) (hb:b.mode=.run)
include X8 hb
theorem ι.to {a:List Item} (c:∀w,stepG.exec P mn true (ο b t k) cs none w=.go (Go.Conc.G (ο b t a) cs) w #[]) (h:ι P Q mn x (ο b t a) cs H):ι P Q mn x (ο b t k) cs H:=
 .still X8 (λw=>(Vu hb w).trans (c w)) h
theorem ι.skip (h:ι P Q mn x (ο b t k) cs H):ι P Q mn x (ο b t (.code .skip::k)) cs H:=.to X8 hb (λ_=>rfl) h
theorem ι.inBlock {l:Nat} (h:ι P Q mn x (ο b t k) cs H):ι P Q mn x (ο b t (.inBlock l::k)) cs H:=.to X8 hb (λ_=>rfl) h
theorem ι.seq {a c:Code} (h:ι P Q mn x (ο b t (.code a::.code c::k)) cs H):ι P Q mn x (ο b t (.code (.seq a c)::k)) cs H:=.to X8 hb (λ_=>rfl) h
theorem ι.block {l:Nat} {c:Code} (h:ι P Q mn x (ο b t (.code c::.inBlock l::k)) cs H):ι P Q mn x (ο b t (.code (.block l c)::k)) cs H:=.to X8 hb (λ_=>rfl) h
theorem ι.loop {c:Code} (h:ι P Q mn x (ο b t (.code c::.inLoop c::k)) cs H):ι P Q mn x (ο b t (.code (.loop c)::k)) cs H:=.to X8 hb (λ_=>rfl) h
theorem ι.inLoop {c:Code} (h:ι P Q mn x (ο b t (.code c::.inLoop c::k)) cs H):ι P Q mn x (ο b t (.inLoop c::k)) cs H:=.to X8 hb (λ_=>rfl) h
theorem ι.region {id:Nat} {ops:Array Oper} (h:ι P Q mn x (ο b t (.inRegion ops (List.range ops.size)::k)) cs H):ι P Q mn x (ο b t (.code (.region id ops false)::k)) cs H:=.to X8 hb (λ_=>rfl) h
theorem ι.ZF {ops:Array Oper} (h:ι P Q mn x (ο b t k) cs H):ι P Q mn x (ο b t (.inRegion ops []::k)) cs H:=.to X8 hb (λ_=>rfl) h
theorem ι.cond {c:Operand} {a e:Code} {v:Bool} (f:(ο b t k).eval c=.bool v) (h:ι P Q mn x (ο b t (.code (if v then a else e)::k)) cs H):ι P Q mn x (ο b t (.code (.cond c a e)::k)) cs H:=by
 refine .to X8 hb (λw=>?_) h;have d:(ο b t (.code (.cond c a e)::k)).eval c=.bool v:=f;unfold stepG.exec;simp only[ο] at d ⊢;rw[d];rfl
theorem ι.exit {l:Nat} {a:List Item} (c:exitTo l k=some a) (h:ι P Q mn x (ο b t a) cs H):ι P Q mn x (ο b t (.code (.exit l)::k)) cs H:=by
 refine .to X8 hb (λw=>?_) h;unfold stepG.exec;simp only[ο,c,Option.elim];rfl
theorem ι.draw {id:Nat} {ops:Array Oper} (h:∀n,ι P Q mn x (ο b t (.inRegion ops (Region.schedule (P.follows .mixedOrders) ops n)::k)) cs H):ι P Q mn x (ο b t (.code (.region id ops true)::k)) cs H:=by
 refine .own X8 λw a=>⟨ο b t (.inRegion ops (Region.schedule (P.follows .mixedOrders) ops (w.tape w.drawn (.order b.fn id)))::k),cs,{w with drawn:=w.drawn+1},#[],H,?_,(Yo.start a).draw _,h _⟩;rw[Vu hb];rfl
theorem ι.ret (a:b.roundOf=none) (h:ι P Q mn x {ο b t (.code .ret::k) with mode:=.returning} cs H):ι P Q mn x (ο b t (.code .ret::k)) cs H:=by
 refine .still X8 (λw=>?_) h;rw[Vu hb];unfold stepG.exec;simp only[ο,a];rfl
theorem ι.P9 (a:b.roundOf=none) (h:ι P Q mn x {ο b t [] with mode:=.returning} cs H):ι P Q mn x (ο b t []) cs H:=by
 refine .still X8 (λw=>?_) h;rw[Vu hb];unfold stepG.exec;simp only[ο,a];rfl
end moves
end
end Go.TL
namespace Go.TL
open Go.Conc
open Go.ConcM (OsLater)
open Go.ConcN (sumTo upd sumTo_upd upd_ne upd_same sumTo_congr le_sumTo)
variable [ZX]
def ZN (t:Array Value):Operand->Value
 | .tmp n=>t.getD n undef
 | .const v=>v
 | .global g=>.pointer (some ⟨g,0,none⟩)
 | .func f=>.func (.func f) #[] #[]
theorem L5 (b:Frame) (t:Array Value) (k:List Item):(ο b t k).eval=ZN t:=by funext o;cases o<;>rfl
def put (o:Oper) (t:Array Value) (v:Value):Array Value:=match o.dst with|some d=>t.setIfInBounds d v|none=>t
def Ex (P:Program) (a:Value->Prop) (mn:Bool) (x:W2) (b:Frame) (t:Array Value) (ops:Array Oper) (i:Nat) (o:Oper) (rest:List Nat) (k:List Item) (cs:List Frame):Next->Χ->Prop
 | .value v,H=>ι P a mn x (ο b (put o t v) (.inRegion ops rest::k)) cs H
 | .skip,H=>ι P a mn x (ο b (put o t undef) (.inRegion ops rest::k)) cs H
 | .enter f args,H=>ι P a mn x (Frame.enter P f args .normal) (ο b t (.inRegion ops (i::rest)::k)::cs) H
 | .round l f c e g,H=>ι P a mn x (Frame.round l f c e g .normal) (ο b t (.inRegion ops (i::rest)::k)::cs) H
 | .defer d,H=>ι P a mn x (ο {b with defers:=d::b.defers} (put o t undef) (.inRegion ops rest::k)) cs H
 | .recover,H=>b.roundOf=none/\match tryRecover (ο b t (.inRegion ops (i::rest)::k)) cs with
  | some (v,cs')=>ι P a mn x (ο b (put o t v) (.inRegion ops rest::k)) cs' H
  | none=>ι P a mn x (ο b (put o t .nilIface) (.inRegion ops rest::k)) cs H
 | _,_=>False
section
variable {P:Program} {Q:Value->Prop} {mn:Bool} {x:W2} {cs:List Frame} {H:Χ} {b f:Frame} {t:Array Value} {k:List Item}
theorem Yo.sub {G0 G:Χ} {w0 w:World} {es es':Array Event} (h:Yo G0 w0 G w es) (a:∀e∈es',e∈es):Yo G0 w0 G w es':=⟨h.fit,h.keeps,h.UM,λe b=>h.Pp e (a e b)⟩
theorem VV {b:Frame} {ops:Array Oper} {i:Nat} {o:Oper} {rest:List Nat} {v:Value} (a:ops[i]?=some o):(ο b t (.inRegion ops (i::rest)::k)).finish v=ο b (put o t v) (.inRegion ops rest::k):=by
 simp only[Frame.finish,ο,a,Option.bind,put];cases o.dst<;>rfl
theorem ι.unwanted (c:Seq x) (d:b.mode=.run) {ops:Array Oper} {i:Nat} {o:Oper} {rest:List Nat} (a:ops[i]?=some o) (e:Region.wanted o (yielded ops t)=false)
  (h:ι P Q mn x (ο b (put o t undef) (.inRegion ops rest::k)) cs H):ι P Q mn x (ο b t (.inRegion ops (i::rest)::k)) cs H:=by
 refine .still c (f':=ο b (put o t undef) (.inRegion ops rest::k)) (cs':=cs) (λw=>?_) h;rw[Vu d,<-VV a];have f:((ops[i]?).map (Region.wanted · (yielded ops t))).getD false=false:=by simp[a,e]
 unfold stepG.exec;simp only[ο,f];rfl
theorem ι.op (D:Seq x) (C:b.mode=.run) {ops:Array Oper} {i:Nat} {o:Oper} {rest:List Nat} (y:ops[i]?=some o) (E:Region.wanted o (yielded ops t)=true) (hd:b.roundOf=none\/∀c,o.op≠.defer c)
  (h:Ψ P (execOp (ZN t) o) H (Ex P Q mn x b t ops i o rest k cs) (λv H'=>ι P Q mn x {ο b t (.inRegion ops (i::rest)::k) with mode:=.panicking [{v,recovered:=false}]} cs H')) :
  ι P Q mn x (ο b t (.inRegion ops (i::rest)::k)) cs H:=by
 refine .own D λw F=>?_;obtain⟨H',w',es',n,I⟩:=Ψ.sound (P:=P) (G0:=H) (w0:=w) (execOp (ZN t) o) h (Yo.start F);have J:stepG P mn (Go.Conc.G (ο b t (.inRegion ops (i::rest)::k)) cs) w=stepG.apply P true (ο b t (.inRegion ops (i::rest)::k)) cs none (execOp (ZN t) o) w:=by
  rw[Vu C];have K:((ops[i]?).map (Region.wanted · (yielded ops t))).getD false=true:=by simp[y,E]
  have A:(ο b t (.inRegion ops (i::rest)::k)).oper?=some o:=by simp[Frame.oper?,ο,y]
  unfold stepG.exec;simp only[ο,K,if_true];simp only[ο] at A;unfold stepG.oper;simp only[A];rcases hd with hd|hd
  .simp only[hd];rw[<-L5 b t (.inRegion ops (i::rest)::k)];rfl
  .cases O:b.roundOf with
   | none=>rw[<-L5 b t (.inRegion ops (i::rest)::k)];rfl
   | some l=>
    cases L:o.op<;>first|exact absurd L (hd _)|(simp only;rw[<-L5 b t (.inRegion ops (i::rest)::k)];rfl)
 rw[J];generalize g:(if(ο b t (.inRegion ops (i::rest)::k)).kind==.early then #[] else es')=j;have p:∀e∈seen P b.fn j,e∈es':=λe A=>by
  have:=mem_seen A;rw[<-g] at this;split at this
  .simp at this
  .exact this
 have B:∀v,(ο b t (.inRegion ops (i::rest)::k)).finish v=ο b (put o t v) (.inRegion ops rest::k):=λv=>VV y;rcases I with⟨M,m,a⟩|⟨v,m,N⟩
 .cases M<;>first|exact a.elim|skip
  case value v=>exact⟨_,_,w',seen P b.fn j,H',by unfold stepG.apply;simp only[m,if_true];rw[g,B];simp[GStep.after,Go.Conc.G,ο],n.sub p,a⟩
  case skip=>exact⟨_,_,w',seen P b.fn j,H',by unfold stepG.apply;simp only[m,if_true];rw[g,B];simp[GStep.after,Go.Conc.G,ο],n.sub p,a⟩
  case enter f args=>exact⟨_,_,w',seen P b.fn j,H',by unfold stepG.apply;simp only[m,if_true];rw[g];simp[GStep.after,Go.Conc.G,ο],n.sub p,a⟩
  case round l f R S T=>exact⟨_,_,w',seen P b.fn j,H',by unfold stepG.apply;simp only[m,if_true];rw[g];simp[GStep.after,Go.Conc.G,ο],n.sub p,a⟩
  case defer d=>exact⟨_,_,w',seen P b.fn j,H',by unfold stepG.apply;simp only[m,if_true];rw[g];simp[GStep.after,Go.Conc.G,Frame.finish,ο,put,y];cases o.dst<;>rfl,n.sub p,a⟩
  case recover=>
   obtain⟨u,a⟩:=a;cases s:tryRecover (ο b t (.inRegion ops (i::rest)::k)) cs with
   | none=>
    rw[s] at a;exact⟨_,_,w',seen P b.fn j,H',by unfold stepG.apply;simp only[m,if_true];rw[g,B];simp only[ο] at s ⊢;simp only[u];rw[u] at s;rw[s];simp[GStep.after,Go.Conc.G],n.sub p,a⟩
   | some r=>
    obtain⟨v,cs'⟩:=r;rw[s] at a;exact⟨_,_,w',seen P b.fn j,H',by unfold stepG.apply;simp only[m,if_true];rw[g];simp only[ο] at s ⊢;simp only[u];rw[u] at s;rw[s];simp[GStep.after,Go.Conc.G];(have e:=B v;simp only[ο,u] at e;exact e),n.sub p,a⟩
 .exact⟨_,_,w',seen P b.fn j,H',by unfold stepG.apply;simp only[m,if_true];rw[g];simp[GStep.after,Go.Conc.G,Frame.raise,ο,C],n.sub p,N⟩
end
section
variable {P:Program} {Q:Value->Prop} {mn:Bool} {x:W2} {cs rest:List Frame} {H:Χ} {b f c:Frame} {t:Array Value} {k:List Item} {fn:Func}
theorem Nt (a:f.mode≠.run) (w:World):stepG P mn (Go.Conc.G f cs) w=unwind P mn f cs none w:=by
 obtain⟨c,d,e,g,b,h,i⟩:=f;cases b with
 | run=>exact absurd rfl a
 | returning=>rfl
 | panicking j=>rfl
theorem ι.back (g:Seq x) (b:f.mode=.returning) (hd:f.defers=[]) (a:f.kind=.normal\/f.kind=.wrapped) (i:P.funcs[f.fn]?=some fn)
  (h:Ψ P (results fn f.tmps) H (λv H'=>ι P Q mn x (c.finish v) rest H') (λ_ _=>False)):ι P Q mn x f (c::rest) H:=by
 refine .own g λw j=>?_;obtain⟨H',w',es',k,l⟩:=Ψ.sound (P:=P) (G0:=H) (w0:=w) (results fn f.tmps) h (Yo.start j);rcases l with⟨v,d,m⟩|⟨v,d,n⟩
 .refine⟨_,_,w',seen P f.fn es',H',?_,k.sub λe o=>mem_seen o,m⟩;rw[Nt (by rw[b];simp)];unfold unwind;simp only[hd,b,i,d];unfold doReturn;rcases a with a|a<;>simp[a,GStep.after,Go.Conc.G]
 .exact n.elim
theorem ι.Hp (d:Seq x) (a:f.mode=.returning) (hd:f.defers=[]) (g:f.kind=.deferred) (i:P.funcs[f.fn]?=some fn)
  (h:Ψ P (results fn f.tmps) H (λ_ H'=>ι P Q mn x (match c.mode with
   | .panicking ({recovered:=true,..}::j)=>(match j.dropWhile (!·.goexit) with|[]=>{c with mode:=.returning}|r=>{c with mode:=.panicking r})
   | _=>c) rest H') (λ_ _=>False)):ι P Q mn x f (c::rest) H:=by
 refine .own d λw k=>?_;obtain⟨H',w',es',l,m⟩:=Ψ.sound (P:=P) (G0:=H) (w0:=w) (results fn f.tmps) h (Yo.start k);rcases m with⟨v,b,n⟩|⟨v,b,o⟩
 .refine⟨_,_,w',seen P f.fn es',H',?_,l.sub λe p=>mem_seen p,n⟩;rw[Nt (by rw[a];simp)];unfold unwind;simp only[hd,a,i,b];unfold doReturn;simp only[g,GStep.after];rw[OL];rfl
 .exact o.elim
theorem ι.deferred (m:Seq x) (n:f.mode≠.run) {d:Deferred} {ds:List Deferred} (hd:f.defers=d::ds) (k:∀r,d.target≠.collected r) (e:d.target≠.nil) {g:FuncId} {args:Array Value}
  (l:∀w,(invoke d.target d.args).runT P w #[]=(.ok (.enter g args) w,#[])) (h:ι P Q mn x (Frame.enter P g args .deferred) ({f with defers:=ds}::cs) H):ι P Q mn x f cs H:=by
 refine .still m (λw=>?_) h;rw[Nt n];unfold unwind;obtain⟨i,as9⟩:=d;simp only at k e l;have j:callDeferred P {f with defers:=ds} cs none ⟨i,as9⟩ w=.go (Go.Conc.G (Frame.enter P g args .deferred) ({f with defers:=ds}::cs)) w #[]:=by
  unfold callDeferred;simp only[l w];cases i<;>first|exact absurd rfl e|(simp[GStep.after,seen,Go.Conc.G])
 cases i with
 | collected r=>exact absurd rfl (k r)
 | fn a b=>simp only[hd];exact j
 | nil=>exact absurd rfl e
 | builtin a b c d=>simp only[hd];exact j
 | coroexit c=>simp only[hd];exact j
theorem ι.raised (d:Seq x) {a:List PanicEntry} (b:f.mode=.panicking a) (hd:f.defers=[]) (e:f.catches P=false) (h:ι P Q mn x (c.raise a) rest H):ι P Q mn x f (c::rest) H:=by
 refine .still d (λw=>?_) h;rw[Nt (by rw[b];simp)];unfold unwind;simp only[hd,b,e];rfl
theorem ι.done (d:Seq x) (g:∀y,x y->∀s,W9 (y.tok s)) (h:∀y,x y->y.deaf=0) (c:f.mode=.returning) (hd:f.defers=[]) (i:f.kind=.normal) (j:P.funcs[f.fn]?=some fn) (k:P.inits.idxOf? f.fn=none) {v:Value}
  (a:results fn f.tmps=pure v) (l:Q v):ι P Q true x f [] H:=by
 intro y b;refine Goes.stop (λa=>by rw[show({y with G:=H}:ZZ).rel=y.rel from rfl,d.rel y b] at a;cases a) (.inl ⟨rfl,⟨rfl,rfl⟩,g y b,h y b,λw n=>⟨v,#[],?_,λe m=>by simp at m,l⟩⟩);rw[Nt (by rw[c];simp)];unfold unwind;simp only[hd,c,j,a];have:(pure v:Sem Value).runT P w #[]=(.ok v w,#[]):=rfl;simp only[this];unfold doReturn;simp[i,GStep.after,seen,k]
end
end Go.TL
namespace Go.TL
open Go.Conc
inductive Ω where
 | z (v:Value)
 | Θ (cells:List Ω)
 | sl (ex:Bool) (k:Nat) (l:List Ω)
 | ZT (l:List Ω)
 | ZW (l:List Ω)
 | Κ (id n i j:Nat)
 | ms (id n i len:Nat)
 | fn (f:Fn) (first captured:List Ω)
 | Xe (t:TypeId) (a:Ω)
 | mp (id:Nat)
 | it (id:Nat)
 | Zl
 deriving Inhabited
abbrev κ:=List Ω
def Ω.cells:Ω->κ
 | .ZT l=>l
 | a=>[a]
inductive Row where
 | cells (t:TypeId) (k:Nat) (l:κ)
 | map (es:List (Ω×Ω))
 | iter (m:Nat) (left:List (Ω×Ω)) (a:Option (Ω×Ω))
 | dead
 deriving Inhabited
abbrev Ο:=List Row
def Row.WB (r:Row) (n:Nat):Prop:=match r with|.cells _ _ l=>n<l.length|_=>True
abbrev Z8:=List (Option (Nat×Nat))
abbrev μ:=Nat->Nat->Option Value
inductive π (S:μ) (B:Z8) (σ:Ο):Ω->Value->Prop where
 | z (v:Value):π S B σ (.z v) v
 | Θ {cells:κ} (b o:Nat) (w:Nat->Value):(∀(j:Nat) (a:Ω),cells[j]?=some a->S b (o+j)=some (w j))->(∀(j:Nat) (a:Ω),cells[j]?=some a->π S B σ a (w j))->π S B σ (.Θ cells) (.pointer (some ⟨b,o,none⟩))
 | Wo {ex:Bool} {k:Nat} (base:Option Addr) (cap:Nat):(ex=true->cap=0)->π S B σ (.sl ex k []) (.slice base 0 cap)
 | sl {ex:Bool} {k:Nat} {l:κ} (b o cap:Nat) (w:Nat->Nat->Value):(ex=true->cap=l.length)->l.length<=cap->(∀(i:Nat) (e:Ω),l[i]?=some e->e.cells.length=k)->
   (∀(i:Nat) (e:Ω),l[i]?=some e->∀(j:Nat) (c:Ω),e.cells[j]?=some c->S b (o+i*k+j)=some (w i j))->(∀(i:Nat) (e:Ω),l[i]?=some e->∀(j:Nat) (c:Ω),e.cells[j]?=some c->π S B σ c (w i j))->π S B σ (.sl ex k l) (.slice (some ⟨b,o,none⟩) l.length cap)
 | ZT {l:κ} (vs:Array Value):l.length=vs.size->(∀(i:Nat) (a:Ω) (v:Value),l[i]?=some a->vs[i]?=some v->π S B σ a v)->π S B σ (.ZT l) (.agg vs)
 | ZW {l:κ} (vs:Array Value):l.length=vs.size->(∀(i:Nat) (a:Ω) (v:Value),l[i]?=some a->vs[i]?=some v->π S B σ a v)->π S B σ (.ZW l) (.tuple vs)
 | Κ {id n i j k:Nat} {t:TypeId} {l:κ} {b N:Nat}:σ[id]?=some (.cells t k l)->l.length=n->B[id]?=some (some (b,N))->π S B σ (.Κ id n i j) (.pointer (some ⟨b,i*k+j,none⟩))
 | Ve {id n i j:Nat} {r:Row} (v:Value):σ[id]?=some r->r.WB n->π S B σ (.Κ id n i j) v
 | ms {id n i len:Nat} {t:TypeId} {k:Nat} {l:κ} {bo:Option (Nat×Nat)} {base:Option Addr} (cap:Nat):σ[id]?=some (.cells t k l)->l.length=n->B[id]?=some bo->i+len<=n->len<=cap->
   (cap=0\/∃b N,bo=some (b,N)/\base=some ⟨b,i*k,none⟩/\(i+cap)*k<=N)->π S B σ (.ms id n i len) (.slice base len cap)
 | Vt {id n i len:Nat} {r:Row} (v:Value):σ[id]?=some r->r.WB n->π S B σ (.ms id n i len) v
 | fn {f:Fn} {d cs:κ} (vs g:Array Value):d.length=vs.size->cs.length=g.size->(∀(i:Nat) (a:Ω) (v:Value),d[i]?=some a->vs[i]?=some v->π S B σ a v)->(∀(i:Nat) (a:Ω) (v:Value),cs[i]?=some a->g[i]?=some v->π S B σ a v)->π S B σ (.fn f d cs) (.func f vs g)
 | Xe {t:TypeId} {a:Ω} (v:Value):π S B σ a v->π S B σ (.Xe t a) (.iface t v)
 | mp {id:Nat} {es:List (Ω×Ω)} {b N:Nat}:σ[id]?=some (.map es)->B[id]?=some (some (b,N))->π S B σ (.mp id) (.map (some b))
 | Uf {id:Nat} (v:Value):σ[id]?=some .dead->π S B σ (.mp id) v
 | it {id m:Nat} {left:List (Ω×Ω)} {h:Option (Ω×Ω)} {b N:Nat}:σ[id]?=some (.iter m left h)->B[id]?=some (some (b,N))->π S B σ (.it id) (.pointer (some ⟨b,0,none⟩))
 | Tg {id:Nat} (v:Value):σ[id]?=some .dead->π S B σ (.it id) v
 | Zl (v:Value):π S B σ .Zl v
def Row.to (r r':Row) (b a:Option (Option (Nat×Nat))):Prop:=
 match r with
 | .cells t k l=>(∃c,r'=.cells t k c/\c.length=l.length/\a=b)\/∀n,n<=l.length->r'.WB n
 | .map _=>(∃es',r'=.map es'/\a=b)\/r'=.dead
 | .iter m _ _=>(∃d e,r'=.iter m d e/\a=b)\/r'=.dead
 | .dead=>r'=.dead
structure Zx (S a:μ) (B B':Z8) (σ σ':Ο):Prop where
 YO:∀b o v,S b o=some v->a b o=some v
 rows:∀(id:Nat) (r:Row),σ[id]?=some r->∃r':Row,σ'[id]?=some r'/\r.to r' B[id]? B'[id]?
theorem Row.P8 (r:Row) (b:Option (Option (Nat×Nat))):r.to r b b:=by
 cases r with
 | cells t k l=>exact .inl ⟨l,rfl,rfl,rfl⟩
 | map es=>exact .inl ⟨es,rfl,rfl⟩
 | iter m l c=>exact .inl ⟨l,c,rfl,rfl⟩
 | dead=>rfl
theorem Zx.refl (S:μ) (B:Z8) (σ:Ο):Zx S S B B σ σ:=⟨λ_ _ _ h=>h,λ_ r h=>⟨r,h,r.P8 _⟩⟩
theorem Row.Ho {r r':Row} {b d:Option (Option (Nat×Nat))} {n:Nat} (h:r.to r' b d) (a:r.WB n):r'.WB n:=by
 cases r with
 | cells t k l=>
  rcases h with⟨e,rfl,f,_⟩|h
  .simp only[Row.WB] at a ⊢;omega
  .exact h n (Sr a)
 | map es=>rcases h with⟨es',rfl,_⟩|rfl<;>trivial
 | iter m l c=>rcases h with⟨e,c',rfl,_⟩|rfl<;>trivial
 | dead=>cases h;trivial
theorem Row.zA {r r' a:Row} {b d f:Option (Option (Nat×Nat))} (h:r.to r' b d) (k:r'.to a d f):r.to a b f:=by
 cases r with
 | cells t e l=>
  rcases h with⟨i,rfl,j,rfl⟩|h
  .rcases k with⟨o,rfl,p,rfl⟩|k
   .exact .inl ⟨o,rfl,p.trans j,rfl⟩
   .exact .inr λn g=>k n U
  .exact .inr λn g=>Row.Ho k (h n g)
 | map es=>
  rcases h with⟨es',rfl,rfl⟩|rfl
  .exact k
  .cases k;exact .inr rfl
 | iter m l c=>
  rcases h with⟨i,c',rfl,rfl⟩|rfl
  .exact k
  .cases k;exact .inr rfl
 | dead=>cases h;exact k
theorem Zx.trans {S a c:μ} {B B' d:Z8} {σ σ' e:Ο} (h:Zx S a B B' σ σ') (k:Zx a c B' d σ' e):Zx S c B d σ e:=
 ⟨λb o v x=>k.YO b o v (h.YO b o v x),λid r f=>by
  obtain⟨r',g,i⟩:=h.rows id r f;obtain⟨j,l,m⟩:=k.rows id r' g;exact⟨j,l,Row.zA i m⟩⟩
theorem π.later {S t:μ} {B B':Z8} {σ σ':Ο} (k:Zx S t B B' σ σ') {a:Ω} {v:Value} (h:π S B σ a v):π t B' σ' a v:=by
 induction h with
 | z v=>exact .z v
 | Θ b o w d _ l=>exact .Θ b o w (λj a p=>k.YO _ _ _ (d j a p)) l
 | Wo base cap h=>exact .Wo base cap h
 | sl b o cap w d g n r _ l=>exact .sl b o cap w d g n (λi e hi j c p=>k.YO _ _ _ (r i e hi j c p)) l
 | ZT vs d _ l=>exact .ZT vs d l
 | ZW vs d _ l=>exact .ZW vs d l
 | Κ d g n=>
  obtain⟨r',f,Φ⟩:=k.rows _ _ d;rcases Φ with⟨u,rfl,s,m⟩|Φ
  .exact .Κ f (s.trans g) (by rw[m];exact n)
  .exact .Ve _ f (Φ _ U)
 | Ve v d g=>
  obtain⟨r',f,Φ⟩:=k.rows _ _ d;exact .Ve _ f (Row.Ho Φ g)
 | ms cap d g n r x y=>
  obtain⟨r',f,Φ⟩:=k.rows _ _ d;rcases Φ with⟨u,rfl,s,m⟩|Φ
  .exact .ms cap f (s.trans g) (by rw[m];exact n) r x y
  .exact .Vt _ f (Φ _ U)
 | Vt v d g=>
  obtain⟨r',f,Φ⟩:=k.rows _ _ d;exact .Vt _ f (Row.Ho Φ g)
 | fn vs A d g _ _ C D=>exact .fn vs A d g C D
 | Xe v _ l=>exact .Xe v l
 | mp d g=>
  obtain⟨r',f,Φ⟩:=k.rows _ _ d;rcases Φ with⟨es',rfl,m⟩|rfl
  .exact .mp f (by rw[m];exact g)
  .exact .Uf _ f
 | Uf v d=>
  obtain⟨r',f,Φ⟩:=k.rows _ _ d;cases Φ;exact .Uf _ f
 | it d g=>
  obtain⟨r',f,Φ⟩:=k.rows _ _ d;rcases Φ with⟨u,c',rfl,m⟩|rfl
  .exact .it f (by rw[m];exact g)
  .exact .Tg _ f
 | Tg v d=>
  obtain⟨r',f,Φ⟩:=k.rows _ _ d;cases Φ;exact .Tg _ f
 | Zl v=>exact .Zl v
def P7 (S:μ) (B:Z8) (σ:Ο) (es:List (Ω×Ω)) (xs:Array MapEntry) (a:Nat):Prop:=
 es.length=xs.size/\(∀(i:Nat) (e:Ω×Ω) (y:MapEntry),es[i]?=some e->xs[i]?=some y->π S B σ e.1 y.key/\π S B σ e.2 y.val/\y.born<a)/\
 ∀(i j:Nat) (y z:MapEntry),xs[i]?=some y->xs[j]?=some z->i<j->y.born<z.born
def J3 (S:μ) (B:Z8) (σ:Ο) (left:List (Ω×Ω)) (c:Option (Ω×Ω)) (xs:Array MapEntry) (d:Nat) (seen:Array Nat):Prop:=
 (∃a:List MapEntry,a=xs.toList.filter (λe=>!seen.contains e.born)/\left.length=a.length/\∀(i:Nat) (e:Ω×Ω) (y:MapEntry),left[i]?=some e->a[i]?=some y->π S B σ e.1 y.key/\π S B σ e.2 y.val)/\
 (∀y∈xs,y.born<d)/\
 ∀e,c=some e->∃b y,seen.back?=some b/\xs.find? (·.born==b)=some y/\π S B σ e.1 y.key/\π S B σ e.2 y.val
def Vd (S:μ) (B:Z8) (σ:Ο) (H:Χ) (r:Row) (bo:Option (Nat×Nat)):Prop:=
 match r with
 | .cells t k l=>match bo with
  | none=>l=[]
  | some (b,N)=>H.row b=some (t,N)/\l.length*k<=N/\(∀o,o<N->∃w,H.θ b o=some (w,true))/\
   ∃w:Nat->Nat->Value,∀(i:Nat) (e:Ω),l[i]?=some e->e.cells.length=k/\∀(j:Nat) (a:Ω),e.cells[j]?=some a->H.θ b (i*k+j)=some (w i j,true)/\π S B σ a (w i j)/\One (w i j)
 | .map es=>∃b N xs c,bo=some (b,N)/\H.obj b=some (.map xs c)/\P7 S B σ es xs c
 | .iter m left f=>∃b N d g xs c seen,bo=some (b,N)/\B[m]?=some (some (d,g))/\(∃es,σ[m]?=some (.map es))/\H.obj b=some (.mapIter (some d) c seen c)/\H.obj d=some (.map xs c)/\J3 S B σ left f xs c seen
 | .dead=>True
def Row.live (r:Row):Prop:=match r with|.dead=>False|_=>True
structure Holds (S:μ) (B:Z8) (σ:Ο) (H:Χ):Prop where
 YO:∀b o v,S b o=some v->∃p,H.θ b o=some (v,p)
 len:B.length=σ.length
 row:∀(id:Nat) (r:Row) (bo:Option (Nat×Nat)),σ[id]?=some r->B[id]?=some bo->Vd S B σ H r bo
 inj:∀(i j:Nat) (a c:Row) (b d e:Nat),i≠j->σ[i]?=some a->σ[j]?=some c->a.live->c.live->B[i]?=some (some (b,d))->B[j]?=some (some (b,e))->False
 sep:∀(id:Nat) (r:Row) (b N:Nat),σ[id]?=some r->r.live->B[id]?=some (some (b,N))->∀o,S b o=none
def Z8.has (B:Z8) (b:Nat):Prop:=∃N,some (b,N)∈B
def Tf (c:μ) (a H:Χ) (b:Nat):Prop:=
 (∀o,H.θ b o=a.θ b o\/∃v p,c b o=some v/\a.θ b o=some (v,p)/\H.θ b o=some (v,false))/\H.row b=a.row b/\H.obj b=a.obj b
theorem Tf.of {c:μ} {a H:Χ} {b:Nat} (h:(∀o,H.θ b o=a.θ b o)/\H.row b=a.row b/\H.obj b=a.obj b):Tf c a H b:=⟨λo=>.inl (h.1 o),h.2⟩
structure Ext (c:μ) (d:Z8) (a:Χ) (S:μ) (B:Z8) (H:Χ):Prop where
 YO:∀b o v,c b o=some v->S b o=some v
 Xf:∀b,¬d.has b->¬a.fresh b->Tf c a H b
 blocks:∀b,B.has b->d.has b\/a.fresh b
 QT:∀b o v,S b o=some v->c b o=some v\/d.has b\/a.fresh b
 grow:∀b,H.fresh b->a.fresh b
theorem Ext.refl (S:μ) (B:Z8) (H:Χ):Ext S B H S B H:=⟨λ_ _ _ h=>h,λ_ _ _=>Tf.of ⟨λ_=>rfl,rfl,rfl⟩,λ_ h=>.inl h,λ_ _ _ h=>.inl h,λ_ h=>h⟩
theorem Ext.trans {j l m:μ} {n d r:Z8} {s f t:Χ} (h:Ext j n s l d f) (k:Ext l d f m r t):Ext j n s m r t:=by
 refine⟨λb o v x=>k.YO b o v (h.YO b o v x),λb a c=>?_,λb a=>?_,λb o v hv=>?_,λb x=>h.grow b (k.grow b x)⟩
 .have g:=h.Xf b a c
  have C:¬f.fresh b:=λx=>c (h.grow b x)
  have D:¬d.has b:=λx=>(h.blocks b x).elim a c
  have Φ:=k.Xf b D C;refine⟨λo=>?_,Φ.2.1.trans g.2.1,Φ.2.2.trans g.2.2⟩;rcases Φ.1 o with x|⟨v,p,w,E,A⟩<;>rcases g.1 o with y|⟨u,q,i,B,F⟩
  .exact .inl (x.trans y)
  .exact .inr ⟨u,q,i,B,x.trans F⟩
  .rcases h.QT b o v w with z|z|z
   .exact .inr ⟨v,p,z,by rw[<-y];exact E,A⟩
   .exact absurd z a
   .exact absurd z c
  .have e:=h.YO b o u i
   have:v=u:=by rw[w] at e;exact Xk e
   subst this;exact .inr ⟨v,q,i,B,A⟩
 .rcases k.blocks b a with x|x
  .exact h.blocks b x
  .exact .inr (h.grow b x)
 .rcases k.QT b o v hv with x|x|x
  .exact h.QT b o v x
  .exact .inr (h.blocks b x)
  .exact .inr (.inr (h.grow b x))
abbrev ω:=List (Nat×Ω)
abbrev Yn:=Ω->ω->Ο->Prop
abbrev X7:=List Item->ω->Ο->Prop
def Z7:ω->Nat->Ω
 | [],_=>.Zl
 |(j,a)::r,i=>if j=i then a else Z7 r i
def YT (S:μ) (B:Z8) (σ:Ο) (env:ω) (t:Array Value):Prop:=∀i,π S B σ (Z7 env i) (t.getD i undef)
theorem YT.later {S a:μ} {B B':Z8} {σ σ':Ο} {env:ω} {t:Array Value} (h:YT S B σ env t) (b:Zx S a B B' σ σ'):YT a B' σ' env t:=λi=>(h i).later b
theorem YT.put {S:μ} {B:Z8} {σ:Ο} {env:ω} {t:Array Value} (h:YT S B σ env t) {d:Nat} (hd:d<t.size) {a:Ω} {v:Value} (b:π S B σ a v):YT S B σ ((d,a)::env) (t.setIfInBounds d v):=by
 intro i;simp only[Z7];split
 .rename_i e;subst e;simpa[WG,hd] using b
 .rename_i e;have:=h i;rw[WG] at this ⊢
  rwa [UR e]
theorem Ew {S:μ} {B:Z8} {σ:Ο} {H:Χ} (a:Holds S B σ H) {id:Nat} {r:Row} (h:σ[id]?=some r):∃bo,B[id]?=some bo:=by
 have:id<B.length:=by rw[a.len];exact(ZA.1 h).1
 exact⟨_,δ this⟩
def Ue:TypeDesc->Bool
 | .struct _|.array _ _=>true
 | _=>false
section
variable {P:Program} {α β:Type} {G:Χ} {E:Value->Χ->Prop}
theorem Ψ.mono {K K':α->Χ->Prop} {E':Value->Χ->Prop} (j:∀a G,K a G->K' a G) (l:∀v G,E v G->E' v G) (s:Sem α):∀{G:Χ},Ψ P s G K E->Ψ P s G K' E':=by
 induction s with
 | pure a=>intro G h;exact j _ _ h
 | load m a k b=>intro G ⟨d,e,v,p,f,g⟩;exact⟨d,e,v,p,f,b v g⟩
 | store m a v k b=>intro G ⟨d,e,f,g,u,w⟩;exact⟨d,e,f,g,u,b w⟩
 | new o k b=>
  intro G h;cases o with
  | cells c t y=>exact⟨h.1,λr i=>b r (h.2 r i)⟩
  | _=>exact λr i=>b r (h r i)
 | shape r k b=>intro G ⟨t,n,d,e⟩;exact⟨t,n,d,b _ e⟩
 | freeze a n k b=>intro G h;exact h.elim
 | frozen a k b=>intro G ⟨d,e⟩;exact⟨d,b _ e⟩
 | getObj r k b=>intro G ⟨o,d,e,f⟩;exact⟨o,d,e,b _ f⟩
 | setObj r o k b=>intro G ⟨d,e,f,g⟩;exact⟨d,e,f,b g⟩
 | choose q k b=>
  intro G h;simp only[Ψ] at h ⊢;split
  .rw[if_pos ‹_›] at h;exact b _ h
  .rw[if_neg ‹_›] at h;exact λn=>b _ (h n)
 | sys c k b=>intro G h;exact h.elim
 | program k b=>intro G h;exact b P h
 | mark m k b=>intro G ⟨d,e⟩;exact⟨d,b e⟩
 | halt x=>
  intro G h;cases x<;>first|exact h.elim|exact l _ _ h
theorem Ψ.bind {f:α->Sem β} {K:β->Χ->Prop} (s:Sem α):∀{G:Χ},Ψ P s G (λa G'=>Ψ P (f a) G' K E) E->Ψ P (s.bind f) G K E:=by
 induction s with
 | pure a=>intro G h;exact h
 | load m a k b=>intro G ⟨d,e,v,p,g,i⟩;exact⟨d,e,v,p,g,b v i⟩
 | store m a v k b=>intro G ⟨d,e,g,i,l,u⟩;exact⟨d,e,g,i,l,b u⟩
 | new o k b=>
  intro G h;cases o with
  | cells c t w=>exact⟨h.1,λr j=>b r (h.2 r j)⟩
  | _=>exact λr j=>b r (h r j)
 | shape r k b=>intro G ⟨t,n,d,e⟩;exact⟨t,n,d,b _ e⟩
 | freeze a n k b=>intro G h;exact h.elim
 | frozen a k b=>intro G ⟨d,e⟩;exact⟨d,b _ e⟩
 | getObj r k b=>intro G ⟨o,d,e,g⟩;exact⟨o,d,e,b _ g⟩
 | setObj r o k b=>intro G ⟨d,e,g,i⟩;exact⟨d,e,g,b i⟩
 | choose q k b=>
  intro G h;simp only[Ψ] at h;simp only[Sem.bind,Ψ];split
  .rw[if_pos ‹_›] at h;exact b _ h
  .rw[if_neg ‹_›] at h;exact λn=>b _ (h n)
 | sys c k b=>intro G h;exact h.elim
 | program k b=>intro G h;exact b P h
 | mark m k b=>intro G ⟨d,e⟩;exact⟨d,b e⟩
 | halt x=>
  intro G h;cases x<;>first|exact h.elim|exact h
theorem Ψ.bind' {f:α->Sem β} {K:β->Χ->Prop} {s:Sem α} (h:Ψ P s G (λa G'=>Ψ P (f a) G' K E) E):Ψ P (s >>= f) G K E:=Ψ.bind s h
theorem Ψ.pure' {a:α} {K:α->Χ->Prop} (h:K a G):Ψ P (pure a) G K E:=h
theorem Ψ.underlying {t:TypeId} {d:TypeDesc} {K:TypeDesc->Χ->Prop} (hd:P.underlying t=some d) (h:K d G):Ψ P (Go.underlying t) G K E:=by
 unfold Go.underlying;refine Ψ.bind' ?_;show Ψ P (match P.underlying t with|some d=>pure d|none=>_) G K E;rw[hd];exact h
theorem Ψ.typeInfo {t:TypeId} {i:TypeInfo} {K:TypeInfo->Χ->Prop} (hi:P.info? t=some i) (h:K i G):Ψ P (Go.typeInfo t) G K E:=by
 unfold Go.typeInfo;refine Ψ.bind' ?_;show Ψ P (match P.info? t with|some i=>pure i|none=>_) G K E;have:P.info? t=some i:=hi;rw[this];exact h
theorem Ψ.sizeOf {t:TypeId} {i:TypeInfo} {K:Nat->Χ->Prop} (hi:P.info? t=some i) (h:K i.size G):Ψ P (Go.sizeOf t) G K E:=by
 unfold Go.sizeOf;exact Ψ.bind' (Ψ.typeInfo hi (Ψ.pure' h))
theorem Ψ.isAgg {t:TypeId} {d:TypeDesc} {K:Bool->Χ->Prop} (hd:P.underlying t=some d) (h:K (Ue d) G):Ψ P (Go.isAgg t) G K E:=by
 unfold Go.isAgg;refine Ψ.bind' (Ψ.underlying hd ?_);cases d<;>exact h
theorem Ψ.zeroValue {t:TypeId} {i:TypeInfo} {v:Value} {K:Value->Χ->Prop} (hi:P.info? t=some i) (a:i.zero=some v) (h:K v G):Ψ P (Go.zeroValue t) G K E:=by
 unfold Go.zeroValue;refine Ψ.bind' (Ψ.typeInfo hi ?_);rw[a];exact h
theorem Ψ.zz {a:Addr} (w:Nat->Value) {K:Array Value->Χ->Prop}:∀(n i:Nat) (b:Array Value),a.spot=none->(∀j,i<=j->j<i+n->∃p,G.θ a.block (a.off+j)=some (w j,p))->K (b++((List.range n).map λj=>w (i+j)).toArray) G->Ψ P (loadCellsFrom a i n b) G K E:=by
 intro n
 induction n with
 | zero=>intro i b _ _ h;simp at h;exact h
 | succ n e=>
  intro i b c d h;unfold loadCellsFrom;refine Ψ.bind' ?_;obtain⟨p,f⟩:=d i (γ _) U;have g:(a.add i).spot=none:=by unfold Addr.add;split<;>simp[c]
  have Φ:(a.add i).block=a.block:=by unfold Addr.add;split<;>rfl
  have k:(a.add i).off=a.off+i:=by unfold Addr.add;split<;>simp_all
  refine⟨rfl,g,w i,p,by rw[Φ,k];exact f,?_⟩;refine e (i+1) (b.push (w i)) c (λj l m=>d j U U) ?_;have:b.push (w i)++((List.range n).map λj=>w (i+1+j)).toArray=b++((List.range (n+1)).map λj=>w (i+j)).toArray:=by
   rw[List.range_succ_eq_map];apply NC;simp[Function.comp_def,UB,OG 1]
  rw[this];exact h
theorem Ψ.loadCells {a:Addr} (w:Nat->Value) {n:Nat} {K:Array Value->Χ->Prop} (b:a.spot=none) (c:∀j,j<n->∃p,G.θ a.block (a.off+j)=some (w j,p)) (h:K ((List.range n).map w).toArray G):Ψ P (Go.loadCells a n) G K E:=by
 unfold Go.loadCells;exact Ψ.zz w n 0 #[] b (λj _ d=>c j U) (by simpa using h)
def Χ.Wn (G:Χ) (b o:Nat) (vs:List Value):Χ:={G with θ:=λa o'=>if a=b/\o<=o'/\o'<o+vs.length then some ((vs[o'-o]?).getD undef,true) else G.θ a o'}
theorem Χ.Hn {H:Χ} {b o:Nat} {vs:List Value}:∀r,(H.Wn b o vs).fresh r->H.fresh r:=
 Χ.Hr (λa o' h=>by
  simp only[Χ.Wn] at h;split at h
  .cases h
  .exact h) (λ_ h=>h) (λ_ h=>h)
theorem Ψ.storeCells {a:Addr} {K:Unit->Χ->Prop} (m:a.spot=none) (o:∃t n,G.row a.block=some (t,n)):∀(vs:List Value) (i:Nat) (G':Χ),(∀v∈vs,One v)->(∀j,i<=j->j<i+vs.length->G'.owns a.block (a.off+j))->(G'.row=G.row)->K () (G'.Wn a.block (a.off+i) vs)->Ψ P (Go.storeCells a vs i) G' K E:=by
 intro vs
 induction vs with
 | nil=>
  intro i G' _ _ _ h;have:G'.Wn a.block (a.off+i) []=G':=by
   unfold Χ.Wn;have:∀b o',¬(b=a.block/\a.off+i<=o'/\o'<a.off+i+([]:List Value).length):=λb o' h=>by simp at h;omega
   simp only[this,if_false]
  rw[this] at h;exact h
 | cons v vs p=>
  intro i G' g k l h;unfold Go.storeCells;refine Ψ.bind' ?_;have r:(a.add i).spot=none:=by unfold Addr.add;split<;>simp[m]
  have Φ:(a.add i).block=a.block:=by unfold Addr.add;split<;>rfl
  have d:(a.add i).off=a.off+i:=by unfold Addr.add;split<;>simp_all
  refine⟨rfl,r,by rw[Φ,d];exact k i (γ _) I,by rw[Φ,l];exact o,g v I,?_⟩;refine p (i+1) _ (λv hv=>g v (by simp[hv])) (λj e f=>?_) l ?_
  .obtain⟨u,s⟩:=k j U (by simp;omega);refine⟨u,?_⟩;simp only[Χ.Om,Φ,d];rw[if_neg U];exact s
  .have:(G'.Om (a.add i) v).Wn a.block (a.off+(i+1)) vs=G'.Wn a.block (a.off+i) (v::vs):=by
    unfold Χ.Wn Χ.Om;simp only[Φ,d];congr 1
    funext b o'
    by_cases c:b=a.block
    .subst c;by_cases e:o'=a.off+i
     .subst e;rw[if_neg U,if_pos ⟨rfl,rfl⟩,if_pos ⟨rfl,U,I⟩];simp
     .by_cases f:a.off+(i+1)<=o'/\o'<a.off+(i+1)+vs.length
      .rw[if_pos ⟨rfl,f⟩,if_pos ⟨rfl,U,by simp;omega⟩];have:o'-(a.off+i)=(o'-(a.off+(i+1)))+1:=U;rw[this,List.getElem?_cons_succ]
      .rw[if_neg (by intro x;exact f x.2),if_neg (by intro x;exact e x.2),if_neg (by intro x;simp at x;omega)]
    .rw[if_neg (λx=>c x.1),if_neg (λx=>c x.1),if_neg (λx=>c x.1)]
   rw[this];exact h
end
end Go.TL
