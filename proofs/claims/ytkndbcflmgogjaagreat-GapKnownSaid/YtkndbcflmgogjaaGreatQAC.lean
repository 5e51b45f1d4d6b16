import Derived.Test.YtkndbcflmgogjaaGreatQAB
set_option maxHeartbeats 16000000
set_option maxRecDepth 20000
set_option linter.unusedSectionVars false
set_option linter.unusedSimpArgs false
set_option linter.unusedVariables false
namespace Go.TL
open Go.Conc
open Go.ConcM (OsLater)
open Go.ConcN (sumTo upd sumTo_upd upd_ne upd_same sumTo_congr le_sumTo)
def Υ.fresh (G:Υ) (r:Nat):Prop:=(∀o,G.ω r o=none)/\G.row r=none/\G.obj r=none/\∀b,r<b->(∀o,G.ω b o=none)/\G.row b=none/\G.obj b=none
def Υ.Ru (G:Υ) (a:Addr) (v:Value):Υ:={G with ω:=λb o=>if b=a.block/\o=a.off then some (v,true) else G.ω b o}
def Υ.YH (G:Υ) (r:Nat) (c:ν) (t:TypeId):Υ:=⟨λb o=>if b=r then(c[o]?).map (·,true) else G.ω b o,λb=>if b=r then some (t,c.size) else G.row b,G.obj⟩
def Υ.Zq (G:Υ) (r:Nat) (x:Obj):Υ:={G with obj:=λb=>if b=r then some x else G.obj b}
def Υ.Se (G:Υ) (r:Nat):Υ:={G with ω:=λb o=>if b=r then(G.ω b o).map λx=>(x.1,false) else G.ω b o}
def One:Value->Prop
 | .agg _|.tuple _=>False
 | _=>True
def Χ {b:Type} (P:Program):Sem b->Υ->(b->Υ->Prop)->(Value->Υ->Prop)->Prop
 | .pure a,G,K,_=>K a G
 | .load m a k,G,K,E=>m=m/\a.spot=none/\∃v p,G.ω a.block a.off=some (v,p)/\Χ P (k v) G K E
 | .store m a v k,G,K,E=>m=m/\a.spot=none/\G.owns a.block a.off/\(∃t n,G.row a.block=some (t,n))/\One v/\Χ P k (G.Ru a v) K E
 | .new (.cells c t d) k,G,K,E=>d=(0,0)/\∀r,G.fresh r->Χ P (k r) (G.YH r c t) K E
 | .new o k,G,K,E=>∀r,G.fresh r->Χ P (k r) (G.Zq r o) K E
 | .shape r k,G,K,E=>∃t n,G.row r=some (t,n)/\Χ P (k (some (t,n))) G K E
 | .freeze a _ k,G,K,E=>(∃t n,G.row a.block=some (t,n)/\0<n/\∀o,o<n->G.owns a.block o)/\Χ P k (G.Se a.block) K E
 | .frozen a k,G,K,E=>G.owns a.block a.off/\Χ P (k false) G K E
 | .getObj r k,G,K,E=>∃o,G.obj r=some o/\o.isChan=false/\Χ P (k o) G K E
 | .setObj r o k,G,K,E=>G.XI r/\Obj.Pd o=false/\o.isChan=false/\Χ P k (G.Zq r o) K E
 | .choose q k,G,K,E=>if q.forced then Χ P (k 0) G K E else ∀n,Χ P (k (q.cut n)) G K E
 | .sys _ _,_,_,_=>False
 | .program k,G,K,E=>Χ P (k P) G K E
 | .mark m k,G,K,E=>(m=.noRoom\/∃f,m=.extern f)/\Χ P k G K E
 | .halt (.panic v),G,_,E=>E v G
 | .halt _,_,_,_=>False
structure Yy (G0:Υ) (w0:World) (G:Υ) (w:World) (es:Array Event):Prop where
 fit:Fits G w
 keeps:Xp G0.owns G0.XI w0 w
 Vm:IG G0 G w0.heap.size
 O6:∀e∈es,Wl G0 w0.heap.size w.heap.size e
theorem Yy.start {G:Υ} {w:World} (h:Fits G w):Yy G w G w #[]:=
 ⟨h,Xp.refl _ _ _,⟨λb o v p h=>.inr ⟨v,p,h,id⟩,λb h=>.inr h⟩,λe a=>by simp at a⟩
section
variable {G0 G:Υ} {w0 w:World} {es:Array Event}
theorem Fits.bare (h:Fits G w) {b:Nat} (d:w.heap.size<=b):(∀o,G.ω b o=none)/\G.row b=none/\G.obj b=none:=by
 refine⟨λo=>?_,?_,?_⟩
 .cases a:G.ω b o with
  | none=>rfl
  | some x=>obtain⟨c,t,e,d,_⟩:=Tm (h.ω _ _ x.1 x.2 a);have:=XY d;omega
 .cases a:G.row b with
  | none=>rfl
  | some x=>obtain⟨c,_,d,_⟩:=h.row _ x.1 x.2 a;have:=XY d;omega
 .cases a:G.obj b with
  | none=>rfl
  | some x=>have:=XY (h.obj _ x a).1;omega
theorem Fits.fresh (h:Fits G w):G.fresh w.heap.size:=
 ⟨(h.bare (ZY _)).1,(h.bare (ZY _)).2.1,(h.bare (ZY _)).2.2,λ_ a=>h.bare (RG a)⟩
theorem Υ.It {H H':Υ} (c:∀b o,H'.ω b o=none->H.ω b o=none) (d:∀b,H'.row b=none->H.row b=none) (e:∀b,H'.obj b=none->H.obj b=none) (r:Nat) (h:H'.fresh r):H.fresh r:=
 ⟨λo=>c _ _ (h.1 o),d _ h.2.1,e _ h.2.2.1,λb a=>⟨λo=>c _ _ ((h.2.2.2 b a).1 o),d _ (h.2.2.2 b a).2.1,e _ (h.2.2.2 b a).2.2⟩⟩
theorem Υ.FF {H:Υ} {r:Nat} (a:H.fresh r) (c:ν) (t:TypeId):∀b,(H.YH r c t).fresh b->H.fresh b:=
 Υ.It (λb o h=>by
  by_cases e:b=r
  .subst e;exact a.1 o
  .simpa[Υ.YH,e] using h) (λb h=>by
  by_cases e:b=r
  .subst e;exact a.2.1
  .simpa[Υ.YH,e] using h) (λb h=>h)
theorem Υ.Ks {H:Υ} {r:Nat} {x:Obj}:∀b,(H.Zq r x).fresh b->H.fresh b:=
 Υ.It (λb o h=>h) (λb h=>h) (λb h=>by
  by_cases e:b=r
  .subst e;simp[Υ.Zq] at h
  .simpa[Υ.Zq,e] using h)
theorem Wl.mono {n b c:Nat} {e:Event} (h:Wl G n b e) (f:b<=c):Wl G n c e:=by
 obtain⟨d,wr,g⟩:=e;cases d with
 | cell a=>exact h.imp (λx=>⟨x.1,I⟩) id
 | obj r=>exact⟨h.1,h.2.imp (λx=>⟨x.1,I⟩) id⟩
 | _=>exact h
theorem Yy.read (h:Yy G0 w0 G w es) {a:Addr} {s:Bool} {v:Value} {p:Bool} (g:a.spot=none) (d:G.ω a.block a.off=some (v,p)):w.cell? a=some v/\Yy G0 w0 G w (es.push ⟨.cell a,false,s⟩):=by
 obtain⟨b,o,sp⟩:=a;simp only at g d;subst g;have hv:=h.fit.ω b o v p d;refine⟨hv,h.fit,h.keeps,h.Vm,λe f=>?_⟩;rcases Nt.1 f with f|rfl
 .exact h.O6 e f
 .rcases h.Vm.ω b o v p d with i|⟨l,m,j,_⟩
  .obtain⟨c,t,n,k,_⟩:=Tm hv;exact .inl ⟨i,XY k⟩
  .exact .inr ⟨U,_,j⟩
theorem heap_setCell {a:Addr} {v:Value} {c:ν} {t:TypeId} {f:Nat×Nat} (g:a.spot=none) (d:w.heap[a.block]?=some (.cells c t f)):(w.setCell a v).heap=w.heap.setIfInBounds a.block (.cells (c.setIfInBounds a.off v) t f):=by
 obtain⟨b,o,sp⟩:=a;simp only at g d;subst g;have h:=XY d;simp only[World.setCell];apply L';intro j;rw[KR];by_cases e:b=j
 .subst e;rw[Ts h,if_pos U,d];simp
 .rw[UK e,if_neg e]
theorem xC {a:Addr} {v:Value} {c:ν} {t:TypeId} {d:Nat×Nat} (f:a.spot=none) (b:w.heap[a.block]?=some (.cells c t d)) (x:Addr):(w.setCell a v).frozen? x=w.frozen? x:=by
 have g:=heap_setCell (v:=v) f b;unfold World.frozen?;rw[g];by_cases e:a.block=x.block
 .rw[<-e,Ts (XY b),b]
 .rw[UK e]
theorem Yy.write (h:Yy G0 w0 G w es) {a:Addr} {s:Bool} {v:Value} (M:a.spot=none) (N:G.owns a.block a.off):(∃u,w.cell? a=some u)/\Yy G0 w0 (G.Ru a v) (w.setCell a v) (es.push ⟨.cell a,true,s⟩):=by
 obtain⟨b,o,sp⟩:=a;simp only at M N;subst M;obtain⟨u,p⟩:=N;have hv:=h.fit.ω b o u true p;obtain⟨c,t,Z,k,aa⟩:=Tm hv;have O:=XY k;have D:=heap_setCell (w:=w) (a:=⟨b,o,none⟩) (v:=v) U k;have P:(w.setCell ⟨b,o,none⟩ v).heap.size=w.heap.size:=by rw[D];simp
 have r:(w.setCell ⟨b,o,none⟩ v).heap[b]?=some (.cells (c.setIfInBounds o v) t Z):=by rw[D,Ts O]
 have m:∀j,b≠j->(w.setCell ⟨b,o,none⟩ v).heap[j]?=w.heap[j]?:=λj ab=>by rw[D,UK ab]
 have ad:o<c.size:=(Tr.1 aa).1
 have Q:b<w0.heap.size->G0.owns b o:=λy=>by
  rcases h.Vm.ω b o u true p with A|⟨E,R,F,H⟩
  .omega
  .exact⟨E,by rw[F,H U]⟩
 refine⟨⟨u,hv⟩,⟨λd o' n I f=>?_,λd t' ae af=>?_,λd x B=>?_,λd o' n f=>?_⟩,⟨by rw[P];exact h.keeps.size,λd c' t' ag C=>?_,λd x C B A=>?_,h.keeps.os,h.keeps.output,h.keeps.tape⟩,⟨λd o' n I f=>?_,h.Vm.obj⟩,λe J=>?_⟩
 .simp only[Υ.Ru] at f;by_cases e:d=b/\o'=o
  .obtain⟨rfl,rfl⟩:=e;rw[if_pos ⟨U,rfl⟩] at f;cases f;exact Tl r (by rw[Ts ad])
  .rw[if_neg e] at f;have:=h.fit.ω d o' n I f;by_cases g:d=b
   .subst g;have K:o≠o':=λx=>e ⟨U,x.symm⟩;obtain⟨c2,t2,ah,i,L⟩:=Tm this;rw[k] at i;cases i;exact Tl r (by rw[UK K];exact L)
   .obtain⟨c2,t2,ah,i,L⟩:=Tm this;exact Tl (by rw[m d (YV g)];exact i) L
 .obtain⟨c2,f2,i,S⟩:=h.fit.row d t' ae af;by_cases g:d=b
  .subst g;rw[k] at i;cases i;exact⟨_,_,r,by simpa using S⟩
  .exact⟨c2,f2,by rw[m d (YV g)];exact i,S⟩
 .obtain⟨i,T⟩:=h.fit.obj d x B;have g:b≠d:=λe=>by subst e;rw[k] at i;cases i;cases T
  exact⟨by rw[m d g];exact i,T⟩
 .rw[xC (a:=⟨b,o,none⟩) U k];simp only[Υ.Ru] at f;by_cases e:d=b/\o'=o
  .rw[e.1,e.2];exact h.fit.thaw b o u p
  .rw[if_neg e] at f;exact h.fit.thaw d o' n f
 .obtain⟨c2,f2,l,V,W,X⟩:=h.keeps.cells d c' t' ag C;by_cases g:d=b
  .subst g;rw[k] at l;cases l;refine⟨_,_,r,by simpa using V,λo' Y=>?_,X⟩;have K:o≠o':=λe=>by subst e;exact Y (Q (XY C))
   rw[UK K];exact W o' Y
  .exact⟨c2,f2,by rw[m d (YV g)];exact l,V,W,X⟩
 .have l:=h.keeps.Tn d x C B A
  have g:b≠d:=λe=>by subst e;rw[k] at l;cases l;cases B
  rw[m d g];exact l
 .simp only[Υ.Ru] at f;by_cases e:d=b/\o'=o
  .obtain⟨rfl,rfl⟩:=e;rw[if_pos ⟨U,rfl⟩] at f;cases f;rcases h.Vm.ω _ _ _ _ p with A|⟨E,R,F,H⟩
   .exact .inl A
   .exact .inr ⟨E,R,F,H⟩
  .rw[if_neg e] at f;exact h.Vm.ω d o' n I f
 .rw[P];rcases Nt.1 J with J|rfl
  .exact h.O6 e J
  .rcases Ns b w0.heap.size with y|y
   .refine .inr ⟨U,?_⟩;exact Q y
   .exact .inl ⟨y,O⟩
theorem LZ {x:Obj} {j:Nat} (a:j<w.heap.size):(w.heap.push x)[j]?=w.heap[j]?:=by
 rw[Mb,if_neg I]
theorem Is {x:Obj}:(w.heap.push x)[w.heap.size]?=some x:=Ω
theorem Yy.new (h:Yy G0 w0 G w es) {x:Obj} {G':Υ} (i:∀b o,b≠w.heap.size->G'.ω b o=G.ω b o) (m:∀b,b≠w.heap.size->G'.row b=G.row b) (k:∀b,b≠w.heap.size->G'.obj b=G.obj b)
  (g:Fits {ω:=λb o=>if b=w.heap.size then G'.ω b o else none,row:=λb=>if b=w.heap.size then G'.row b else none,obj:=λb=>if b=w.heap.size then G'.obj b else none} {w with heap:=w.heap.push x}) :
  Yy G0 w0 G' {w with heap:=w.heap.push x} es:=by
 have J:=h.keeps.size;refine⟨⟨λb o v p a=>?_,λb t n a=>?_,λb y a=>?_,λb o v a=>?_⟩,⟨by simp;omega,λb c t r a=>?_,λb y a j s=>?_,h.keeps.os,h.keeps.output,h.keeps.tape⟩,⟨λb o v p a=>?_,λb ⟨y,a⟩=>?_⟩,λe u=>(h.O6 e u).mono Ω⟩
 .by_cases e:b=w.heap.size
  .exact g.ω b o v p (by simp only[e,if_true];rw[<-e];exact a)
  .rw[i b o e] at a;obtain⟨c2,t2,A,d,l⟩:=Tm (h.fit.ω b o v p a);exact Tl (w:={w with heap:=w.heap.push x}) (by show(w.heap.push x)[b]?=_;rw[LZ (XY d)];exact d) l
 .by_cases e:b=w.heap.size
  .exact g.row b t n (by simp only[e,if_true];rw[<-e];exact a)
  .rw[m b e] at a;obtain⟨c2,f2,d,B⟩:=h.fit.row b t n a;exact⟨c2,f2,by show(w.heap.push x)[b]?=_;rw[LZ (XY d)];exact d,B⟩
 .by_cases e:b=w.heap.size
  .exact g.obj b y (by simp only[e,if_true];rw[<-e];exact a)
  .rw[k b e] at a;obtain⟨d,j⟩:=h.fit.obj b y a;exact⟨by show(w.heap.push x)[b]?=_;rw[LZ (XY d)];exact d,j⟩
 .by_cases e:b=w.heap.size
  .exact g.thaw b o v (by simp only[e,if_true];rw[<-e];exact a)
  .rw[i b o e] at a;have C:=h.fit.thaw b o v a;obtain⟨c2,t2,A,d,l⟩:=Tm (h.fit.ω b o v true a);have D:(w.heap.push x)[b]?=_:=(LZ (XY d)).trans d;simpa[World.frozen?,d,D] using C
 .obtain⟨c2,f2,f,E,F,H⟩:=h.keeps.cells b c t r a;exact⟨c2,f2,by show(w.heap.push x)[b]?=_;rw[LZ (XY f)];exact f,E,F,H⟩
 .have f:=h.keeps.Tn b y a j s
  show(w.heap.push x)[b]?=_;rw[LZ (XY f)];exact f
 .by_cases e:b=w.heap.size
  .exact .inl I
  .rw[i b o e] at a;exact h.Vm.ω b o v p a
 .by_cases e:b=w.heap.size
  .exact .inl I
  .rw[k b e] at a;exact h.Vm.obj b ⟨y,a⟩
end
section
variable {G0 G:Υ} {w0 w:World} {es:Array Event} {P:Program}
theorem Yy.push (h:Yy G0 w0 G w es) {e:Event} (a:Wl G0 w0.heap.size w.heap.size e):Yy G0 w0 G w (es.push e):=
 ⟨h.fit,h.keeps,h.Vm,λx b=>(Nt.1 b).elim (h.O6 x) λy=>y▸a⟩
theorem Yy.draw (h:Yy G0 w0 G w es) (n:Nat):Yy G0 w0 G {w with drawn:=n} es:=
 ⟨⟨h.fit.ω,h.fit.row,h.fit.obj,h.fit.thaw⟩,⟨h.keeps.size,h.keeps.cells,h.keeps.Tn,h.keeps.os,h.keeps.output,h.keeps.tape⟩,h.Vm,h.O6⟩
theorem Yy.row (h:Yy G0 w0 G w es) (c:ν) (t:TypeId):Yy G0 w0 (G.YH w.heap.size c t) {w with heap:=w.heap.push (.cells c t (0,0))} es:=by
 refine h.new (λb o a=>by simp[Υ.YH,a]) (λb a=>by simp[Υ.YH,a]) (λb a=>rfl) ⟨λb o v p a=>?_,λb t' n a=>?_,λb y a=>?_,λb o v a=>?_⟩
 .by_cases e:b=w.heap.size
  .simp[Υ.YH,e] at a;obtain⟨f,d,rfl,rfl⟩:=a;rw[e];exact Tl (w:={w with heap:=w.heap.push (.cells c t (0,0))}) Is d
  .simp[e] at a
 .by_cases e:b=w.heap.size
  .simp[Υ.YH,e] at a;obtain⟨rfl,rfl⟩:=a;rw[e];exact⟨c,_,Is,U⟩
  .simp[e] at a
 .by_cases e:b=w.heap.size
  .simp only[e,if_true,Υ.YH] at a;rw[h.fit.fresh.2.2.1] at a;cases a
  .simp[e] at a
 .by_cases e:b=w.heap.size
  .subst e;simp[World.frozen?]
  .simp[e] at a
theorem Yy.obj (h:Yy G0 w0 G w es) {x:Obj} (c:Obj.Pd x=false):Yy G0 w0 (G.Zq w.heap.size x) {w with heap:=w.heap.push x} es:=by
 refine h.new (λb o a=>rfl) (λb a=>rfl) (λb a=>by simp[Υ.Zq,a]) ⟨λb o v p a=>?_,λb t' n a=>?_,λb y a=>?_,λb o v a=>?_⟩
 .by_cases e:b=w.heap.size
  .simp only[e,if_true,Υ.Zq] at a;rw[h.fit.fresh.1] at a;cases a
  .simp[e] at a
 .by_cases e:b=w.heap.size
  .simp only[e,if_true,Υ.Zq] at a;rw[h.fit.fresh.2.1] at a;cases a
  .simp[e] at a
 .by_cases e:b=w.heap.size
  .simp[Υ.Zq,e] at a;subst a;rw[e];exact⟨Is,c⟩
  .simp[e] at a
 .by_cases e:b=w.heap.size
  .simp only[e,if_true,Υ.Zq] at a;rw[h.fit.fresh.1] at a;cases a
  .simp[e] at a
theorem Yy.setObj (h:Yy G0 w0 G w es) {r:Nat} {x:Obj} (F:G.XI r) (l:Obj.Pd x=false):(∃y,w.heap[r]?=some y/\Obj.Pd y=false)/\Yy G0 w0 (G.Zq r x) {w with heap:=w.heap.setIfInBounds r x} (es.push ⟨.obj r,true,false⟩):=by
 obtain⟨y,s⟩:=F;obtain⟨A,C⟩:=h.fit.obj r y s;have D:=XY A;have H:(w.heap.setIfInBounds r x)[r]?=some x:=Ts D;have m:∀j,r≠j->(w.heap.setIfInBounds r x)[j]?=w.heap[j]?:=λj I=>UK I;have u:∀b c t i,w.heap[b]?=some (.cells c t i)->r≠b:=λb c t i d e=>by subst e;rw[A] at d;cases d;cases C
 refine⟨⟨y,A,C⟩,⟨λb o v p d=>?_,λb t n d=>?_,λb z g=>?_,λb o v d=>?_⟩,⟨by simp;exact h.keeps.size,λb c t i d=>?_,λb z d g E=>?_,h.keeps.os,h.keeps.output,h.keeps.tape⟩,⟨h.Vm.ω,λb g=>?_⟩,λe B=>?_⟩
 .obtain⟨c,t,i,a,k⟩:=Tm (h.fit.ω b o v p d);exact Tl (w:={w with heap:=w.heap.setIfInBounds r x}) (by show(w.heap.setIfInBounds r x)[b]?=_;rw[m b (u b c t i a)];exact a) k
 .obtain⟨c,f,a,k⟩:=h.fit.row b t n d;exact⟨c,f,by show(w.heap.setIfInBounds r x)[b]?=_;rw[m b (u b c t _ a)];exact a,k⟩
 .by_cases e:b=r
  .subst e;simp[Υ.Zq] at g;subst g;exact⟨H,l⟩
  .simp[Υ.Zq,e] at g;obtain⟨a,k⟩:=h.fit.obj b z g;exact⟨by show(w.heap.setIfInBounds r x)[b]?=_;rw[m b (YV e)];exact a,k⟩
 .have J:=h.fit.thaw b o v d;obtain⟨c,t,i,a,k⟩:=Tm (h.fit.ω b o v true d);have K:(w.heap.setIfInBounds r x)[b]?=_:=(m b (u b c t i a)).trans a;simpa[World.frozen?,a,K] using J
 .obtain⟨c2,f2,a,k,L,M⟩:=h.keeps.cells b c t i d;exact⟨c2,f2,by show(w.heap.setIfInBounds r x)[b]?=_;rw[m b (u b c2 t f2 a)];exact a,k,L,M⟩
 .have a:=h.keeps.Tn b z d g E
  have e:r≠b:=λe=>by
   subst e;rcases h.Vm.obj r ⟨y,s⟩ with l|l
   .have:=XY d;omega
   .exact E l
  show(w.heap.setIfInBounds r x)[b]?=_;rw[m b e];exact a
 .by_cases e:b=r
  .subst e;exact h.Vm.obj b ⟨y,s⟩
  .obtain⟨z,g⟩:=g;simp[Υ.Zq,e] at g;exact h.Vm.obj b ⟨z,g⟩
 .simp only[Vx];rcases Nt.1 B with B|rfl
  .exact h.O6 e B
  .exact⟨U,(h.Vm.obj r ⟨y,s⟩).imp (λl=>⟨l,D⟩) id⟩
theorem xB (w:World) (a:Addr):w.frozen? a=w.frozen? ⟨a.block,a.off,none⟩:=rfl
theorem Yy.freeze (h:Yy G0 w0 G w es) {a:Addr} {t:TypeId} {N:Nat} (H:G.row a.block=some (t,N)) (T:0<N) (J:∀o,o<N->G.owns a.block o) (n:Nat):Yy G0 w0 (G.Se a.block) (w.freeze a n) es:=by
 obtain⟨b,m,sp⟩:=a;simp only at H J;obtain⟨c,V,k,ak⟩:=h.fit.row b t N H;have al:=XY k;obtain⟨f1,C⟩:∃f1,(w.freeze ⟨b,m,sp⟩ n).heap[b]?=some (.cells c t f1):=by
  unfold World.freeze;split
  .exact⟨V,k⟩
  .rw[KR,if_pos U,k];exact⟨_,U⟩
 have s:∀j,b≠j->(w.freeze ⟨b,m,sp⟩ n).heap[j]?=w.heap[j]?:=λj W=>by
  unfold World.freeze;split
  .rfl
  .rw[KR,if_neg W]
 have K:(w.freeze ⟨b,m,sp⟩ n).heap.size=w.heap.size:=by
  unfold World.freeze;split
  .rfl
  .simp
 have X:(w.freeze ⟨b,m,sp⟩ n).os=w.os:=by unfold World.freeze;split<;>rfl
 have Y:(w.freeze ⟨b,m,sp⟩ n).output=w.output:=by unfold World.freeze;split<;>rfl
 have Z:(w.freeze ⟨b,m,sp⟩ n).tape=w.tape:=by unfold World.freeze;split<;>rfl
 have aa:∀d o,d≠b->(G.Se b).ω d o=G.ω d o:=λd o e=>by simp[Υ.Se,e]
 have ab:∀o,(G.Se b).ω b o=(G.ω b o).map λx=>(x.1,false):=λo=>by simp[Υ.Se]
 have D:∀d o v p,(G.Se b).ω d o=some (v,p)->∃l,G.ω d o=some (v,l)/\(p=true->l=true/\d≠b):=λd o v p i=>by
  by_cases e:d=b
  .subst e;rw[ab] at i;obtain⟨x,u,ex⟩:=Uh.1 i;cases ex;exact⟨x.2,u,λe=>by cases e⟩
  .rw[aa d o e] at i;exact⟨p,i,λh=>⟨h,e⟩⟩
 refine⟨⟨λd o v p i=>?_,λd t' ad ae=>?_,λd x u=>?_,λd o v i=>?_⟩,⟨by rw[K];exact h.keeps.size,λd c' t' af A=>?_,λd x A u B=>?_,by rw[X];exact h.keeps.os,by rw[Y];exact h.keeps.output,by rw[Z];exact h.keeps.tape⟩,⟨λd o v p i=>?_,h.Vm.obj⟩,λe ag=>by rw[K];exact h.O6 e ag⟩
 .obtain⟨l,r,_⟩:=D d o v p i;have f:=h.fit.ω d o v l r;obtain⟨c2,t2,am,g,L⟩:=Tm f;by_cases e:d=b
  .subst e;rw[k] at g;cases g;exact Tl C L
  .exact Tl ((s d (YV e)).trans g) L
 .obtain⟨c2,f2,g,M⟩:=h.fit.row d t' ad ae;by_cases e:d=b
  .subst e;rw[k] at g;cases g;exact⟨_,_,C,M⟩
  .exact⟨c2,f2,(s d (YV e)).trans g,M⟩
 .obtain⟨g,O⟩:=h.fit.obj d x u;have E:b≠d:=λe=>by subst e;rw[k] at g;cases g;cases O
  exact⟨(s d E).trans g,O⟩
 .obtain⟨l,r,y⟩:=D d o v true i;obtain⟨rfl,e⟩:=y U;have f:=h.fit.thaw d o v r;unfold World.frozen? at f ⊢;rw[show(w.freeze ⟨b,m,sp⟩ n).heap[(⟨d,o,none⟩:Addr).block]?=w.heap[d]? from s d (YV e)];exact f
 .obtain⟨c2,f2,f,P,Q,ah⟩:=h.keeps.cells d c' t' af A;by_cases e:d=b
  .subst e;rw[k] at f;cases f;have R:∀o,o<N->G0.owns d o:=λo S=>by
    obtain⟨v,hv⟩:=J o S;rcases h.Vm.ω d o v true hv with B|⟨F,l,r,y⟩
    .have:=XY A;omega
    .exact⟨F,by rw[r,y U]⟩
   exact⟨_,_,C,P,Q,.inr ⟨⟨0,R 0 T⟩,λo S=>R o I⟩⟩
  .exact⟨c2,f2,(s d (YV e)).trans f,P,Q,ah⟩
 .have f:=h.keeps.Tn d x A u B
  have E:b≠d:=λe=>by subst e;rw[k] at f;cases f;cases u
  exact(s d E).trans f
 .obtain⟨l,r,y⟩:=D d o v p i;rcases h.Vm.ω d o v l r with B|⟨F,ai,f,aj⟩
  .exact .inl B
  .exact .inr ⟨F,ai,f,λe=>aj (y e).1⟩
theorem Χ.sound {M:Type} {K:M->Υ->Prop} {E:Value->Υ->Prop} (s:Sem M):∀{G:Υ} {w:World} {es:Array Event},Χ P s G K E->Yy G0 w0 G w es->
  ∃G' w' es',Yy G0 w0 G' w' es'/\((∃a,s.runT P w es=(.ok a w',es')/\K a G')\/(∃v,s.runT P w es=(.halt (.panic v) w',es')/\E v G')):=by
 induction s with
 | pure a=>intro G w es h d;exact⟨G,w,es,d,.inl ⟨a,rfl,h⟩⟩
 | load m a k i=>
  intro G w es h d;obtain⟨_,B,v,p,D,j⟩:=h;obtain⟨hv,l⟩:=d.read (s:=m==.atomic) B D;obtain⟨G',w',es',f,g⟩:=i v j l;refine⟨G',w',es',f,?_⟩;simp only[Sem.runT,hv];exact g
 | store m a v k i=>
  intro G w es h d;obtain⟨_,B,D,⟨t,n,aa⟩,Q,j⟩:=h;obtain⟨⟨u,hv⟩,l⟩:=d.write (v:=v) (s:=m==.atomic) B D;obtain⟨G',w',es',f,g⟩:=i j l;have R:w.frozen? a=false:=by
   obtain⟨b,o,sp⟩:=a;obtain⟨I,F⟩:=D;simp only at B F;subst B;exact d.fit.thaw b o I F
  refine⟨G',w',es',f,?_⟩;have e:(Sem.store m a v k).runT P w es=k.runT P (w.setCell a v) (es.push ⟨.cell a,true,m==.atomic⟩):=by
   cases v<;>first|exact Q.elim|(simp only[Sem.runT,hv,R];rfl)
  rw[e];exact g
 | new o k i=>
  intro G w es h d;cases o with
  | cells c t ab=>
   obtain⟨rfl,j⟩:=h;obtain⟨G',w',es',f,g⟩:=i w.heap.size (j _ d.fit.fresh) (d.row c t);exact⟨G',w',es',f,g⟩
  | _=>
   obtain⟨G',w',es',f,g⟩:=i w.heap.size (h _ d.fit.fresh) (d.obj U);exact⟨G',w',es',f,g⟩
 | shape r k i=>
  intro G w es h d;obtain⟨t,n,C,j⟩:=h;have e:w.shape? r=some (t,n):=by
   obtain⟨c,_,A,S⟩:=d.fit.row r t n C;simp[World.shape?,A,S]
  obtain⟨G',w',es',f,g⟩:=i _ j d;refine⟨G',w',es',f,?_⟩;simp only[Sem.runT,e];exact g
 | freeze a n k i=>
  intro G w es h d;obtain⟨⟨t,N,C,T,V⟩,j⟩:=h;obtain⟨G',w',es',f,g⟩:=i j (d.freeze C T V n);exact⟨G',w',es',f,g⟩
 | frozen a k i=>
  intro G w es h d;obtain⟨⟨I,F⟩,j⟩:=h;have e:w.frozen? a=false:=(xB w a).trans (d.fit.thaw a.block a.off I F);obtain⟨G',w',es',f,g⟩:=i _ j d;refine⟨G',w',es',f,?_⟩;simp only[Sem.runT,e];exact g
 | getObj r k i=>
  intro G w es h d;obtain⟨o,O,J,j⟩:=h;obtain⟨A,L⟩:=d.fit.obj r o O;have W:=XY A;have l:=d.push (e:=⟨.obj r,false,false⟩) ⟨U,(d.Vm.obj r ⟨o,O⟩).imp (λX=>⟨X,W⟩) id⟩;obtain⟨G',w',es',f,g⟩:=i _ j l;refine⟨G',w',es',f,?_⟩;have e:(Sem.getObj r k).runT P w es=(k o).runT P w (es.push ⟨.obj r,false,false⟩):=by
   cases o<;>first|(simp only[Sem.runT,A];first|done|rfl|(rw[J];done))|(cases L;done)
  rw[e];exact g
 | setObj r o k i=>
  intro G w es h d;obtain⟨C,L,J,j⟩:=h;obtain⟨⟨y,A,Y⟩,l⟩:=d.setObj C L;obtain⟨G',w',es',f,g⟩:=i j l;refine⟨G',w',es',f,?_⟩;have e:(Sem.setObj r o k).runT P w es=k.runT P {w with heap:=w.heap.setIfInBounds r o} (es.push ⟨.obj r,true,false⟩):=by
   cases y<;>first|(simp only[Sem.runT,A,J];done)|(cases Y;done)
  rw[e];exact g
 | choose q k i=>
  intro G w es h d;simp only[Χ] at h;by_cases H:q.forced=true
  .rw[if_pos H] at h;obtain⟨G',w',es',f,g⟩:=i _ h d;refine⟨G',w',es',f,?_⟩;simp only[Sem.runT,H,if_true];exact g
  .rw[if_neg H] at h;obtain⟨G',w',es',f,g⟩:=i _ (h (w.tape w.drawn q)) (d.draw (w.drawn+1));refine⟨G',w',es',f,?_⟩;simp only[Sem.runT,H];exact g
 | sys c k i=>intro G w es h d;exact h.elim
 | program k i=>
  intro G w es h d;obtain⟨G',w',es',f,g⟩:=i P h d;exact⟨G',w',es',f,g⟩
 | mark m k i=>
  intro G w es h d;obtain⟨Z,j⟩:=h;obtain⟨G',w',es',f,g⟩:=i j (d.push (e:=⟨.mark m,false,true⟩) (Z.imp id .inl));exact⟨G',w',es',f,g⟩
 | halt x=>
  intro G w es h d;cases x<;>first|exact h.elim|skip
  exact⟨G,w,es,d,.inr ⟨_,U,h⟩⟩
theorem mem_seen {fn:FuncId} {e:Event} (h:e∈seen P fn es):e∈es:=by
 unfold seen at h;obtain⟨l⟩:=es;have d:∀(l:List Event) (q:Bool) (c:Array Event) (x:Event),x∈(l.foldl (λ(s:Bool×Array Event) e=>match e.loc with
   | .mark (Mark.extern f)=>((P.funcs[f]?).any (·.norace),s.2)
   | _=>(s.1,if s.1&&!e.sync then s.2 else s.2.push e)) (q,c)).2->x∈c\/x∈l:=by
  intro l
  induction l with
  | nil=>intro q c x a;exact .inl a
  | cons y l g=>
   intro q c x a;rw[List.foldl_cons] at a;rcases g _ _ x a with b|b
   .split at b
    .exact .inl b
    .simp only at b;split at b
     .exact .inl b
     .rcases Nt.1 b with i|rfl
      .exact .inl i
      .exact .inr Ω
   .exact .inr (by simp[b])
 simp only[List.foldl_toArray'] at h;rcases d l _ #[] e h with a|a
 .simp at a
 .simpa using a
end
def ZE (P:Program) (a:Value->Prop) (mn:Bool) (y:Z5) (χ:Frame) (cs:Y3) (H:Υ):Prop:=Goes P a mn (Go.Conc.G χ cs) {y with G:=H}
def Wv:Type:=Z5->Prop
class Z1 where
 q:Wv->Prop
structure Seq [Z1] (x:Wv):Prop where
 cls:Z1.q x
 rel:∀y,x y->y.rel=false
 Z8:∀y,x y->y.Z8=λ_=>none
def μ (P:Program) (a:Value->Prop) (mn:Bool) (x:Wv) (χ:Frame) (cs:Y3) (H:Υ):Prop:=∀y,x y->ZE P a mn y χ cs H
def χ (b:Frame) (t:ν) (k:ZA):Frame:={b with tmps:=t,todo:=k}
section
variable {P:Program} {Q:Value->Prop} {mn:Bool} {x:Wv} {cs:Y3} {H:Υ} {b f:Frame} {t:ν} {k:ZA}
theorem ZE.own {y:Z5} (g:y.rel=false) (i:y.Z8=λ_=>none) (h:∀w,Fits H w->∃f' cs' w' es H',stepG P mn (Go.Conc.G f cs) w=.go (Go.Conc.G f' cs') w' es/\Yy H w H' w' es/\ZE P Q mn y f' cs' H'):ZE P Q mn y f cs H:=by
 refine Goes.step (λj=>by rw[show({y with G:=H}:Z5).rel=y.rel from rfl,g] at j;cases j) (.inr ⟨⟨U,U⟩,.inl λw k hv=>?_⟩);obtain⟨f',cs',w',es,H',l,d,m⟩:=h w k;rw[l];refine⟨H',y.Z8,⟨U,U⟩,d.keeps,d.fit,λb c t a=>?_,d.Vm,λb c a=>.inl a,λe n=>?_,λb c a=>?_,m⟩
 .rw[i] at a;cases a
 .rw[if_neg (by rw[show({y with G:=H}:Z5).rel=y.rel from rfl,g];simp)];exact d.O6 e n
 .rw[i] at a;cases a
variable [Z1]
theorem μ.own (e:Seq x) (h:∀w,Fits H w->∃f' cs' w' es H',stepG P mn (Go.Conc.G f cs) w=.go (Go.Conc.G f' cs') w' es/\Yy H w H' w' es/\μ P Q mn x f' cs' H'):μ P Q mn x f cs H:=
 λy d=>.own (e.rel y d) (e.Z8 y d) λw g=>let ⟨f',cs',w',es,H',a,b,c⟩:=h w g;⟨f',cs',w',es,H',a,b,c y d⟩
theorem μ.still (a:Seq x) {f':Frame} {cs':Y3} (b:∀w,stepG P mn (Go.Conc.G f cs) w=.go (Go.Conc.G f' cs') w #[]) (h:μ P Q mn x f' cs' H):μ P Q mn x f cs H:=
 .own a λw c=>⟨f',cs',w,#[],H,b w,.start c,h⟩
theorem Vl (a:b.mode=.run) (w:World):stepG P mn (Go.Conc.G (χ b t k) cs) w=stepG.exec P mn true (χ b t k) cs none w:=by
 obtain⟨fn,c,td,d,e,f,g⟩:=b;simp only at a;subst a;rfl
section moves
variable (X7:Seq x) (hb:b.mode=.run)
include X7 hb
theorem μ.to {a:ZA} (c:∀w,stepG.exec P mn true (χ b t k) cs none w=.go (Go.Conc.G (χ b t a) cs) w #[]) (h:μ P Q mn x (χ b t a) cs H):μ P Q mn x (χ b t k) cs H:=
 .still X7 (λw=>(Vl hb w).trans (c w)) h
theorem μ.skip (h:μ P Q mn x (χ b t k) cs H):μ P Q mn x (χ b t (.code .skip::k)) cs H:=.to X7 hb (λ_=>rfl) h
theorem μ.label {l:Nat} (h:μ P Q mn x (χ b t k) cs H):μ P Q mn x (χ b t (.code (.label l)::k)) cs H:=.to X7 hb (λ_=>rfl) h
theorem μ.inBlock {l:Nat} (h:μ P Q mn x (χ b t k) cs H):μ P Q mn x (χ b t (.inBlock l::k)) cs H:=.to X7 hb (λ_=>rfl) h
theorem μ.inScope {c:Code} (h:μ P Q mn x (χ b t k) cs H):μ P Q mn x (χ b t (.inScope c::k)) cs H:=.to X7 hb (λ_=>rfl) h
theorem μ.seq {a c:Code} (h:μ P Q mn x (χ b t (.code a::.code c::k)) cs H):μ P Q mn x (χ b t (.code (.seq a c)::k)) cs H:=.to X7 hb (λ_=>rfl) h
theorem μ.block {l:Nat} {c:Code} (h:μ P Q mn x (χ b t (.code c::.inBlock l::k)) cs H):μ P Q mn x (χ b t (.code (.block l c)::k)) cs H:=.to X7 hb (λ_=>rfl) h
theorem μ.loop {c:Code} (h:μ P Q mn x (χ b t (.code c::.inLoop c::k)) cs H):μ P Q mn x (χ b t (.code (.loop c)::k)) cs H:=.to X7 hb (λ_=>rfl) h
theorem μ.inLoop {c:Code} (h:μ P Q mn x (χ b t (.code c::.inLoop c::k)) cs H):μ P Q mn x (χ b t (.inLoop c::k)) cs H:=.to X7 hb (λ_=>rfl) h
theorem μ.scope {c:Code} (h:μ P Q mn x (χ b t (.code c::.inScope c::k)) cs H):μ P Q mn x (χ b t (.code (.scope c)::k)) cs H:=.to X7 hb (λ_=>rfl) h
theorem μ.region {id:Nat} {ops:ZI} (h:μ P Q mn x (χ b t (.inRegion ops (List.range ops.size)::k)) cs H):μ P Q mn x (χ b t (.code (.region id ops false)::k)) cs H:=.to X7 hb (λ_=>rfl) h
theorem μ.ZM {ops:ZI} (h:μ P Q mn x (χ b t k) cs H):μ P Q mn x (χ b t (.inRegion ops []::k)) cs H:=.to X7 hb (λ_=>rfl) h
theorem μ.cond {c:Operand} {a e:Code} {v:Bool} (f:(χ b t k).eval c=.bool v) (h:μ P Q mn x (χ b t (.code (if v then a else e)::k)) cs H):μ P Q mn x (χ b t (.code (.cond c a e)::k)) cs H:=by
 refine .to X7 hb (λw=>?_) h;have d:(χ b t (.code (.cond c a e)::k)).eval c=.bool v:=f;unfold stepG.exec;simp only[χ] at d ⊢;rw[d];rfl
theorem μ.exit {l:Nat} {a:ZA} (c:exitTo l k=some a) (h:μ P Q mn x (χ b t a) cs H):μ P Q mn x (χ b t (.code (.exit l)::k)) cs H:=by
 refine .to X7 hb (λw=>?_) h;unfold stepG.exec;simp only[χ,c,Option.elim];rfl
theorem μ.draw {id:Nat} {ops:ZI} (h:∀n,μ P Q mn x (χ b t (.inRegion ops (Region.schedule (P.follows .mixedOrders) ops n)::k)) cs H):μ P Q mn x (χ b t (.code (.region id ops true)::k)) cs H:=by
 refine .own X7 λw a=>⟨χ b t (.inRegion ops (Region.schedule (P.follows .mixedOrders) ops (w.tape w.drawn (.order b.fn id)))::k),cs,{w with drawn:=w.drawn+1},#[],H,?_,(Yy.start a).draw _,h _⟩;rw[Vl hb];rfl
theorem μ.ret (a:b.roundOf=none) (h:μ P Q mn x {χ b t (.code .ret::k) with mode:=.returning} cs H):μ P Q mn x (χ b t (.code .ret::k)) cs H:=by
 refine .still X7 (λw=>?_) h;rw[Vl hb];unfold stepG.exec;simp only[χ,a];rfl
theorem μ.Rt (a:b.roundOf=none) (h:μ P Q mn x {χ b t [] with mode:=.returning} cs H):μ P Q mn x (χ b t []) cs H:=by
 refine .still X7 (λw=>?_) h;rw[Vl hb];unfold stepG.exec;simp only[χ,a];rfl
end moves
end
end Go.TL
namespace Go.TL
open Go.Conc
open Go.ConcM (OsLater)
open Go.ConcN (sumTo upd sumTo_upd upd_ne upd_same sumTo_congr le_sumTo)
variable [Z1]
def ZW (t:ν):Operand->Value
 | .tmp n=>t.getD n undef
 | .const v=>v
 | .global g=>.pointer (some ⟨g,0,none⟩)
 | .func f=>.func (.func f) #[] #[]
theorem Kr (b:Frame) (t:ν) (k:ZA):(χ b t k).eval=ZW t:=by funext o;cases o<;>rfl
def put (o:Oper) (t:ν) (v:Value):ν:=match o.dst with|some d=>t.setIfInBounds d v|none=>t
def Cy (P:Program) (a:Value->Prop) (mn:Bool) (x:Wv) (b:Frame) (t:ν) (ops:ZI) (i:Nat) (o:Oper) (rest:κ) (k:ZA) (cs:Y3):Next->Υ->Prop
 | .value v,H=>μ P a mn x (χ b (put o t v) (.inRegion ops rest::k)) cs H
 | .skip,H=>μ P a mn x (χ b (put o t undef) (.inRegion ops rest::k)) cs H
 | .enter f args,H=>μ P a mn x (Frame.enter P f args .normal) (χ b t (.inRegion ops (i::rest)::k)::cs) H
 | .round l f c e bd,H=>μ P a mn x (Frame.round l f c e bd .normal) (χ b t (.inRegion ops (i::rest)::k)::cs) H
 | .defer d,H=>μ P a mn x (χ {b with defers:=d::b.defers} (put o t undef) (.inRegion ops rest::k)) cs H
 | .recover,H=>b.roundOf=none/\match tryRecover (χ b t (.inRegion ops (i::rest)::k)) cs with
  | some (v,cs')=>μ P a mn x (χ b (put o t v) (.inRegion ops rest::k)) cs' H
  | none=>μ P a mn x (χ b (put o t .nilIface) (.inRegion ops rest::k)) cs H
 | _,_=>False
section
variable {P:Program} {Q:Value->Prop} {mn:Bool} {x:Wv} {cs:Y3} {H:Υ} {b f:Frame} {t:ν} {k:ZA}
theorem Yy.sub {G0 G:Υ} {w0 w:World} {es es':Array Event} (h:Yy G0 w0 G w es) (a:∀e∈es',e∈es):Yy G0 w0 G w es':=⟨h.fit,h.keeps,h.Vm,λe b=>h.O6 e (a e b)⟩
theorem V4 {b:Frame} {ops:ZI} {i:Nat} {o:Oper} {rest:κ} {v:Value} (a:ops[i]?=some o):(χ b t (.inRegion ops (i::rest)::k)).finish v=χ b (put o t v) (.inRegion ops rest::k):=by
 simp only[Frame.finish,χ,a,Option.bind,put];cases o.dst<;>rfl
theorem μ.unwanted (c:Seq x) (d:b.mode=.run) {ops:ZI} {i:Nat} {o:Oper} {rest:κ} (a:ops[i]?=some o) (e:Region.wanted o (yielded ops t)=false)
  (h:μ P Q mn x (χ b (put o t undef) (.inRegion ops rest::k)) cs H):μ P Q mn x (χ b t (.inRegion ops (i::rest)::k)) cs H:=by
 refine .still c (f':=χ b (put o t undef) (.inRegion ops rest::k)) (cs':=cs) (λw=>?_) h;rw[Vl d,<-V4 a];have f:((ops[i]?).map (Region.wanted · (yielded ops t))).getD false=false:=by simp[a,e]
 unfold stepG.exec;simp only[χ,f];rfl
theorem μ.op (D:Seq x) (C:b.mode=.run) {ops:ZI} {i:Nat} {o:Oper} {rest:κ} (y:ops[i]?=some o) (E:Region.wanted o (yielded ops t)=true) (hd:b.roundOf=none\/∀c,o.op≠.defer c)
  (h:Χ P (execOp (ZW t) o) H (Cy P Q mn x b t ops i o rest k cs) (λv H'=>μ P Q mn x {χ b t (.inRegion ops (i::rest)::k) with mode:=.panicking [{v,recovered:=false}]} cs H')) :
  μ P Q mn x (χ b t (.inRegion ops (i::rest)::k)) cs H:=by
 refine .own D λw F=>?_;obtain⟨H',w',es',n,I⟩:=Χ.sound (P:=P) (G0:=H) (w0:=w) (execOp (ZW t) o) h (Yy.start F);have J:stepG P mn (Go.Conc.G (χ b t (.inRegion ops (i::rest)::k)) cs) w=stepG.apply P true (χ b t (.inRegion ops (i::rest)::k)) cs none (execOp (ZW t) o) w:=by
  rw[Vl C];have K:((ops[i]?).map (Region.wanted · (yielded ops t))).getD false=true:=by simp[y,E]
  have A:(χ b t (.inRegion ops (i::rest)::k)).oper?=some o:=by simp[Frame.oper?,χ,y]
  unfold stepG.exec;simp only[χ,K,if_true];simp only[χ] at A;unfold stepG.oper;simp only[A];rcases hd with hd|hd
  .simp only[hd];rw[<-Kr b t (.inRegion ops (i::rest)::k)];rfl
  .cases O:b.roundOf with
   | none=>rw[<-Kr b t (.inRegion ops (i::rest)::k)];rfl
   | some l=>
    cases L:o.op<;>first|exact absurd L (hd _)|(simp only;rw[<-Kr b t (.inRegion ops (i::rest)::k)];rfl)
 rw[J];generalize g:(if(χ b t (.inRegion ops (i::rest)::k)).kind==.early then #[] else es')=j;have p:∀e∈seen P b.fn j,e∈es':=λe A=>by
  have:=mem_seen A;rw[<-g] at this;split at this
  .simp at this
  .exact this
 have B:∀v,(χ b t (.inRegion ops (i::rest)::k)).finish v=χ b (put o t v) (.inRegion ops rest::k):=λv=>V4 y;rcases I with⟨M,m,a⟩|⟨v,m,N⟩
 .cases M<;>first|exact a.elim|skip
  case value v=>exact⟨_,_,w',seen P b.fn j,H',by unfold stepG.apply;simp only[m,if_true];rw[g,B];simp[GStep.after,Go.Conc.G,χ],n.sub p,a⟩
  case skip=>exact⟨_,_,w',seen P b.fn j,H',by unfold stepG.apply;simp only[m,if_true];rw[g,B];simp[GStep.after,Go.Conc.G,χ],n.sub p,a⟩
  case enter f args=>exact⟨_,_,w',seen P b.fn j,H',by unfold stepG.apply;simp only[m,if_true];rw[g];simp[GStep.after,Go.Conc.G,χ],n.sub p,a⟩
  case round l f R S bd=>exact⟨_,_,w',seen P b.fn j,H',by unfold stepG.apply;simp only[m,if_true];rw[g];simp[GStep.after,Go.Conc.G,χ],n.sub p,a⟩
  case defer d=>exact⟨_,_,w',seen P b.fn j,H',by unfold stepG.apply;simp only[m,if_true];rw[g];simp[GStep.after,Go.Conc.G,Frame.finish,χ,put,y];cases o.dst<;>rfl,n.sub p,a⟩
  case recover=>
   obtain⟨u,a⟩:=a;cases s:tryRecover (χ b t (.inRegion ops (i::rest)::k)) cs with
   | none=>
    rw[s] at a;exact⟨_,_,w',seen P b.fn j,H',by unfold stepG.apply;simp only[m,if_true];rw[g,B];simp only[χ] at s ⊢;simp only[u];rw[u] at s;rw[s];simp[GStep.after,Go.Conc.G],n.sub p,a⟩
   | some r=>
    obtain⟨v,cs'⟩:=r;rw[s] at a;exact⟨_,_,w',seen P b.fn j,H',by unfold stepG.apply;simp only[m,if_true];rw[g];simp only[χ] at s ⊢;simp only[u];rw[u] at s;rw[s];simp[GStep.after,Go.Conc.G];(have e:=B v;simp only[χ,u] at e;exact e),n.sub p,a⟩
 .exact⟨_,_,w',seen P b.fn j,H',by unfold stepG.apply;simp only[m,if_true];rw[g];simp[GStep.after,Go.Conc.G,Frame.raise,χ,C],n.sub p,N⟩
end
section
variable {P:Program} {Q:Value->Prop} {mn:Bool} {x:Wv} {cs rest:Y3} {H:Υ} {b f c:Frame} {t:ν} {k:ZA} {fn:Func}
theorem LY (a:f.mode≠.run) (w:World):stepG P mn (Go.Conc.G f cs) w=unwind P mn f cs none w:=by
 obtain⟨c,d,e,g,b,h,i⟩:=f;cases b with
 | run=>exact absurd rfl a
 | returning=>rfl
 | panicking j=>rfl
theorem μ.back (g:Seq x) (b:f.mode=.returning) (hd:f.defers=[]) (a:f.kind=.normal\/f.kind=.wrapped) (i:P.funcs[f.fn]?=some fn)
  (h:Χ P (results fn f.tmps) H (λv H'=>μ P Q mn x (c.finish v) rest H') (λ_ _=>False)):μ P Q mn x f (c::rest) H:=by
 refine .own g λw j=>?_;obtain⟨H',w',es',k,l⟩:=Χ.sound (P:=P) (G0:=H) (w0:=w) (results fn f.tmps) h (Yy.start j);rcases l with⟨v,d,m⟩|⟨v,d,n⟩
 .refine⟨_,_,w',seen P f.fn es',H',?_,k.sub λe o=>mem_seen o,m⟩;rw[LY (by rw[b];simp)];unfold unwind;simp only[hd,b,i,d];unfold doReturn;rcases a with a|a<;>simp[a,GStep.after,Go.Conc.G]
 .exact n.elim
theorem μ.Ir (d:Seq x) (a:f.mode=.returning) (hd:f.defers=[]) (g:f.kind=.deferred) (i:P.funcs[f.fn]?=some fn)
  (h:Χ P (results fn f.tmps) H (λ_ H'=>μ P Q mn x (match c.mode with
   | .panicking ({recovered:=true,..}::j)=>(match j.dropWhile (!·.goexit) with|[]=>{c with mode:=.returning}|r=>{c with mode:=.panicking r})
   | _=>c) rest H') (λ_ _=>False)):μ P Q mn x f (c::rest) H:=by
 refine .own d λw k=>?_;obtain⟨H',w',es',l,m⟩:=Χ.sound (P:=P) (G0:=H) (w0:=w) (results fn f.tmps) h (Yy.start k);rcases m with⟨v,b,n⟩|⟨v,b,o⟩
 .refine⟨_,_,w',seen P f.fn es',H',?_,l.sub λe p=>mem_seen p,n⟩;rw[LY (by rw[a];simp)];unfold unwind;simp only[hd,a,i,b];unfold doReturn;simp only[g,GStep.after];rw[Oi];rfl
 .exact o.elim
theorem μ.deferred (m:Seq x) (n:f.mode≠.run) {d:Deferred} {ds:List Deferred} (hd:f.defers=d::ds) (k:∀r,d.target≠.collected r) (e:d.target≠.nil) {g:FuncId} {args:ν}
  (l:∀w,(invoke d.target d.args).runT P w #[]=(.ok (.enter g args) w,#[])) (h:μ P Q mn x (Frame.enter P g args .deferred) ({f with defers:=ds}::cs) H):μ P Q mn x f cs H:=by
 refine .still m (λw=>?_) h;rw[LY n];unfold unwind;obtain⟨i,as9⟩:=d;simp only at k e l;have j:callDeferred P {f with defers:=ds} cs none ⟨i,as9⟩ w=.go (Go.Conc.G (Frame.enter P g args .deferred) ({f with defers:=ds}::cs)) w #[]:=by
  unfold callDeferred;simp only[l w];cases i<;>first|exact absurd rfl e|(simp[GStep.after,seen,Go.Conc.G])
 cases i with
 | collected r=>exact absurd rfl (k r)
 | fn a b=>simp only[hd];exact j
 | nil=>exact absurd rfl e
 | builtin a b c d=>simp only[hd];exact j
 | coroexit c=>simp only[hd];exact j
theorem μ.raised (d:Seq x) {a:List PanicEntry} (b:f.mode=.panicking a) (hd:f.defers=[]) (e:f.catches P=false) (h:μ P Q mn x (c.raise a) rest H):μ P Q mn x f (c::rest) H:=by
 refine .still d (λw=>?_) h;rw[LY (by rw[b];simp)];unfold unwind;simp only[hd,b,e];rfl
theorem μ.done (d:Seq x) (g:∀y,x y->∀s,XE (y.tok s)) (h:∀y,x y->y.deaf=0) (c:f.mode=.returning) (hd:f.defers=[]) (i:f.kind=.normal) (j:P.funcs[f.fn]?=some fn) (k:P.inits.idxOf? f.fn=none) {v:Value}
  (a:results fn f.tmps=pure v) (l:Q v):μ P Q true x f [] H:=by
 intro y b;refine Goes.stop (λa=>by rw[show({y with G:=H}:Z5).rel=y.rel from rfl,d.rel y b] at a;cases a) (.inl ⟨U,⟨U,U⟩,g y b,h y b,λw n=>⟨v,#[],?_,λe m=>by simp at m,l⟩⟩);rw[LY (by rw[c];simp)];unfold unwind;simp only[hd,c,j,a];have:(pure v:Sem Value).runT P w #[]=(.ok v w,#[]):=rfl;simp only[this];unfold doReturn;simp[i,GStep.after,seen,k]
end
end Go.TL
namespace Go.TL
open Go.Conc
inductive Ψ where
 | z (v:Value)
 | Ν (cells:List Ψ)
 | sl (ex:Bool) (k:Nat) (l:List Ψ)
 | Z6 (l:List Ψ)
 | ε (l:List Ψ)
 | π (id n i j:Nat)
 | ms (id n i len:Nat)
 | fn (f:Fn) (first captured:List Ψ)
 | Xi (t:TypeId) (a:Ψ)
 | mp (id:Nat)
 | it (id:Nat)
 | Zx
 deriving Inhabited
abbrev ψ:=List Ψ
def Ψ.cells:Ψ->ψ
 | .Z6 l=>l
 | a=>[a]
inductive Row where
 | cells (t:TypeId) (k:Nat) (l:ψ)
 | map (es:List (Ψ×Ψ))
 | iter (m:Nat) (left:List (Ψ×Ψ)) (b:Option (Ψ×Ψ))
 | str (s:ByteArray) (pos:Nat)
 | loop (L:Nat) (st:LoopState) (d:Array Tmp) (a bd:Code) (nt:Nat) (env:List (Nat×Ψ))
 | own (c o:Nat) (l:ψ)
 | dead
 deriving Inhabited
abbrev Ρ:=List Row
def Row.Xx (r:Row) (n:Nat):Prop:=match r with|.cells _ _ l=>n<l.length|_=>True
abbrev δ:=List (Option (Nat×Nat))
abbrev ς:=Nat->Nat->Option Value
inductive Θ (S:ς) (B:δ) (σ:Ρ):Ψ->Value->Prop where
 | z (v:Value):Θ S B σ (.z v) v
 | Ν {cells:ψ} (b o:Nat) (w:Nat->Value):(∀(j:Nat) (a:Ψ),cells[j]?=some a->S b (o+j)=some (w j))->(∀(j:Nat) (a:Ψ),cells[j]?=some a->Θ S B σ a (w j))->Θ S B σ (.Ν cells) (.pointer (some ⟨b,o,none⟩))
 | WJ {ex:Bool} {k:Nat} (base:Option Addr) (cap:Nat):(ex=true->cap=0)->Θ S B σ (.sl ex k []) (.slice base 0 cap)
 | sl {ex:Bool} {k:Nat} {l:ψ} (b o cap:Nat) (w:Nat->Nat->Value):(ex=true->cap=l.length)->l.length<=cap->(∀(i:Nat) (e:Ψ),l[i]?=some e->e.cells.length=k)->
   (∀(i:Nat) (e:Ψ),l[i]?=some e->∀(j:Nat) (c:Ψ),e.cells[j]?=some c->S b (o+i*k+j)=some (w i j))->(∀(i:Nat) (e:Ψ),l[i]?=some e->∀(j:Nat) (c:Ψ),e.cells[j]?=some c->Θ S B σ c (w i j))->Θ S B σ (.sl ex k l) (.slice (some ⟨b,o,none⟩) l.length cap)
 | Z6 {l:ψ} (vs:ν):l.length=vs.size->(∀(i:Nat) (a:Ψ) (v:Value),l[i]?=some a->vs[i]?=some v->Θ S B σ a v)->Θ S B σ (.Z6 l) (.agg vs)
 | ε {l:ψ} (vs:ν):l.length=vs.size->(∀(i:Nat) (a:Ψ) (v:Value),l[i]?=some a->vs[i]?=some v->Θ S B σ a v)->Θ S B σ (.ε l) (.tuple vs)
 | π {id n i j k:Nat} {t:TypeId} {l:ψ} {b N:Nat}:σ[id]?=some (.cells t k l)->l.length=n->B[id]?=some (some (b,N))->Θ S B σ (.π id n i j) (.pointer (some ⟨b,i*k+j,none⟩))
 | VI {id n i j:Nat} {r:Row} (v:Value):σ[id]?=some r->r.Xx n->One v->Θ S B σ (.π id n i j) v
 | ms {id n i len:Nat} {t:TypeId} {k:Nat} {l:ψ} {bo:Option (Nat×Nat)} {base:Option Addr} (cap:Nat):σ[id]?=some (.cells t k l)->l.length=n->B[id]?=some bo->i+len<=n->n<=i+cap->
   (cap=0\/∃b N,bo=some (b,N)/\base=some ⟨b,i*k,none⟩/\(i+cap)*k<=N)->Θ S B σ (.ms id n i len) (.slice base len cap)
 | Wu {id n i len:Nat} {r:Row} (v:Value):σ[id]?=some r->r.Xx n->One v->Θ S B σ (.ms id n i len) v
 | fn {f:Fn} {d cs:ψ} (vs g:ν):d.length=vs.size->cs.length=g.size->(∀(i:Nat) (a:Ψ) (v:Value),d[i]?=some a->vs[i]?=some v->Θ S B σ a v)->(∀(i:Nat) (a:Ψ) (v:Value),cs[i]?=some a->g[i]?=some v->Θ S B σ a v)->Θ S B σ (.fn f d cs) (.func f vs g)
 | Xi {t:TypeId} {a:Ψ} (v:Value):Θ S B σ a v->Θ S B σ (.Xi t a) (.iface t v)
 | mp {id:Nat} {es:List (Ψ×Ψ)} {b N:Nat}:σ[id]?=some (.map es)->B[id]?=some (some (b,N))->Θ S B σ (.mp id) (.map (some b))
 | Uf {id:Nat} (v:Value):σ[id]?=some .dead->Θ S B σ (.mp id) v
 | it {id m:Nat} {left:List (Ψ×Ψ)} {h:Option (Ψ×Ψ)} {b N:Nat}:σ[id]?=some (.iter m left h)->B[id]?=some (some (b,N))->Θ S B σ (.it id) (.pointer (some ⟨b,0,none⟩))
 | SC {id pos:Nat} {s:ByteArray} {b N:Nat}:σ[id]?=some (.str s pos)->B[id]?=some (some (b,N))->Θ S B σ (.it id) (.pointer (some ⟨b,0,none⟩))
 | TM {id:Nat} (v:Value):σ[id]?=some .dead->Θ S B σ (.it id) v
 | Zx (v:Value):Θ S B σ .Zx v
def Row.to (r r':Row) (b d:Option (Option (Nat×Nat))):Prop:=
 match r with
 | .cells t k l=>(∃e,r'=.cells t k e/\e.length=l.length/\d=b)\/∀n,n<=l.length->r'.Xx n
 | .map _=>(∃es',r'=.map es'/\d=b)\/r'=.dead
 | .iter m _ _=>(∃f g,r'=.iter m f g/\d=b)\/r'=.dead
 | .str s _=>(∃h,r'=.str s h/\d=b)\/r'=.dead
 | .loop L _ i a bd nt env=>(∃j,r'=.loop L j i a bd nt env/\d=b)\/r'=.dead
 | .own c o l=>(∃e,r'=.own c o e/\e.length=l.length/\d=b)\/r'=.dead
 | .dead=>r'=.dead
structure ZJ (S S':ς) (B B':δ) (σ σ':Ρ):Prop where
 Zf:∀b o v,S b o=some v->S' b o=some v
 rows:∀(id:Nat) (r:Row),σ[id]?=some r->∃r':Row,σ'[id]?=some r'/\r.to r' B[id]? B'[id]?
theorem Row.Tb (r:Row) (b:Option (Option (Nat×Nat))):r.to r b b:=by
 cases r with
 | cells t k l=>exact .inl ⟨l,rfl,rfl,rfl⟩
 | map es=>exact .inl ⟨es,rfl,rfl⟩
 | iter m l c=>exact .inl ⟨l,c,rfl,rfl⟩
 | str s p=>exact .inl ⟨p,rfl,rfl⟩
 | loop L st d a bd nt env=>exact .inl ⟨st,rfl,rfl⟩
 | own c o l=>exact .inl ⟨l,rfl,rfl,rfl⟩
 | dead=>rfl
theorem ZJ.refl (S:ς) (B:δ) (σ:Ρ):ZJ S S B B σ σ:=⟨λ_ _ _ h=>h,λ_ r h=>⟨r,h,r.Tb _⟩⟩
theorem Row.FE {r r':Row} {b f:Option (Option (Nat×Nat))} {n:Nat} (h:r.to r' b f) (d:r.Xx n):r'.Xx n:=by
 cases r with
 | cells t k l=>
  rcases h with⟨e,rfl,i,_⟩|h
  .simp only[Row.Xx] at d ⊢;omega
  .exact h n (RG d)
 | map es=>rcases h with⟨es',rfl,_⟩|rfl<;>trivial
 | iter m l c=>rcases h with⟨e,c',rfl,_⟩|rfl<;>trivial
 | str s p=>rcases h with⟨g,rfl,_⟩|rfl<;>trivial
 | loop L st j a bd nt env=>rcases h with⟨g,rfl,_⟩|rfl<;>trivial
 | own c o l=>rcases h with⟨e,rfl,_⟩|rfl<;>trivial
 | dead=>cases h;trivial
theorem Row.xA {r r' i:Row} {b j u:Option (Option (Nat×Nat))} (h:r.to r' b j) (k:r'.to i j u):r.to i b u:=by
 cases r with
 | cells t e l=>
  rcases h with⟨v,rfl,d,rfl⟩|h
  .rcases k with⟨f,rfl,g,rfl⟩|k
   .exact .inl ⟨f,U,g.trans d,U⟩
   .exact .inr λn w=>k n I
  .exact .inr λn w=>Row.FE k (h n w)
 | map es=>
  rcases h with⟨es',rfl,rfl⟩|rfl
  .exact k
  .cases k;exact .inr U
 | iter m l c=>
  rcases h with⟨v,c',rfl,rfl⟩|rfl
  .exact k
  .cases k;exact .inr U
 | str s p=>
  rcases h with⟨x,rfl,rfl⟩|rfl
  .exact k
  .cases k;exact .inr U
 | loop L st y a bd nt env=>
  rcases h with⟨x,rfl,rfl⟩|rfl
  .exact k
  .cases k;exact .inr U
 | own c o l=>
  rcases h with⟨v,rfl,d,rfl⟩|rfl
  .rcases k with⟨f,rfl,g,rfl⟩|rfl
   .exact .inl ⟨f,U,g.trans d,U⟩
   .exact .inr U
  .cases k;exact .inr U
 | dead=>cases h;exact k
theorem ZJ.trans {S S' a:ς} {B B' c:δ} {σ σ' d:Ρ} (h:ZJ S S' B B' σ σ') (k:ZJ S' a B' c σ' d):ZJ S a B c σ d:=
 ⟨λb o v x=>k.Zf b o v (h.Zf b o v x),λid r e=>by
  obtain⟨r',f,g⟩:=h.rows id r e;obtain⟨i,j,l⟩:=k.rows id r' f;exact⟨i,j,Row.xA g l⟩⟩
theorem Θ.later {S S':ς} {B B':δ} {σ σ':Ρ} (l:ZJ S S' B B' σ σ') {a:Ψ} {v:Value} (h:Θ S B σ a v):Θ S' B' σ' a v:=by
 induction h with
 | z v=>exact .z v
 | Ν b o w d _ m=>exact .Ν b o w (λj a r=>l.Zf _ _ _ (d j a r)) m
 | WJ base cap h=>exact .WJ base cap h
 | sl b o cap w d k p s _ m=>exact .sl b o cap w d k p (λi e hi j c r=>l.Zf _ _ _ (s i e hi j c r)) m
 | Z6 vs d _ m=>exact .Z6 vs d m
 | ε vs d _ m=>exact .ε vs d m
 | π d k p=>
  obtain⟨r',f,g⟩:=l.rows _ _ d;rcases g with⟨x,rfl,t,n⟩|g
  .exact .π f (t.trans k) (by rw[n];exact p)
  .exact .VI _ f (g _ I) trivial
 | VI v d k u=>
  obtain⟨r',f,g⟩:=l.rows _ _ d;exact .VI _ f (Row.FE g k) u
 | ms cap d k p s y A=>
  obtain⟨r',f,g⟩:=l.rows _ _ d;rcases g with⟨x,rfl,t,n⟩|g
  .exact .ms cap f (t.trans k) (by rw[n];exact p) s y A
  .exact .Wu _ f (g _ I) trivial
 | Wu v d k u=>
  obtain⟨r',f,g⟩:=l.rows _ _ d;exact .Wu _ f (Row.FE g k) u
 | fn vs C d k _ _ D E=>exact .fn vs C d k D E
 | Xi v _ m=>exact .Xi v m
 | mp d k=>
  obtain⟨r',f,g⟩:=l.rows _ _ d;rcases g with⟨es',rfl,n⟩|rfl
  .exact .mp f (by rw[n];exact k)
  .exact .Uf _ f
 | Uf v d=>
  obtain⟨r',f,g⟩:=l.rows _ _ d;cases g;exact .Uf _ f
 | it d k=>
  obtain⟨r',f,g⟩:=l.rows _ _ d;rcases g with⟨x,c',rfl,n⟩|rfl
  .exact .it f (by rw[n];exact k)
  .exact .TM _ f
 | SC d k=>
  obtain⟨r',f,g⟩:=l.rows _ _ d;rcases g with⟨F,rfl,n⟩|rfl
  .exact .SC f (by rw[n];exact k)
  .exact .TM _ f
 | TM v d=>
  obtain⟨r',f,g⟩:=l.rows _ _ d;cases g;exact .TM _ f
 | Zx v=>exact .Zx v
def Rs (S:ς) (B:δ) (σ:Ρ) (es:List (Ψ×Ψ)) (a:Array MapEntry) (b:Nat):Prop:=
 es.length=a.size/\(∀(i:Nat) (e:Ψ×Ψ) (y:MapEntry),es[i]?=some e->a[i]?=some y->Θ S B σ e.1 y.key/\Θ S B σ e.2 y.val/\y.born<b)/\
 ∀(i j:Nat) (y z:MapEntry),a[i]?=some y->a[j]?=some z->i<j->y.born<z.born
def Iq (S:ς) (B:δ) (σ:Ρ) (left:List (Ψ×Ψ)) (d:Option (Ψ×Ψ)) (a:Array MapEntry) (f:Nat) (seen:Array Nat):Prop:=
 (∃b:List MapEntry,b=a.toList.filter (λe=>!seen.contains e.born)/\left.length=b.length/\∀(i:Nat) (e:Ψ×Ψ) (y:MapEntry),left[i]?=some e->b[i]?=some y->Θ S B σ e.1 y.key/\Θ S B σ e.2 y.val)/\
 (∀y∈a,y.born<f)/\
 ∀e,d=some e->∃c y,seen.back?=some c/\a.find? (·.born==c)=some y/\Θ S B σ e.1 y.key/\Θ S B σ e.2 y.val
abbrev Β:=List (Nat×Ψ)
abbrev Yb:=Ψ->Β->Ρ->Prop
abbrev XD:=ZA->Β->Ρ->Prop
def ι:Β->Nat->Ψ
 | [],_=>.Zx
 |(j,a)::r,i=>if j=i then a else ι r i
def Wi (S:ς) (B:δ) (σ:Ρ) (H:Υ) (r:Row) (bo:Option (Nat×Nat)):Prop:=
 match r with
 | .cells t k l=>match bo with
  | none=>l=[]
  | some (b,N)=>H.row b=some (t,N)/\l.length*k<=N/\(∀o,o<N->∃w,H.ω b o=some (w,true))/\
   ∃w:Nat->Nat->Value,∀(i:Nat) (e:Ψ),l[i]?=some e->e.cells.length=k/\∀(j:Nat) (a:Ψ),e.cells[j]?=some a->H.ω b (i*k+j)=some (w i j,true)/\Θ S B σ a (w i j)/\One (w i j)
 | .map es=>∃b N h g,bo=some (b,N)/\H.obj b=some (.map h g)/\Rs S B σ es h g
 | .iter m left p=>∃b N n u h g seen,bo=some (b,N)/\B[m]?=some (some (n,u))/\(∃es,σ[m]?=some (.map es))/\H.obj b=some (.mapIter (some n) g seen g)/\H.obj n=some (.map h g)/\Iq S B σ left p h g seen
 | .str s pos=>∃b N,bo=some (b,N)/\H.obj b=some (.stringIter s pos)
 | .loop L st v a bd nt env=>∃N f d t,bo=some (L,N)/\H.obj L=some (.loop {state:=st,pending:=none,fn:=f,tmps:=t,params:=v,assign:=a,body:=bd,defers:=d})/\t.size=nt/\∀i,Θ S B σ (ι env i) (t.getD i undef)
 | .own c o l=>∃N t M,bo=some (c,N)/\H.row c=some (t,M)/\∃w:Nat->Value,∀(j:Nat) (a:Ψ),l[j]?=some a->H.ω c (o+j)=some (w j,true)/\Θ S B σ a (w j)/\One (w j)
 | .dead=>True
def Row.live (r:Row):Prop:=match r with|.dead=>False|_=>True
structure Holds (S:ς) (B:δ) (σ:Ρ) (H:Υ):Prop where
 Zf:∀b o v,S b o=some v->∃p,H.ω b o=some (v,p)
 len:B.length=σ.length
 row:∀(id:Nat) (r:Row) (bo:Option (Nat×Nat)),σ[id]?=some r->B[id]?=some bo->Wi S B σ H r bo
 inj:∀(i j:Nat) (a c:Row) (b d e:Nat),i≠j->σ[i]?=some a->σ[j]?=some c->a.live->c.live->B[i]?=some (some (b,d))->B[j]?=some (some (b,e))->False
 sep:∀(id:Nat) (r:Row) (b N:Nat),σ[id]?=some r->r.live->B[id]?=some (some (b,N))->∀o,S b o=none
def δ.has (B:δ) (b:Nat):Prop:=∃N,some (b,N)∈B
def TK (c:ς) (a H:Υ) (b:Nat):Prop:=
 (∀o,H.ω b o=a.ω b o\/∃v p,c b o=some v/\a.ω b o=some (v,p)/\H.ω b o=some (v,false))/\H.row b=a.row b/\H.obj b=a.obj b
theorem TK.of {c:ς} {a H:Υ} {b:Nat} (h:(∀o,H.ω b o=a.ω b o)/\H.row b=a.row b/\H.obj b=a.obj b):TK c a H b:=⟨λo=>.inl (h.1 o),h.2⟩
structure Ext (c:ς) (d:δ) (a:Υ) (S:ς) (B:δ) (H:Υ):Prop where
 Zf:∀b o v,c b o=some v->S b o=some v
 X0:∀b,¬d.has b->¬a.fresh b->TK c a H b
 blocks:∀b,B.has b->d.has b\/a.fresh b
 TJ:∀b o v,S b o=some v->c b o=some v\/d.has b\/a.fresh b
 grow:∀b,H.fresh b->a.fresh b
theorem Ext.refl (S:ς) (B:δ) (H:Υ):Ext S B H S B H:=⟨λ_ _ _ h=>h,λ_ _ _=>TK.of ⟨λ_=>rfl,rfl,rfl⟩,λ_ h=>.inl h,λ_ _ _ h=>.inl h,λ_ h=>h⟩
theorem Ext.trans {l m n:ς} {r d s:δ} {t f w:Υ} (h:Ext l r t m d f) (k:Ext m d f n s w):Ext l r t n s w:=by
 refine⟨λb o v x=>k.Zf b o v (h.Zf b o v x),λb a c=>?_,λb a=>?_,λb o v hv=>?_,λb x=>h.grow b (k.grow b x)⟩
 .have g:=h.X0 b a c
  have D:¬f.fresh b:=λx=>c (h.grow b x)
  have E:¬d.has b:=λx=>(h.blocks b x).elim a c
  have i:=k.X0 b E D;refine⟨λo=>?_,i.2.1.trans g.2.1,i.2.2.trans g.2.2⟩;rcases i.1 o with x|⟨v,p,A,F,B⟩<;>rcases g.1 o with y|⟨u,q,j,C,H⟩
  .exact .inl (x.trans y)
  .exact .inr ⟨u,q,j,C,x.trans H⟩
  .rcases h.TJ b o v A with z|z|z
   .exact .inr ⟨v,p,z,by rw[<-y];exact F,B⟩
   .exact absurd z a
   .exact absurd z c
  .have e:=h.Zf b o u j
   have:v=u:=by rw[A] at e;exact WU e
   subst this;exact .inr ⟨v,q,j,C,B⟩
 .rcases k.blocks b a with x|x
  .exact h.blocks b x
  .exact .inr (h.grow b x)
 .rcases k.TJ b o v hv with x|x|x
  .exact h.TJ b o v x
  .exact .inr (h.blocks b x)
  .exact .inr (.inr (h.grow b x))
def Zg (S:ς) (B:δ) (σ:Ρ) (env:Β) (t:ν):Prop:=∀i,Θ S B σ (ι env i) (t.getD i undef)
theorem Zg.later {S S':ς} {B B':δ} {σ σ':Ρ} {env:Β} {t:ν} (h:Zg S B σ env t) (a:ZJ S S' B B' σ σ'):Zg S' B' σ' env t:=λi=>(h i).later a
theorem Zg.put {S:ς} {B:δ} {σ:Ρ} {env:Β} {t:ν} (h:Zg S B σ env t) {d:Nat} (hd:d<t.size) {a:Ψ} {v:Value} (b:Θ S B σ a v):Zg S B σ ((d,a)::env) (t.setIfInBounds d v):=by
 intro i;simp only[ι];split
 .rename_i e;subst e;simpa[Wn,hd] using b
 .rename_i e;have:=h i;rw[Wn] at this ⊢
  rwa [UK e]
theorem Ue {S:ς} {B:δ} {σ:Ρ} {H:Υ} (a:Holds S B σ H) {id:Nat} {r:Row} (h:σ[id]?=some r):∃bo,B[id]?=some bo:=by
 have:id<B.length:=by rw[a.len];exact(ZR.1 h).1
 exact⟨_,Z4 this⟩
def V3:TypeDesc->Bool
 | .struct _|.array _ _=>true
 | _=>false
section
variable {P:Program} {α β:Type} {G:Υ} {E:Value->Υ->Prop}
theorem Χ.mono {K K':α->Υ->Prop} {E':Value->Υ->Prop} (j:∀a G,K a G->K' a G) (l:∀v G,E v G->E' v G) (s:Sem α):∀{G:Υ},Χ P s G K E->Χ P s G K' E':=by
 induction s with
 | pure a=>intro G h;exact j _ _ h
 | load m a k b=>intro G ⟨d,e,v,p,f,g⟩;exact⟨d,e,v,p,f,b v g⟩
 | store m a v k b=>intro G ⟨d,e,f,g,u,w⟩;exact⟨d,e,f,g,u,b w⟩
 | new o k b=>
  intro G h;cases o with
  | cells c t y=>exact⟨h.1,λr i=>b r (h.2 r i)⟩
  | _=>exact λr i=>b r (h r i)
 | shape r k b=>intro G ⟨t,n,d,e⟩;exact⟨t,n,d,b _ e⟩
 | freeze a n k b=>intro G ⟨d,e⟩;exact⟨d,b e⟩
 | frozen a k b=>intro G ⟨d,e⟩;exact⟨d,b _ e⟩
 | getObj r k b=>intro G ⟨o,d,e,f⟩;exact⟨o,d,e,b _ f⟩
 | setObj r o k b=>intro G ⟨d,e,f,g⟩;exact⟨d,e,f,b g⟩
 | choose q k b=>
  intro G h;simp only[Χ] at h ⊢;split
  .rw[if_pos ‹_›] at h;exact b _ h
  .rw[if_neg ‹_›] at h;exact λn=>b _ (h n)
 | sys c k b=>intro G h;exact h.elim
 | program k b=>intro G h;exact b P h
 | mark m k b=>intro G ⟨d,e⟩;exact⟨d,b e⟩
 | halt x=>
  intro G h;cases x<;>first|exact h.elim|exact l _ _ h
theorem Χ.bind {f:α->Sem β} {K:β->Υ->Prop} (s:Sem α):∀{G:Υ},Χ P s G (λa G'=>Χ P (f a) G' K E) E->Χ P (s.bind f) G K E:=by
 induction s with
 | pure a=>intro G h;exact h
 | load m a k b=>intro G ⟨d,e,v,p,g,i⟩;exact⟨d,e,v,p,g,b v i⟩
 | store m a v k b=>intro G ⟨d,e,g,i,l,u⟩;exact⟨d,e,g,i,l,b u⟩
 | new o k b=>
  intro G h;cases o with
  | cells c t w=>exact⟨h.1,λr j=>b r (h.2 r j)⟩
  | _=>exact λr j=>b r (h r j)
 | shape r k b=>intro G ⟨t,n,d,e⟩;exact⟨t,n,d,b _ e⟩
 | freeze a n k b=>intro G ⟨d,e⟩;exact⟨d,b e⟩
 | frozen a k b=>intro G ⟨d,e⟩;exact⟨d,b _ e⟩
 | getObj r k b=>intro G ⟨o,d,e,g⟩;exact⟨o,d,e,b _ g⟩
 | setObj r o k b=>intro G ⟨d,e,g,i⟩;exact⟨d,e,g,b i⟩
 | choose q k b=>
  intro G h;simp only[Χ] at h;simp only[Sem.bind,Χ];split
  .rw[if_pos ‹_›] at h;exact b _ h
  .rw[if_neg ‹_›] at h;exact λn=>b _ (h n)
 | sys c k b=>intro G h;exact h.elim
 | program k b=>intro G h;exact b P h
 | mark m k b=>intro G ⟨d,e⟩;exact⟨d,b e⟩
 | halt x=>
  intro G h;cases x<;>first|exact h.elim|exact h
theorem Χ.bind' {f:α->Sem β} {K:β->Υ->Prop} {s:Sem α} (h:Χ P s G (λa G'=>Χ P (f a) G' K E) E):Χ P (s >>= f) G K E:=Χ.bind s h
theorem Χ.pure' {a:α} {K:α->Υ->Prop} (h:K a G):Χ P (pure a) G K E:=h
theorem Χ.underlying {t:TypeId} {d:TypeDesc} {K:TypeDesc->Υ->Prop} (hd:P.underlying t=some d) (h:K d G):Χ P (Go.underlying t) G K E:=by
 unfold Go.underlying;refine Χ.bind' ?_;show Χ P (match P.underlying t with|some d=>pure d|none=>_) G K E;rw[hd];exact h
theorem Χ.typeInfo {t:TypeId} {i:TypeInfo} {K:TypeInfo->Υ->Prop} (hi:P.info? t=some i) (h:K i G):Χ P (Go.typeInfo t) G K E:=by
 unfold Go.typeInfo;refine Χ.bind' ?_;show Χ P (match P.info? t with|some i=>pure i|none=>_) G K E;have:P.info? t=some i:=hi;rw[this];exact h
theorem Χ.sizeOf {t:TypeId} {i:TypeInfo} {K:Nat->Υ->Prop} (hi:P.info? t=some i) (h:K i.size G):Χ P (Go.sizeOf t) G K E:=by
 unfold Go.sizeOf;exact Χ.bind' (Χ.typeInfo hi (Χ.pure' h))
theorem Χ.isAgg {t:TypeId} {d:TypeDesc} {K:Bool->Υ->Prop} (hd:P.underlying t=some d) (h:K (V3 d) G):Χ P (Go.isAgg t) G K E:=by
 unfold Go.isAgg;refine Χ.bind' (Χ.underlying hd ?_);cases d<;>exact h
theorem Χ.zeroValue {t:TypeId} {i:TypeInfo} {v:Value} {K:Value->Υ->Prop} (hi:P.info? t=some i) (a:i.zero=some v) (h:K v G):Χ P (Go.zeroValue t) G K E:=by
 unfold Go.zeroValue;refine Χ.bind' (Χ.typeInfo hi ?_);rw[a];exact h
theorem Χ.xz {a:Addr} (w:Nat->Value) {K:ν->Υ->Prop}:∀(n i:Nat) (b:ν),a.spot=none->(∀j,i<=j->j<i+n->∃p,G.ω a.block (a.off+j)=some (w j,p))->K (b++((List.range n).map λj=>w (i+j)).toArray) G->Χ P (loadCellsFrom a i n b) G K E:=by
 intro n
 induction n with
 | zero=>intro i b _ _ h;simp at h;exact h
 | succ n e=>
  intro i b c d h;unfold loadCellsFrom;refine Χ.bind' ?_;obtain⟨p,f⟩:=d i (ZY _) I;have g:(a.add i).spot=none:=by unfold Addr.add;split<;>simp[c]
  have k:(a.add i).block=a.block:=by unfold Addr.add;split<;>rfl
  have l:(a.add i).off=a.off+i:=by unfold Addr.add;split<;>simp_all
  refine⟨U,g,w i,p,by rw[k,l];exact f,?_⟩;refine e (i+1) (b.push (w i)) c (λj m o=>d j I I) ?_;have:b.push (w i)++((List.range n).map λj=>w (i+1+j)).toArray=b++((List.range (n+1)).map λj=>w (i+j)).toArray:=by
   rw[List.range_succ_eq_map];apply Og;simp[Function.comp_def,U9,KH 1]
  rw[this];exact h
theorem Χ.loadCells {a:Addr} (w:Nat->Value) {n:Nat} {K:ν->Υ->Prop} (b:a.spot=none) (c:∀j,j<n->∃p,G.ω a.block (a.off+j)=some (w j,p)) (h:K ((List.range n).map w).toArray G):Χ P (Go.loadCells a n) G K E:=by
 unfold Go.loadCells;exact Χ.xz w n 0 #[] b (λj _ d=>c j I) (by simpa using h)
def Υ.XW (G:Υ) (b o:Nat) (vs:List Value):Υ:={G with ω:=λa o'=>if a=b/\o<=o'/\o'<o+vs.length then some ((vs[o'-o]?).getD undef,true) else G.ω a o'}
theorem Υ.Kq {H:Υ} {b o:Nat} {vs:List Value}:∀r,(H.XW b o vs).fresh r->H.fresh r:=
 Υ.It (λa o' h=>by
  simp only[Υ.XW] at h;split at h
  .cases h
  .exact h) (λ_ h=>h) (λ_ h=>h)
theorem Χ.storeCells {a:Addr} {K:Unit->Υ->Prop} (o:a.spot=none) (p:∃t n,G.row a.block=some (t,n)):∀(vs:List Value) (i:Nat) (G':Υ),(∀v∈vs,One v)->(∀j,i<=j->j<i+vs.length->G'.owns a.block (a.off+j))->(G'.row=G.row)->K () (G'.XW a.block (a.off+i) vs)->Χ P (Go.storeCells a vs i) G' K E:=by
 intro vs
 induction vs with
 | nil=>
  intro i G' _ _ _ h;have:G'.XW a.block (a.off+i) []=G':=by
   unfold Υ.XW;have:∀b o',¬(b=a.block/\a.off+i<=o'/\o'<a.off+i+([]:List Value).length):=λb o' h=>by simp at h;omega
   simp only[this,if_false]
  rw[this] at h;exact h
 | cons v vs r=>
  intro i G' k l m h;unfold Go.storeCells;refine Χ.bind' ?_;have s:(a.add i).spot=none:=by unfold Addr.add;split<;>simp[o]
  have c:(a.add i).block=a.block:=by unfold Addr.add;split<;>rfl
  have e:(a.add i).off=a.off+i:=by unfold Addr.add;split<;>simp_all
  refine⟨U,s,by rw[c,e];exact l i (ZY _) Ω,by rw[c,m];exact p,k v Ω,?_⟩;refine r (i+1) _ (λv hv=>k v (by simp[hv])) (λj f g=>?_) m ?_
  .obtain⟨u,w⟩:=l j I (by simp;omega);refine⟨u,?_⟩;simp only[Υ.Ru,c,e];rw[if_neg I];exact w
  .have:(G'.Ru (a.add i) v).XW a.block (a.off+(i+1)) vs=G'.XW a.block (a.off+i) (v::vs):=by
    unfold Υ.XW Υ.Ru;simp only[c,e];congr 1
    funext b o'
    by_cases d:b=a.block
    .subst d;by_cases f:o'=a.off+i
     .subst f;rw[if_neg I,if_pos ⟨U,rfl⟩,if_pos ⟨U,I,Ω⟩];simp
     .by_cases g:a.off+(i+1)<=o'/\o'<a.off+(i+1)+vs.length
      .rw[if_pos ⟨U,g⟩,if_pos ⟨U,I,by simp;omega⟩];have:o'-(a.off+i)=(o'-(a.off+(i+1)))+1:=I;rw[this,List.getElem?_cons_succ]
      .rw[if_neg (by intro x;exact g x.2),if_neg (by intro x;exact f x.2),if_neg (by intro x;simp at x;omega)]
    .rw[if_neg (λx=>d x.1),if_neg (λx=>d x.1),if_neg (λx=>d x.1)]
   rw[this];exact h
end
def Vk (H H':Υ) (b:Nat):Prop:=(∀o,H'.ω b o=H.ω b o)/\H'.row b=H.row b/\H'.obj b=H.obj b
theorem TK.QV {a:ς} {c H:Υ} {b:Nat} (h:TK a c H b) (e:∀o,a b o=none):Vk c H b:=
 ⟨λo=>(h.1 o).elim id λ⟨v,p,d,_⟩=>(by rw[e o] at d;cases d),h.2⟩
section
variable {S S':ς} {B B':δ} {σ σ':Ρ} {H H':Υ}
theorem Rs.later (c:ZJ S S' B B' σ σ') {es:List (Ψ×Ψ)} {d:Array MapEntry} {f:Nat} (h:Rs S B σ es d f):Rs S' B' σ' es d f:=
 ⟨h.1,λi e y a b=>⟨(h.2.1 i e y a b).1.later c,(h.2.1 i e y a b).2.1.later c,(h.2.1 i e y a b).2.2⟩,h.2.2⟩
theorem Iq.later (f:ZJ S S' B B' σ σ') {left:List (Ψ×Ψ)} {g:Option (Ψ×Ψ)} {j:Array MapEntry} {k:Nat} {seen:Array Nat} (h:Iq S B σ left g j k seen):Iq S' B' σ' left g j k seen:=by
 obtain⟨⟨m,n,o,l⟩,p,r⟩:=h;refine⟨⟨m,n,o,λi e y a b=>⟨(l i e y a b).1.later f,(l i e y a b).2.later f⟩⟩,p,λe s=>?_⟩;obtain⟨st,y,a,b,c,d⟩:=r e s;exact⟨st,y,a,b,c.later f,d.later f⟩
theorem Wi.later (u:ZJ S S' B B' σ σ') {r:Row} {bo:Option (Nat×Nat)} (h:Wi S B σ H r bo) (p:∀b N,bo=some (b,N)->Vk H H' b)
  (P:∀m left C,r=.iter m left C->σ'[m]?=σ[m]?/\B'[m]?=B[m]?/\∀b N,B[m]?=some (some (b,N))->Vk H H' b):Wi S' B' σ' H' r bo:=by
 cases r with
 | cells t k l=>
  cases bo with
  | none=>exact h
  | some x=>
   obtain⟨b,N⟩:=x;obtain⟨y,D,_⟩:=p b N U;obtain⟨g,n,v,w,A⟩:=h;refine⟨by rw[D];exact g,n,λo Q=>by rw[y];exact v o Q,w,λi e hi=>⟨(A i e hi).1,λj a E=>?_⟩⟩;obtain⟨c1,c2,F⟩:=(A i e hi).2 j a E;exact⟨by rw[y];exact c1,c2.later u,F⟩
 | map es=>
  obtain⟨b,N,I,J,rfl,g,n⟩:=h;exact⟨b,N,I,J,U,by rw[(p b N U).2.2];exact g,n.later u⟩
 | iter m left C=>
  obtain⟨b,N,K,O,I,J,seen,rfl,g,n,v,A,R⟩:=h;obtain⟨T,V,W⟩:=P m left C U;exact⟨b,N,K,O,I,J,seen,U,by rw[V];exact g,by rw[T];exact n,by rw[(p b N U).2.2];exact v,by rw[(W K O g).2.2];exact A,R.later u⟩
 | str s pos=>
  obtain⟨b,N,rfl,g⟩:=h;exact⟨b,N,U,by rw[(p b N U).2.2];exact g⟩
 | loop L st X a bd nt env=>
  obtain⟨N,f,d,t,rfl,g,n,v⟩:=h;exact⟨N,f,d,t,U,by rw[(p L N U).2.2];exact g,n,λi=>(v i).later u⟩
 | own c o l=>
  obtain⟨N,t,M,rfl,g,w,n⟩:=h;obtain⟨y,D,_⟩:=p c N U;refine⟨N,t,M,U,by rw[D];exact g,w,λj a E=>?_⟩;obtain⟨c1,c2,F⟩:=n j a E;exact⟨by rw[y];exact c1,c2.later u,F⟩
 | dead=>trivial
theorem TI {id:Nat} {b N:Nat} (h:B[id]?=some (some (b,N))):B.has b:=⟨N,ZH h⟩
theorem Holds.Sd (p:Holds S B σ H) {id b N:Nat} {r:Row} (u:σ[id]?=some r) (v:r.live) (w:B[id]?=some (some (b,N))):¬H.fresh b:=λi=>by
 have h:=p.row id r _ u w;cases r with
 | cells t k l=>have:=h.1;rw[i.2.1] at this;cases this
 | map es=>
  obtain⟨n,j,x,y,e,g,_⟩:=h;cases e;rw[i.2.2.1] at g;cases g
 | iter m left A=>
  obtain⟨n,j,C,D,x,y,seen,e,_,_,g,_⟩:=h;cases e;rw[i.2.2.1] at g;cases g
 | str s pos=>
  obtain⟨n,j,e,g⟩:=h;cases e;rw[i.2.2.1] at g;cases g
 | loop L st E a bd nt env=>
  obtain⟨j,f,d,t,e,g,_⟩:=h;cases e;rw[i.2.2.1] at g;cases g
 | own c o l=>
  obtain⟨j,t,M,e,g,_⟩:=h;cases e;rw[i.2.1] at g;cases g
 | dead=>exact v
theorem xy {id:Nat} {r r':Row} {bo bo':Option (Nat×Nat)} (b:σ[id]?=some r) (c:B[id]?=some bo) (f:r.to r' (some bo) (some bo')):ZJ S S B (B.set id bo') σ (σ.set id r'):=by
 have g:id<σ.length:=(ZR.1 b).1
 have i:id<B.length:=(ZR.1 c).1;refine⟨λ_ _ _ h=>h,λj d a=>?_⟩;by_cases e:id=j
 .subst e;rw[b] at a;cases a;refine⟨r',by rw[Xs g],?_⟩;rw[c,Xs i];exact f
 .exact⟨d,by rw[Xj e];exact a,by rw[Xj e];exact d.Tb _⟩
theorem Holds.Sc (g:Holds S B σ H) {id:Nat} {r r':Row} {bo bo':Option (Nat×Nat)} (w:σ[id]?=some r) (C:r.live) (t:B[id]?=some bo) (ag:r.to r' (some bo) (some bo'))
  (A:∀b u,bo'=some (b,u)->(∃N,bo=some (b,N))\/H.fresh b) (L:∀b,(∀N,bo≠some (b,N))->(∀N,bo'≠some (b,N))->Vk H H' b) (ah:∀b,H'.fresh b->H.fresh b)
  (ai:∀(j:Nat) left M,σ[j]?≠some (Row.iter id left M)) (aj:ZJ S S B (B.set id bo') σ (σ.set id r')->Wi S (B.set id bo') (σ.set id r') H' r' bo') :
  Holds S (B.set id bo') (σ.set id r') H'/\Ext S B H S (B.set id bo') H'/\ZJ S S B (B.set id bo') σ (σ.set id r'):=by
 have O:=xy (S:=S) w t ag
 have ak:id<σ.length:=(ZR.1 w).1
 have D:id<B.length:=(ZR.1 t).1
 have Y:∀(j:Nat) (f:Row) (b N:Nat),j≠id->σ[j]?=some f->f.live->B[j]?=some (some (b,N))->Vk H H' b:=λj f b N c P k d=>by
  refine L b (λu e=>?_) (λu e=>?_)
  .exact g.inj j id f r b N u c P w k C d (by rw[t,e])
  .rcases A b u e with⟨n,a⟩|a
   .exact g.inj j id f r b N n c P w k C d (by rw[t,a])
   .exact g.Sd P k d a
 refine⟨⟨λb o v hv=>?_,by simp[g.len],λj f Z c d=>?_,λi j l f b I E J hi c Q k R d=>?_,λj f b N c k d o=>?_⟩,⟨λ_ _ _ h=>h,λb K al=>?_,λb K=>?_,λb o v hv=>.inl hv,ah⟩,O⟩
 .have aa:=g.Zf b o v hv
  have ab:∀N,bo≠some (b,N):=λN e=>by
   have:=g.sep id r b N w C (by rw[t,e]) o;rw[hv] at this;cases this
  have am:∀N,bo'≠some (b,N):=λN e=>by
   rcases A b N e with⟨n,a⟩|a
   .exact ab n a
   .obtain⟨p,F⟩:=aa;rw[a.1 o] at F;cases F
  rw[(L b ab am).1];exact aa
 .by_cases e:id=j
  .subst e;rw[Xs ak] at c;rw[Xs D] at d;cases c;cases d;exact aj O
  .rw[Xj e] at c d;by_cases k:f.live
   .refine(g.row j f Z c d).later O (λb N an=>Y j f b N (YV e) c k (by rw[d,an])) λm left M ao=>?_;subst ao;have T:id≠m:=λx=>by subst x;exact ai j left M c
    refine⟨by rw[Xj T],by rw[Xj T],λb N ap=>?_⟩;obtain⟨_,_,au,av,aw,ax,seen,_,s,⟨es,a⟩,_⟩:=g.row j _ Z c d;exact Y m _ b N (YV T) a trivial ap
   .cases f<;>first|exact absurd trivial k|trivial
 .have U:∀(i:Nat) (l:Row) (N:Nat),(σ.set id r')[i]?=some l->l.live->(B.set id bo')[i]?=some (some (b,N))->i≠id->(σ[i]?=some l/\B[i]?=some (some (b,N))):=λi l N s _ y V=>by
   rw[Xj (YV V)] at s y;exact⟨s,y⟩
  have ad:∀(i:Nat) (l:Row) (N u:Nat),i≠id->σ[i]?=some l->l.live->B[i]?=some (some (b,N))->bo'=some (b,u)->False:=λi l N u V s a y W=>by
   rcases A b u W with⟨n,X⟩|X
   .exact g.inj i id l r b N n V s w a C y (by rw[t,X])
   .exact g.Sd s a y X
  by_cases ae:i=id
  .subst ae;rw[Xs D] at R;obtain⟨s,a⟩:=U j f E c k d (YV J);exact ad j f E I (YV J) s k a (by simpa using R)
  .obtain⟨s,a⟩:=U i l I hi Q R ae;by_cases af:j=id
   .subst af;rw[Xs D] at d;exact ad i l I E J s Q a (by simpa using d)
   .obtain⟨y,W⟩:=U j f E c k d af;exact g.inj i j l f b I E J s y Q k a W
 .by_cases e:id=j
  .subst e;rw[Xs D] at d;have aq:bo'=some (b,N):=by simpa using d
   rcases A b N aq with⟨n,a⟩|a
   .exact g.sep id r b n w C (by rw[t,a]) o
   .cases hv:S b o with
    | none=>rfl
    | some v=>obtain⟨p,F⟩:=g.Zf b o v hv;rw[a.1 o] at F;cases F
  .rw[Xj e] at c d;exact g.sep j f b N c k d o
 .refine TK.of (L b (λN e=>K (TI (id:=id) (N:=N) (by rw[t,e]))) λN e=>?_);rcases A b N e with⟨n,a⟩|a
  .exact K (TI (id:=id) (N:=n) (by rw[t,a]))
  .exact al a
 .obtain⟨N,ar⟩:=K;obtain⟨j,c⟩:=TU ar;by_cases e:id=j
  .subst e;rw[Xs D] at c;rcases A b N (by simpa using c) with⟨n,a⟩|a
   .exact .inl (TI (id:=id) (N:=n) (by rw[t,a]))
   .exact .inr a
  .rw[Xj e] at c;exact .inl (TI c)
theorem xx {r:Row} {bo:Option (Nat×Nat)} (d:B.length=σ.length):ZJ S S B (B++[bo]) σ (σ++[r]):=by
 refine⟨λ_ _ _ h=>h,λj a b=>?_⟩;have c:=(ZR.1 b).1;exact⟨a,by rw[YN c];exact b,by rw[YN I];exact a.Tb _⟩
theorem Holds.push (d:Holds S B σ H) {r:Row} {bo:Option (Nat×Nat)} (g:∀b N,bo=some (b,N)->H.fresh b) (F:∀b,(∀N,bo≠some (b,N))->Vk H H' b)
  (aa:ZJ S S B (B++[bo]) σ (σ++[r])->Wi S (B++[bo]) (σ++[r]) H' r bo) :
  Holds S (B++[bo]) (σ++[r]) H'/\Ext S B H S (B++[bo]) H'/\ZJ S S B (B++[bo]) σ (σ++[r]):=by
 have K:=xx (S:=S) (r:=r) (bo:=bo) d.len
 have C:=d.len
 have ab:∀b,H'.fresh b->H.fresh b:=by
  have u:∀b,((∀o,H'.ω b o=none)->∀o,H.ω b o=none)/\(H'.row b=none->H.row b=none)/\(H'.obj b=none->H.obj b=none):=λb=>by
   by_cases e:∀N,bo≠some (b,N)
   .obtain⟨ad,ae,af⟩:=F b e;exact⟨λh o=>by rw[<-ad o];exact h o,λh=>by rw[<-ae];exact h,λh=>by rw[<-af];exact h⟩
   .obtain⟨N,L⟩:=Classical.not_forall.1 e;have D:=g b N (Classical.not_not.1 L);exact⟨λ_=>D.1,λ_=>D.2.1,λ_=>D.2.2.1⟩
  exact λb w=>⟨(u b).1 w.1,(u b).2.1 w.2.1,(u b).2.2 w.2.2.1,λA M=>⟨(u A).1 (w.2.2.2 A M).1,(u A).2.1 (w.2.2.2 A M).2.1,(u A).2.2 (w.2.2.2 A M).2.2⟩⟩
 have P:∀(j:Nat) (c:Row) (b N:Nat),σ[j]?=some c->c.live->B[j]?=some (some (b,N))->Vk H H' b:=λj c b N ag f a=>
  F b λah e=>d.Sd ag f a (g b ah e)
 have J:∀{O:Type} (l:List O) (x:O) (j:Nat) (y:O),(l++[x])[j]?=some y->(j<l.length/\l[j]?=some y)\/(j=l.length/\x=y):=λl x j y h=>by
  by_cases k:j<l.length
  .rw[YN k] at h;exact .inl ⟨k,h⟩
  .rw[Xz I] at h;have:j-l.length=0:=by
    have:=(ZR.1 h).1;simp at this;omega
   rw[this] at h;simp at h;exact .inr ⟨I,h⟩
 refine⟨⟨λb o v hv=>?_,by simp[C],λj c Q k a=>?_,λi j R c b T U ai hi k V f t a=>?_,λj c b N k f a o=>?_⟩,⟨λ_ _ _ h=>h,λb W D=>?_,λb W=>?_,λb o v hv=>.inl hv,ab⟩,K⟩
 .obtain⟨p,E⟩:=d.Zf b o v hv;rw[(F b λN e=>by have:=(g b N e).1 o;rw[E] at this;cases this).1];exact⟨p,E⟩
 .rcases J σ r j c k with⟨n,s⟩|⟨n,rfl⟩
  .rw[YN I] at a;by_cases f:c.live
   .refine(d.row j c Q s a).later K (λb N aj=>P j c b N s f (by rw[a,aj])) λm left an ak=>?_;subst ak;obtain⟨_,_,ao,ap,aq,ar,seen,_,au,⟨es,X⟩,_⟩:=d.row j _ Q s a;have al:=(ZR.1 X).1;exact⟨by rw[YN al],by rw[YN I],λb N am=>P m _ b N X trivial am⟩
   .cases c<;>first|exact absurd trivial f|trivial
  .rw[n,<-C] at a;simp at a;subst a;exact aa K
 .rcases J σ r i R hi with⟨n,s⟩|⟨n,rfl⟩<;>rcases J σ r j c k with⟨Y,Z⟩|⟨Y,rfl⟩
  .rw[YN I] at t a;exact d.inj i j R c b T U ai s Z V f t a
  .rw[YN I] at t;rw[Y,<-C] at a;simp at a;exact d.Sd s V t (g b U a)
  .rw[YN I] at a;rw[n,<-C] at t;simp at t;exact d.Sd Z f a (g b T t)
  .omega
 .rcases J σ r j c k with⟨n,s⟩|⟨n,rfl⟩
  .rw[YN I] at a;exact d.sep j c b N s f a o
  .rw[n,<-C] at a;simp at a;cases hv:S b o with
   | none=>rfl
   | some v=>obtain⟨p,E⟩:=d.Zf b o v hv;rw[(g b N a).1 o] at E;cases E
 .exact TK.of (F b λN e=>D (g b N e))
 .obtain⟨N,L⟩:=W;rcases Uv.1 L with h|h
  .exact .inl ⟨N,h⟩
  .simp at h;exact .inr (g b N h.symm)
def ς.lay (S:ς) (r:Nat) (c:ν):ς:=λb o=>if b=r then c[o]? else S b o
theorem Holds.lay (d:Holds S B σ H) {r:Nat} {c:ν} {t:TypeId} (f:H.fresh r) :
  Holds (S.lay r c) B σ (H.YH r c t)/\Ext S B H (S.lay r c) B (H.YH r c t)/\ZJ S (S.lay r c) B B σ σ:=by
 have A:∀o,S r o=none:=λo=>by
  cases hv:S r o with
  | none=>rfl
  | some v=>obtain⟨p,s⟩:=d.Zf r o v hv;rw[f.1 o] at s;cases s
 have u:∀b o v,S b o=some v->S.lay r c b o=some v:=λb o v h=>by
  unfold ς.lay;rw[if_neg (λe=>by subst e;rw[A] at h;cases h)];exact h
 have w:ZJ S (S.lay r c) B B σ σ:=⟨u,λ_ a h=>⟨a,h,a.Tb _⟩⟩
 have l:∀b,b≠r->Vk H (H.YH r c t) b:=λb n=>⟨λo=>by simp[Υ.YH,n],by simp[Υ.YH,n],U⟩;refine⟨⟨λb o v hv=>?_,d.len,λj a x g i=>?_,d.inj,λj a b N g k i o=>?_⟩,⟨u,λb _ C=>TK.of (l b λe=>C (e▸f)),λb n=>.inl n,λb o v hv=>?_,Υ.FF f c t⟩,w⟩
 .unfold ς.lay at hv;split at hv
  .rename_i e;subst e;exact⟨true,by simp[Υ.YH,hv]⟩
  .rename_i e;rw[(l b e).1];exact d.Zf b o v hv
 .by_cases k:a.live
  .have y:∀(j:Nat) (a:Row) (b N:Nat),σ[j]?=some a->a.live->B[j]?=some (some (b,N))->b≠r:=λj a b N D E F e=>d.Sd D E F (e▸f);refine(d.row j a x g i).later w (λb N I=>l b (y j a b N g k (by rw[i,I]))) λm left M J=>?_;subst J;obtain⟨_,_,O,P,Q,R,seen,_,T,⟨es,K⟩,_⟩:=d.row j _ x g i;exact⟨U,U,λb N L=>l b (y m _ b N K trivial L)⟩
  .cases a<;>first|exact absurd trivial k|trivial
 .unfold ς.lay;rw[if_neg (λe:b=r=>d.Sd g k i (e▸f))];exact d.sep j a b N g k i o
 .unfold ς.lay at hv;split at hv
  .rename_i e;subst e;exact .inr (.inr f)
  .exact .inl hv
end
def Kp:Value->Ψ
 | .slice none 0 0=>.sl true 0 []
 | v=>.z v
def Wh:Value->Ψ
 | .agg vs=>.Z6 (vs.toList.map Kp)
 | v=>Kp v
def ο (env:Β):Operand->Ψ
 | .tmp n=>ι env n
 | .const v=>Wh v
 | .global _=>.Zx
 | .func f=>.fn (.func f) [] []
theorem Cx {S:ς} {B:δ} {σ:Ρ} (v:Value):Θ S B σ (Kp v) v:=by
 unfold Kp;split
 .exact .WJ none 0 λ_=>rfl
 .exact .z v
theorem QU {S:ς} {B:δ} {σ:Ρ} (v:Value):Θ S B σ (Wh v) v:=by
 unfold Wh;split
 .rename_i vs;refine .Z6 vs Ω λi a w b c=>?_;rw[Ys,Xr,c] at b;cases b;exact Cx w
 .exact Cx _
theorem TH {S:ς} {B:δ} {σ:Ρ} {env:Β} {t:ν} (h:Zg S B σ env t) (o:Operand):Θ S B σ (ο env o) (ZW t o):=by
 cases o with
 | tmp n=>exact h n
 | const v=>exact QU v
 | global g=>exact .Zx _
 | func f=>exact .fn #[] #[] rfl rfl (λi a v hi=>by simp at hi) (λi a v hi=>by simp at hi)
inductive Zi where
 | ok (a:Ψ) (σ:Ρ)
 | ZD (p:Prop) (r:Zi)
 | all (n:Nat) (f:Nat->Zi)
 | bad
def Zi.holds (K:Ψ->Ρ->Prop):Zi->Prop
 | .ok a σ=>K a σ
 | .ZD p r=>p/\r.holds K
 | .all n f=>∀i,i<n->(f i).holds K
 | .bad=>False
def Cw:Next->Option Value
 | .value v=>some v
 | .skip=>some undef
 | _=>none
def Us:TypeDesc->Bool
 | .int _|.string|.bool=>true
 | _=>false
def FD (P:Program) (t:TypeId):Option (List (TypeDesc×Nat))->Prop
 | none=>True
 | some a=>P.eqGuardType P.depth t=false/\a.map (·.2)=List.range a.length/\
  ((∃b,P.underlying t=some (.struct b)/\P.stoodInHeld t=false/\a=b.toList.map (λf=>((P.underlying f.type).getD .invalid,f.offset))/\∀f∈b.toList,f.name≠ "_" /\ ∃d,P.underlying f.type=some d/\Us d=true)\/
   ∃n e d f,P.underlying t=some (.array n e)/\P.underlying e=some d/\Us d=true/\P.info? e=some f/\f.size=1/\a=(List.range n).map λi=>(d,i))
structure V2 where
 size:Nat
 Z3:TypeDesc
 zero:Value
 bytes:Nat
 eqs:Option (List (TypeDesc×Nat))
def V2.agg (i:V2):Bool:=V3 i.Z3
abbrev Z2:=TypeId->Option V2
def ZL (P:Program) (T:Z2):Prop:=∀t i,T t=some i->(P.underlying t=some i.Z3/\FD P t i.eqs)/\∃f,P.info? t=some f/\f.size=i.size/\f.zero=some i.zero/\f.bytes=i.bytes
def XS (S:ς) (B:δ) (H:Υ) (σ:Ρ) (K:Ψ->Ρ->Prop) (v:Value) (H':Υ):Prop:=
 ∃S' B' σ' a,K a σ'/\Ext S B H S' B' H'/\Holds S' B' σ' H'/\ZJ S S' B B' σ σ'/\Θ S' B' σ' a v
def Zv (P:Program) (s:Sem Value) (S:ς) (B:δ) (H:Υ) (σ:Ρ) (r:Zi):Prop:=
 ∀K:Ψ->Ρ->Prop,r.holds K->Χ P s H (XS S B H σ K) (λ_ _=>False)
def Does (P:Program) (s:Sem Next) (S:ς) (B:δ) (H:Υ) (σ:Ρ) (r:Zi):Prop:=
 ∀K:Ψ->Ρ->Prop,r.holds K->Χ P s H (λa H'=>∃v,Cw a=some v/\XS S B H σ K v H') (λ_ _=>False)
section
variable {P:Program} {T:Z2} {S:ς} {B:δ} {H:Υ} {σ:Ρ} {env:Β} {t:ν}
theorem Zv.next {s:Sem Value} {r:Zi} (h:Zv P s S B H σ r):Does P (do pure (.value (<-s))) S B H σ r:=λK a=>
 Χ.bind' (Χ.mono (λv G b=>Χ.pure' ⟨v,U,b⟩) (λ_ _ h=>h) _ (h K a))
theorem XS.same {K:Ψ->Ρ->Prop} {a:Ψ} {v:Value} (b:Holds S B σ H) (c:K a σ) (d:Θ S B σ a v):XS S B H σ K v H:=⟨S,B,σ,a,c,.refl _ _ _,b,.refl _ _ _,d⟩
theorem Zv.pure {a:Ψ} {v:Value} (b:Holds S B σ H) (c:Θ S B σ a v):Zv P (pure v) S B H σ (.ok a σ):=λK d=>
 Χ.pure' (.same b d c)
theorem Zv.bad {s:Sem Value}:Zv P s S B H σ .bad:=λK a=>a.elim
theorem Zv.ZD {s:Sem Value} {p:Prop} {r:Zi} (h:p->Zv P s S B H σ r):Zv P s S B H σ (.ZD p r):=λK a=>h a.1 K a.2
theorem Does.val {a:Ψ} {v:Value} (b:Holds S B σ H) (c:Θ S B σ a v):Does P (pure (.value v)) S B H σ (.ok a σ):=λK d=>
 Χ.pure' ⟨v,U,.same b d c⟩
theorem Does.bad {s:Sem Next}:Does P s S B H σ .bad:=λK a=>a.elim
theorem ZL.size (b:ZL P T) {a:TypeId} {i:V2} (h:T a=some i) {G:Υ} {K:Nat->Υ->Prop} {E:Value->Υ->Prop} (c:K i.size G):Χ P (sizeOf a) G K E:=by
 obtain⟨_,f,d,e,_⟩:=b a i h;exact Χ.sizeOf d (by rw[e];exact c)
theorem ZL.Z3 (b:ZL P T) {a:TypeId} {i:V2} (h:T a=some i) {G:Υ} {K:TypeDesc->Υ->Prop} {E:Value->Υ->Prop} (c:K i.Z3 G):Χ P (underlying a) G K E:=
 Χ.underlying (b a i h).1.1 c
theorem ZL.agg (b:ZL P T) {a:TypeId} {i:V2} (h:T a=some i) {G:Υ} {K:Bool->Υ->Prop} {E:Value->Υ->Prop} (c:K i.agg G):Χ P (isAgg a) G K E:=
 Χ.isAgg (b a i h).1.1 c
theorem ZL.zero (b:ZL P T) {a:TypeId} {i:V2} (h:T a=some i) {G:Υ} {K:Value->Υ->Prop} {E:Value->Υ->Prop} (c:K i.zero G):Χ P (zeroValue a) G K E:=by
 obtain⟨_,f,d,_,e,_⟩:=b a i h;exact Χ.zeroValue d e c
theorem ZL.info (b:ZL P T) {a:TypeId} {i:V2} (h:T a=some i) {G:Υ} {K:TypeInfo->Υ->Prop} {E:Value->Υ->Prop} (c:∀f:TypeInfo,f.bytes=i.bytes->K f G):Χ P (typeInfo a) G K E:=by
 obtain⟨_,f,d,_,_,e⟩:=b a i h;exact Χ.typeInfo d (c f e)
end
inductive Zl where
 | ok (a:Ψ)
 | ZD (p:Prop) (r:Zl)
 | bad
def Zl.YX (σ:Ρ):Zl->Zi
 | .ok a=>.ok a σ
 | .ZD p r=>.ZD p (r.YX σ)
 | .bad=>.bad
section
variable {P:Program} {T:Z2} {S:ς} {B:δ} {H:Υ} {σ:Ρ} {env:Β} {t:ν}
def U4 (k:IntKind) (a b:Int):Int:=k.wrap (BitVec.ofInt k.bits a&&&BitVec.ofInt k.bits b).toNat
def Sb (k:IntKind) (a b:Int):Int:=k.wrap (BitVec.ofInt k.bits a|||BitVec.ofInt k.bits b).toNat
def Cv (k:IntKind) (a b:Int):Int:=k.wrap (BitVec.ofInt k.bits a^^^BitVec.ofInt k.bits b).toNat
def LX (k:IntKind) (a b:Int):Int:=k.wrap (BitVec.ofInt k.bits a&&&~~~BitVec.ofInt k.bits b).toNat
def Ud (a b:ByteArray):Bool:=Op.bytesLess a.toList b.toList
def Ta (a b:ByteArray):Bool:=Op.bytesLess a.toList b.toList||a.toList==b.toList
def O5 (d:BinOp) (x y:Value):Zl:=
 match d,x,y with
 | .shl,.int k a,.int _ b=>.ZD (0<=b) (.ok (.z (.int k (k.wrap (a*2 ^ (min b.toNat k.bits))))))
 | .shr,.int k a,.int _ b=>.ZD (0<=b) (.ok (.z (.int k (a.fdiv (2 ^ (min b.toNat k.bits))))))
 | .add,.int k a,.int c b=>if k=c then .ok (.z (.int k (k.wrap (a+b)))) else .bad
 | .sub,.int k a,.int c b=>if k=c then .ok (.z (.int k (k.wrap (a-b)))) else .bad
 | .mul,.int k a,.int c b=>if k=c then .ok (.z (.int k (k.wrap (a*b)))) else .bad
 | .quo,.int k a,.int c b=>if k=c then .ZD (b≠0) (.ok (.z (.int k (k.wrap (a.tdiv b))))) else .bad
 | .rem,.int k a,.int c b=>if k=c then .ZD (b≠0) (.ok (.z (.int k (a.tmod b)))) else .bad
 | .and,.int k a,.int c b=>if k=c then .ok (.z (.int k (U4 k a b))) else .bad
 | .or,.int k a,.int c b=>if k=c then .ok (.z (.int k (Sb k a b))) else .bad
 | .xor,.int k a,.int c b=>if k=c then .ok (.z (.int k (Cv k a b))) else .bad
 | .andNot,.int k a,.int c b=>if k=c then .ok (.z (.int k (LX k a b))) else .bad
 | .eql,.int k a,.int c b=>if k=c then .ok (.z (.bool (a==b))) else .bad
 | .neq,.int k a,.int c b=>if k=c then .ok (.z (.bool (a != b))) else .bad
 | .lss,.int k a,.int c b=>if k=c then .ok (.z (.bool (decide (a<b)))) else .bad
 | .leq,.int k a,.int c b=>if k=c then .ok (.z (.bool (decide (a<=b)))) else .bad
 | .gtr,.int k a,.int c b=>if k=c then .ok (.z (.bool (decide (a > b)))) else .bad
 | .geq,.int k a,.int c b=>if k=c then .ok (.z (.bool (decide (a>=b)))) else .bad
 | .add,.string a,.string b=>.ZD (((a.size+b.size:Nat):Int)<=IntKind.i64.max) (.ok (.z (.string (a++b))))
 | .eql,.string a,.string b=>.ok (.z (.bool (a.toList==b.toList)))
 | .neq,.string a,.string b=>.ok (.z (.bool !(a.toList==b.toList)))
 | .lss,.string a,.string b=>.ok (.z (.bool (Ud a b)))
 | .leq,.string a,.string b=>.ok (.z (.bool (Ta a b)))
 | .gtr,.string a,.string b=>.ok (.z (.bool (!(Ta a b))))
 | .geq,.string a,.string b=>.ok (.z (.bool (!(Ud a b))))
 | _,_,_=>.bad
theorem xw (a:Holds S B σ H) (c:BinOp) (d:TypeId) (p q:Operand) (x y:Value):Zv P (do eqGuard c d p q x y;binOp c d x y) S B H σ ((O5 c x y).YX σ):=by
 unfold O5;split
 case h_25=>exact .bad
 case h_1=>
  refine .ZD λh=>?_;have b:¬(_:Int)<0:=Np.2 h;simp only[eqGuard,binOp,Op.shift,b,if_false];exact .pure a (.z _)
 case h_2=>
  refine .ZD λh=>?_;have b:¬(_:Int)<0:=Np.2 h;simp only[eqGuard,binOp,Op.shift,b,if_false];exact .pure a (.z _)
 case h_6=>
  split
  .rename_i e;subst e;exact .ZD λh=>by simp only[eqGuard,binOp,Op.intDiv,h,if_false,ne_eq,not_true_eq_false];exact .pure a (.z _)
  .exact .bad
 case h_7=>
  split
  .rename_i e;subst e;exact .ZD λh=>by simp only[eqGuard,binOp,Op.intDiv,h,if_false,ne_eq,not_true_eq_false];exact .pure a (.z _)
  .exact .bad
 case h_18=>
  refine .ZD λh=>?_;have b:¬((_:Int) > IntKind.i64.max):=Np.2 h;simp only[eqGuard,binOp,Op.stringOp,b,if_false];exact .pure a (.z _)
 all_goals first
  | exact .pure a (.z _)
  |(split
    .rename_i e;subst e;simp only[eqGuard,binOp,Op.intArith,Op.intBits,Op.intCmp,ne_eq,not_true_eq_false,if_false];exact .pure a (.z _)
    .exact .bad)
def LW (a:UnOp):Ψ->Zl
 | .z (.bool b)=>match a with|.not=>.ok (.z (.bool !b))|_=>.bad
 | .z (.int k n)=>match a with|.neg=>.ok (.z (.int k (k.wrap (0-n))))|_=>.bad
 | _=>.bad
theorem xv (b:Holds S B σ H) (c:UnOp) {a:Ψ} {v:Value} (d:Θ S B σ a v):Zv P (Op.unary c v) S B H σ ((LW c a).YX σ):=by
 unfold LW;split
 .cases d;split
  .exact .pure b (.z _)
  .exact .bad
 .cases d;split
  .exact .pure b (.z _)
  .exact .bad
 .exact .bad
def Ip (i:Nat):Ψ->Zl
 | .ε l=>match l[i]? with|some a=>.ok a|none=>.bad
 | .z (.tuple vs)=>match vs[i]? with|some v=>.ok (Wh v)|none=>.bad
 | _=>.bad
theorem xu (b:Holds S B σ H) (i:Nat) {a:Ψ} {v:Value} (c:Θ S B σ a v):Zv P (Instr.extract v i) S B H σ ((Ip i a).YX σ):=by
 unfold Ip;split
 .rename_i l;cases c with
  | ε vs e f=>
   cases d:l[i]? with
   | none=>exact .bad
   | some a=>
    have g:i<vs.size:=by rw[<-e];exact(ZR.1 d).1
    have hv:vs[i]?=some vs[i]:=YS g;simp only[Instr.extract,hv];exact .pure b (f i a _ d hv)
 .rename_i vs;cases c;cases hv:vs[i]? with
  | none=>exact .bad
  | some v=>simp only[Instr.extract,hv];exact .pure b (QU v)
 .exact .bad
def Io (T:Z2) (b:TypeId) (a:Ψ):Zl:=match T b with
 | some i=>match i.Z3 with|.interface _=>.bad|_=>.ok (.Xi b a)
 | none=>.bad
theorem xr (d:ZL P T) (e:Holds S B σ H) (b:TypeId) {a:Ψ} {v:Value} (f:Θ S B σ a v):Zv P (Instr.makeInterface b v) S B H σ ((Io T b a).YX σ):=by
 unfold Io;cases hi:T b with
 | none=>exact .bad
 | some i=>
  intro K c;unfold Instr.makeInterface;refine Χ.bind' (d.Z3 hi ?_);cases g:i.Z3<;>simp only[g,Zl.YX,Zi.holds] at c<;>first|exact c.elim|exact Χ.pure' (.same e c (.Xi v f))
def M8 (T:Z2) (c:TypeId) (b:Bool) (a:Ψ):Zl:=match T c with
 | some i=>match i.Z3 with
  | .interface _=>.bad
  | _=>match a with
   | .Xi t x=>if t=c then .ok (if b then .ε [x,.z (.bool true)] else x) else if b then .ok (.ε [Wh i.zero,.z (.bool false)]) else .bad
   | .z .nilIface=>if b then .ok (.ε [Wh i.zero,.z (.bool false)]) else .bad
   | _=>.bad
 | none=>.bad
theorem LV {a b:Ψ} {v w:Value} (h:Θ S B σ a v) (k:Θ S B σ b w):Θ S B σ (.ε [a,b]) (.tuple #[v,w]):=by
 refine .ε _ U λi a' e c d=>?_
 match i with
 | 0=>simp at c d;subst c;subst d;exact h
 | 1=>simp at c d;subst c;subst d;exact k
 | i+2=>simp at c
theorem xq (f:ZL P T) (g:Holds S B σ H) (n h:TypeId) (j:Bool) {a:Ψ} {v:Value} (l:Θ S B σ a v):Zv P (Instr.typeAssert v n h j) S B H σ ((M8 T h j a).YX σ):=by
 unfold M8;cases hi:T h with
 | none=>exact .bad
 | some i=>
  simp only;by_cases b:∃w,i.Z3=.interface w
  .obtain⟨w,o⟩:=b;rw[o];exact .bad
  have e:∀r:Zl,(match i.Z3 with|.interface _=>Zl.bad|_=>r)=r:=λr=>by
   cases p:i.Z3<;>first|rfl|exact absurd ⟨_,p⟩ b
  rw[e];clear e;split
  .rename_i t x;cases l with
   | Xi w m=>
    split
    .rename_i e;subst e;intro K c;unfold Instr.typeAssert;refine Χ.bind' (f.Z3 hi ?_);generalize i.Z3=d at b ⊢;cases d<;>first
      | exact absurd ⟨_,rfl⟩ b
      |(simp only[if_true]
        cases j
        .exact Χ.pure' (.same g c m)
        .exact Χ.pure' (.same g c (LV m (.z _))))
    .rename_i s;split
     .rename_i k;subst k;intro K c;unfold Instr.typeAssert;refine Χ.bind' (f.Z3 hi ?_);generalize i.Z3=d at b ⊢;cases d<;>first
       | exact absurd ⟨_,rfl⟩ b
       |(simp only[s,if_false,if_true]
         exact Χ.bind' (f.zero hi (Χ.pure' (.same g c (LV (QU _) (.z _))))))
     .exact .bad
  .cases l;split
   .rename_i k;subst k;intro K c;unfold Instr.typeAssert;refine Χ.bind' (f.Z3 hi ?_);generalize i.Z3=d at b ⊢;cases d<;>first
     | exact absurd ⟨_,rfl⟩ b
     |(simp only[if_true]
       exact Χ.bind' (f.zero hi (Χ.pure' (.same g c (LV (QU _) (.z _))))))
   .exact .bad
  .exact .bad
end
section
variable {P:Program} {T:Z2} {S:ς} {B:δ} {H:Υ} {σ:Ρ}
def QT (i:V2) (l:ψ):Zl:=
 if i.agg then(if i.size<=l.length then .ok (.Z6 (l.take i.size)) else .bad)
 else match l with
  | a::_=>.ok a
  | []=>.bad
def Im (T:Z2) (a:TypeId):Ψ->Zl
 | .Ν b=>match T a with|some i=>QT i b|none=>.bad
 | _=>.bad
def Oa:Ρ->Nat->Nat->Nat->Option (Nat×Nat×ψ)
 | [],_,_,_=>none
 | r::σ,c,o,i=>match r with
  | .own c' o' l=>if c'=c/\o'<=o then some (i,o',l) else Oa σ c o (i+1)
  | _=>Oa σ c o (i+1)
theorem Cu {σ:Ρ} {c o i id o':Nat} {l:ψ} (h:Oa σ c o i=some (id,o',l)):i<=id/\σ[id-i]?=some (.own c o' l)/\o'<=o:=by
 induction σ generalizing i with
 | nil=>cases h
 | cons r σ d=>
  have a:Oa σ c o (i+1)=some (id,o',l)->i<=id/\(r::σ)[id-i]?=some (.own c o' l)/\o'<=o:=λh=>by
   obtain⟨j,f,g⟩:=d h;have e:id-i=(id-(i+1))+1:=I;exact⟨I,by rw[e];exact f,g⟩
  unfold Oa at h;split at h
  .split at h
   .rename_i b;cases h;exact⟨ZY _,by simp[b.1],b.2⟩
   .exact a h
  .exact a h
def Sa (T:Z2) (b:TypeId) (σ:Ρ):Ψ->Zi
 | .π id n i j=>match T b,σ[id]? with
  | some a,some (.cells _ _ l)=>if l.length=n then match l[i]? with
   | some e=>(QT a (e.cells.drop j)).YX σ
   | none=>.bad else .bad
  | _,_=>.bad
 | .z (.pointer (some ⟨c,o,none⟩))=>match T b,Oa σ c o 0 with
  | some a,some (_,o',l)=>(QT a (l.drop (o-o'))).YX σ
  | _,_=>.bad
 | _=>.bad
theorem Ko (f:ZL P T) (g:Holds S B σ H) {h:TypeId} {i:V2} (hi:T h=some i) {b o:Nat} {l:ψ} (w:Nat->Value) (k:∀(j:Nat) (a:Ψ),l[j]?=some a->∃p,H.ω b (o+j)=some (w j,p)) (m:∀(j:Nat) (a:Ψ),l[j]?=some a->Θ S B σ a (w j)) :
  Zv P (loadVar h ⟨b,o,none⟩) S B H σ ((QT i l).YX σ):=by
 intro K c;unfold QT at c;unfold loadVar;refine Χ.bind' (f.agg hi ?_);cases n:i.agg with
 | true=>
  rw[n] at c;simp only[if_true] at c ⊢;split at c
  .rename_i t;refine Χ.bind' (f.size hi (Χ.bind' (Χ.loadCells w U (λj d=>?_) ?_)))
   .have:l[j]?=some l[j]:=Z4 I;exact k j _ this
   .refine Χ.pure' (.same g c (.Z6 _ (by simp;omega) λj a v e r=>?_));have d:j<i.size:=by have:=(ZR.1 e).1;simp at this;omega
    rw[TV d] at e;simp[d] at r;subst r;exact m j a e
  .exact c.elim
 | false=>
  rw[n] at c;simp only[Xq,if_false] at c ⊢;cases l with
  | nil=>exact c.elim
  | cons a l=>
   obtain⟨p,s⟩:=k 0 a U;exact⟨U,U,w 0,p,s,XS.same g c (m 0 a U)⟩
theorem xp (e:ZL P T) (d:Holds S B σ H) {c:TypeId} {a:Ψ} {v:Value} (f:Θ S B σ a v):Zv P (Instr.loadAt c v) S B H σ ((Im T c a).YX σ):=by
 unfold Im;split
 .rename_i l;cases hi:T c with
  | none=>exact .bad
  | some i=>
   cases f with
   | Ν b o w g h=>exact Ko e d hi w (λj a k=>d.Zf _ _ _ (g j a k)) h
 .exact .bad
theorem Ct (f:Holds S B σ H) {id k i b N:Nat} {t:TypeId} {l:ψ} {e:Ψ} (g:σ[id]?=some (.cells t k l)) (h:B[id]?=some (some (b,N))) (c:l[i]?=some e) :
  e.cells.length=k/\∃w:Nat->Value,∀(j:Nat) (a:Ψ),e.cells[j]?=some a->H.ω b (i*k+j)=some (w j,true)/\Θ S B σ a (w j)/\One (w j):=by
 obtain⟨_,_,_,w,d⟩:=f.row id _ _ g h;exact⟨(d i e c).1,w i,(d i e c).2⟩
theorem xo (p:ZL P T) (f:Holds S B σ H) {r:TypeId} {a:Ψ} {v:Value} (s:Θ S B σ a v):Zv P (Instr.loadAt r v) S B H σ (Sa T r σ a):=by
 unfold Sa;split
 .rename_i id n i j;split
  .rename_i u t k l hi g;split
   .rename_i D;cases y:l[i]? with
    | none=>exact .bad
    | some e=>
     cases s with
     | π d m A=>
      rw[g] at d;cases d;obtain⟨E,w,h⟩:=Ct f g A y;refine Ko p f hi (λx=>w (j+x)) (λx a b=>⟨true,?_⟩) (λx a b=>?_)
      .rw[Va] at b;rw[U9];exact(h _ a b).1
      .rw[Va] at b;exact(h _ a b).2.1
     | VI v d m=>rw[g] at d;cases d;simp only[Row.Xx] at m;omega
   .exact .bad
  .exact .bad
 .rename_i c o;split
  .rename_i u id o' l hi g;cases s;obtain⟨_,d,m⟩:=Cu g;rw[Nat.sub_zero] at d;obtain⟨bo,C⟩:=Ue f d;obtain⟨N,t,M,rfl,_,w,h⟩:=f.row id _ bo d C;have e:∀x,o'+(o-o'+x)=o+x:=λx=>I;refine Ko p f hi (λx=>w (o-o'+x)) (λx a b=>⟨true,?_⟩) (λx a b=>?_)
   .rw[Va] at b;rw[<-e];exact(h _ a b).1
   .rw[Va] at b;exact(h _ a b).2.1
  .exact .bad
 .exact .bad
def Yt (T:Z2) (a:TypeId) (f:Nat):Option (Nat×TypeId):=match T a with
 | some i=>match i.Z3 with
  | .struct b=>match b[f]? with
   | some x=>match T x.type with
    | some c=>if c.size=0 then none else some (x.offset,x.type)
    | none=>none
   | none=>none
  | _=>none
 | none=>none
def Il (T:Z2) (a:TypeId) (f:Nat):Ψ->Zl
 | .Ν c=>match Yt T a f with|some (o,_)=>.ok (.Ν (c.drop o))|none=>.bad
 | .z (.pointer (some ⟨b,o',none⟩))=>match Yt T a f with|some (o,_)=>.ok (.z (.pointer (some ⟨b,o'+o,none⟩)))|none=>.bad
 | _=>.bad
def R' (T:Z2) (a:TypeId) (f:Nat) (σ:Ρ):Ψ->Zi
 | .π id n i j=>match Yt T a f,σ[id]? with
  | some (o,_),some (.cells _ _ l)=>if l.length=n then .ok (.π id n i (j+o)) σ else .bad
  | _,_=>.bad
 | _=>.bad
theorem QS (b o n:Nat):(⟨b,o,none⟩:Addr).add n=⟨b,o+n,none⟩:=by
 unfold Addr.add;split
 .simp_all
 .rfl
theorem Cs {d:ψ} {b o:Nat} (h:Θ S B σ (.Ν d) (.pointer (some ⟨b,o,none⟩))) (n:Nat):Θ S B σ (.Ν (d.drop n)) (.pointer (some ⟨b,o+n,none⟩)):=by
 cases h with
 | Ν b o w e f=>
  refine .Ν b (o+n) (λj=>w (n+j)) (λj a c=>?_) (λj a c=>?_)
  .rw[Va] at c;rw[U9];exact e _ a c
  .rw[Va] at c;exact f _ a c
theorem FC (c:ZL P T) {d:TypeId} {f o:Nat} {e:TypeId} (a:Yt T d f=some (o,e)) {b o':Nat} {K:Value->Υ->Prop} {E:Value->Υ->Prop} (h:K (.pointer (some ⟨b,o'+o,none⟩)) H) :
  Χ P (Instr.fieldAt d (.pointer (some ⟨b,o',none⟩)) f) H K E:=by
 unfold Yt at a;split at a<;>try cases a
 rename_i i hi;split at a<;>try cases a
 rename_i m g;split at a<;>try cases a
 rename_i x j;split at a<;>try cases a
 rename_i n k;split at a<;>try cases a
 rename_i l;unfold Instr.fieldAt;refine Χ.bind' (c.Z3 hi ?_);rw[g];simp only[j];refine Χ.bind' ?_;unfold fieldPlace;refine Χ.bind' (Χ.bind' (c.size k ?_));rw[if_neg l,QS];exact Χ.pure' (Χ.pure' h)
theorem xn (g:ZL P T) (h:Holds S B σ H) {c:TypeId} {f:Nat} {a:Ψ} {v:Value} (i:Θ S B σ a v):Zv P (Instr.fieldAt c v f) S B H σ ((Il T c f a).YX σ):=by
 unfold Il;split
 .rename_i m;cases d:Yt T c f with
  | none=>exact .bad
  | some x=>
   obtain⟨o,j⟩:=x;cases i with
   | Ν b o' w k l=>exact λK e=>FC g d (XS.same h e (Cs (.Ν b o' w k l) o))
 .rename_i b o';cases d:Yt T c f with
  | none=>exact .bad
  | some x=>
   obtain⟨o,j⟩:=x;cases i;exact λK e=>FC g d (XS.same h e (.z _))
 .exact .bad
theorem xm (g:ZL P T) (h:Holds S B σ H) {d:TypeId} {f:Nat} {a:Ψ} {v:Value} (m:Θ S B σ a v):Zv P (Instr.fieldAt d v f) S B H σ (R' T d f σ a):=by
 unfold R';split
 .rename_i id n i j;split
  .rename_i o w t k l p c;split
   .rename_i r;cases m with
    | π b e s=>
     rw[c] at b;cases b;refine λK u=>FC g p (XS.same h u ?_);rw[U9];exact .π c r s
    | VI v b e=>rw[c] at b;cases b;simp only[Row.Xx] at e;omega
   .exact .bad
  .exact .bad
 .exact .bad
theorem TG {ex:Bool} {k:Nat} {l:ψ} {v:Value} (h:Θ S B σ (.sl ex k l) v):∃base cap,v=.slice base l.length cap/\l.length<=cap/\(ex=true->cap=l.length)/\(l≠[]->∃(b o:Nat) (w:Nat->Nat->Value),base=some ⟨b,o,none⟩/\(∀(i:Nat) (e:Ψ),l[i]?=some e->e.cells.length=k)/\
  (∀(i:Nat) (e:Ψ),l[i]?=some e->∀(j:Nat) (c:Ψ),e.cells[j]?=some c->S b (o+i*k+j)=some (w i j))/\(∀(i:Nat) (e:Ψ),l[i]?=some e->∀(j:Nat) (c:Ψ),e.cells[j]?=some c->Θ S B σ c (w i j))):=by
 cases h with
 | WJ base cap h=>exact⟨base,cap,rfl,Ζ _,h,λx=>absurd rfl x⟩
 | sl b o cap w a d f g m=>exact⟨_,cap,rfl,d,a,λ_=>⟨b,o,w,rfl,f,g,m⟩⟩
theorem xl {ex:Bool} {k:Nat} {l:ψ} {base:Option Addr} {len cap i:Nat} {e:Ψ} (h:Θ S B σ (.sl ex k l) (.slice base len cap)) (a:l[i]?=some e):∃b o,base=some ⟨b,o,none⟩/\Θ S B σ (.Ν e.cells) (.pointer (some ⟨b,o+i*k,none⟩)):=by
 obtain⟨g,j,hv,_,_,c⟩:=TG h;cases hv;obtain⟨b,o,w,rfl,m,d,f⟩:=c (by rintro rfl;simp at a);exact⟨b,o,U,.Ν b (o+i*k) (w i) (d i e a) (f i e a)⟩
def WZ (T:Z2) (b:TypeId):Option (TypeId×Nat×Option Nat):=match T b with
 | some i=>match i.Z3 with
  | .slice e=>match T e with|some a=>some (e,a.size,none)|none=>none
  | .array n e=>match T e with|some a=>some (e,a.size,some n)|none=>none
  | _=>none
 | none=>none
theorem Ik {b e:TypeId} {k:Nat} (h:WZ T b=some (e,k,none)):∃i a,T b=some i/\i.Z3=.slice e/\T e=some a/\a.size=k:=by
 unfold WZ at h;split at h
 .rename_i i hi;split at h
  .rename_i f c;split at h
   .rename_i a d;cases h;exact⟨i,a,hi,c,d,U⟩
   .cases h
  .split at h<;>cases h
  .cases h
 .cases h
theorem xk {b e:TypeId} {k n:Nat} (h:WZ T b=some (e,k,some n)):∃i a,T b=some i/\i.Z3=.array n e/\T e=some a/\a.size=k:=by
 unfold WZ at h;split at h
 .rename_i i hi;split at h
  .split at h<;>cases h
  .rename_i f g c;split at h
   .rename_i a d;cases h;exact⟨i,a,hi,c,d,U⟩
   .cases h
  .cases h
 .cases h
def Ij (T:Z2) (d:TypeId) (a e:Ψ):Zl:=
 match WZ T d,e with
 | some (_,b,none),.z (.int _ n)=>match a with
  | .sl _ k l=>if k=b then .ZD (0<=n/\n<l.length) (.ok (.Ν (l.getD n.toNat .Zx).cells)) else .bad
  | .z (.slice (some ⟨c,o,none⟩) len _)=>.ZD (0<=n/\n<len) (.ok (.z (.pointer (some ⟨c,o+n.toNat*b,none⟩))))
  | _=>.bad
 | some (_,b,some m),.z (.int _ n)=>match a with
  | .Ν f=>.ZD (0<=n/\n<m) (.ok (.Ν (f.drop (n.toNat*b))))
  | _=>.bad
 | _,_=>.bad
def R9 (T:Z2) (c:TypeId) (σ:Ρ) (a d:Ψ):Zi:=
 match WZ T c,d with
 | some (_,b,none),.z (.int _ n)=>match a with
  | .ms id m i len=>match σ[id]? with
   | some (.cells _ k l)=>if k=b/\l.length=m then .ZD (0<=n/\n<len) (.ok (.π id m (i+n.toNat) 0) σ) else .bad
   | _=>.bad
  | _=>.bad
 | some (_,b,some len),.z (.int _ n)=>match a with
  | .π id m i j=>match σ[id]? with
   | some (.cells _ _ l)=>if l.length=m then .ZD (0<=n/\n<len) (.ok (.π id m i (j+n.toNat*b)) σ) else .bad
   | _=>.bad
  | _=>.bad
 | _,_=>.bad
theorem FB (a:ZL P T) {c e:TypeId} {k:Nat} (f:WZ T c=some (e,k,none)) {b o len cap:Nat} {kk:IntKind} {n:Int} (g:0<=n/\n<len) {K:Value->Υ->Prop} {E:Value->Υ->Prop}
  (h:K (.pointer (some ⟨b,o+n.toNat*k,none⟩)) H):Χ P (Instr.indexAt c (.slice (some ⟨b,o,none⟩) len cap) (.int kk n)) H K E:=by
 obtain⟨i,l,hi,d,j,rfl⟩:=Ik f;unfold Instr.indexAt;refine Χ.bind' ?_;refine Χ.bind' (a.Z3 hi ?_);rw[d];refine Χ.bind' (Χ.pure' ?_);refine Χ.bind' (a.Z3 hi ?_);rw[d];simp only[g,and_self,if_true];refine Χ.bind' (a.size j ?_);rw[QS];exact h
theorem Cr (a:ZL P T) {c e:TypeId} {k m:Nat} (f:WZ T c=some (e,k,some m)) {b o:Nat} {kk:IntKind} {n:Int} (g:0<=n/\n<m) {K:Value->Υ->Prop} {E:Value->Υ->Prop}
  (h:K (.pointer (some ⟨b,o+n.toNat*k,none⟩)) H):Χ P (Instr.indexAt c (.pointer (some ⟨b,o,none⟩)) (.int kk n)) H K E:=by
 obtain⟨i,l,hi,d,j,rfl⟩:=xk f;unfold Instr.indexAt;refine Χ.bind' ?_;refine Χ.bind' (a.Z3 hi ?_);rw[d];refine Χ.bind' (Χ.bind' (Χ.pure' ?_));refine Χ.bind' (a.Z3 hi ?_);rw[d];simp only[g,and_self,if_true];refine Χ.bind' (a.size j ?_);rw[QS];exact h
theorem xj (i:ZL P T) (j:Holds S B σ H) {p:TypeId} {a r:Ψ} {v w:Value} (g:Θ S B σ a v) (s:Θ S B σ r w):Zv P (Instr.indexAt p v w) S B H σ ((Ij T p a r).YX σ):=by
 unfold Ij;split
 .rename_i e u kk n h;cases s;split
  .rename_i ex k l;split
   .rename_i x;subst x;refine .ZD λd=>?_;obtain⟨base,cap,rfl,_⟩:=TG g;have y:n.toNat<l.length:=I;have t:l[n.toNat]?=some l[n.toNat]:=Z4 y;obtain⟨b,o,rfl,A⟩:=xl g t;refine λK f=>FB i h d (XS.same j f ?_);rw[V7,t];exact A
   .exact .bad
  .rename_i c o len cap;cases g;exact .ZD λd K f=>FB i h d (XS.same j f (.z _))
  .exact .bad
 .rename_i e u m kk n h;cases s;split
  .rename_i E;refine .ZD λd=>?_;cases g with
   | Ν b o w C D=>exact λK f=>Cr i h d (XS.same j f (Cs (.Ν b o w C D) _))
  .exact .bad
 .exact .bad
theorem xi (u:ZL P T) (x:Holds S B σ H) {y:TypeId} {a A:Ψ} {v w:Value} (C:Θ S B σ a v) (D:Θ S B σ A w):Zv P (Instr.indexAt y v w) S B H σ (R9 T y σ a A):=by
 unfold R9;split
 .rename_i e E kk n g;cases D;split
  .rename_i id m i len;split
   .rename_i t k l d;split
    .rename_i F;obtain⟨rfl,h⟩:=F;refine .ZD λo=>?_;cases C with
     | ms cap c f p I J r=>
      rw[d] at c;cases c;rcases r with r|⟨b,N,rfl,rfl,r⟩
      .omega
      .refine λK s=>FB u g o (XS.same x s ?_);have:i*k+n.toNat*k=(i+n.toNat)*k+0:=by rw[XF];rfl
       rw[this];exact .π d h p
     | Wu v c f=>rw[d] at c;cases c;simp only[Row.Xx] at f;omega
    .exact .bad
   .exact .bad
  .exact .bad
 .rename_i e E len kk n g;cases D;split
  .rename_i id m i j;split
   .rename_i t k l d;split
    .rename_i h;refine .ZD λo=>?_;cases C with
     | π c f p=>
      rw[d] at c;cases c;refine λK s=>Cr u g o (XS.same x s ?_);rw[U9];exact .π d h p
     | VI v c f=>rw[d] at c;cases c;simp only[Row.Xx] at f;omega
    .exact .bad
   .exact .bad
  .exact .bad
 .exact .bad
end
def Ψ.YW (σ:Ρ):Ψ->Bool
 | .z v=>match v with|.agg _|.tuple _=>false|_=>true
 | .Z6 _|.ε _|.Zx=>false
 | .mp id=>match σ[id]? with|some (.map _)=>true|_=>false
 | .it id=>match σ[id]? with|some (.iter ..)=>true|_=>false
 | _=>true
def Ψ.O4:Ψ->Nat->ψ->Ψ
 | .Z6 l,j,cs=>.Z6 (l.take j++cs++l.drop (j+cs.length))
 | _,0,[c]=>c
 | e,_,_=>e
theorem Ψ.FA {σ:Ρ} {a:Ψ} (h:a.YW σ=true):a.cells=[a]:=by
 cases a<;>first|rfl|cases h
theorem Ψ.Cq {σ:Ρ} {e:Ψ} {j:Nat} {cs:ψ} (b:j+cs.length<=e.cells.length) (f:∀c∈cs,Ψ.YW σ c=true):(e.O4 j cs).cells=e.cells.take j++cs++e.cells.drop (j+cs.length):=by
 by_cases a:∃l,e=.Z6 l
 .obtain⟨l,rfl⟩:=a;rfl
 .have d:e.cells=[e]:=by cases e<;>first|rfl|exact absurd ⟨_,rfl⟩ a
  rw[d] at b ⊢;cases cs with
  | nil=>
   have:e.O4 j []=e:=by cases e<;>cases j<;>first|rfl|exact absurd ⟨_,rfl⟩ a
   rw[this,d]
   match j with
   | 0=>rfl
   | j+1=>simp
  | cons c cs=>
   simp at b;have g:j=0:=I;have h:cs=[]:=by cases cs<;>simp at b ⊢;omega
   subst g;subst h;have:e.O4 0 [c]=c:=by cases e<;>first|rfl|exact absurd ⟨_,rfl⟩ a
   rw[this,Ψ.FA (f c Ω)];simp
section
variable {P:Program} {T:Z2} {S:ς} {B:δ} {H:Υ} {σ:Ρ}
theorem Θ.M7 {a:Ψ} {v:Value} (h:Θ S B σ a v) (c:a.YW σ=true):One v:=by
 cases h with
 | z v=>cases v<;>first|trivial|cases c
 | VI v b e d=>exact d
 | Wu v b e d=>exact d
 | Uf v b=>simp[Ψ.YW,b] at c
 | TM v b=>simp[Ψ.YW,b] at c
 | Z6|ε|Zx=>cases c
 | _=>trivial
theorem One.cells {v:Value} (h:One v):v.cells=#[v]:=by cases v<;>first|rfl|exact h.elim
theorem Θ.cells {a:Ψ} {v:Value} (h:Θ S B σ a v) (d:a.cells.all (Ψ.YW σ)=true):v.cells.size=a.cells.length/\∀(j:Nat) (c:Ψ),a.cells[j]?=some c->∃x,v.cells[j]?=some x/\Θ S B σ c x/\One x:=by
 have k:a.cells=[a]->v.cells.size=a.cells.length/\∀(j:Nat) (c:Ψ),a.cells[j]?=some c->∃x,v.cells[j]?=some x/\Θ S B σ c x/\One x:=λe=>by
  rw[e] at d ⊢;simp at d;have f:=h.M7 d;rw[f.cells];refine⟨U,λj c b=>?_⟩
  match j with
  | 0=>simp at b;subst b;exact⟨v,rfl,h,f⟩
  | j+1=>simp at b
 cases h with
 | Z6 vs g l=>
  refine⟨g.symm,λj c b=>?_⟩;have m:j<vs.size:=by rw[<-g];exact(ZR.1 b).1
  have hv:vs[j]?=some vs[j]:=YS m
  have i:=l j c _ b hv;exact⟨_,hv,i,i.M7 (XJ.1 d c (ZH b))⟩
 | _=>exact k rfl
theorem M6 (a:Holds S B σ H) {id k:Nat} {t:TypeId} {l:ψ} (h:σ[id]?=some (.cells t k l)):∀(j:Nat) left b,σ[j]?≠some (Row.iter id left b):=λj left b c=>by
 obtain⟨bo,e⟩:=Ue a c;obtain⟨_,_,_,_,_,_,_,_,_,⟨es,d⟩,_⟩:=a.row j _ bo c e;rw[h] at d;cases d
theorem Cp {i a k b lo hi:Nat} (c:b<k) (d:hi<=k) (h:a≠i):¬(i*k+lo<=a*k+b/\a*k+b<i*k+hi):=by
 rintro⟨e,f⟩;rcases Nat.lt_or_gt_of_ne h with h|h
 .have:(a+1)*k<=i*k:=Vo k h;rw[XF] at this;omega
 .have:(i+1)*k<=a*k:=Vo k h;rw[XF] at this;omega
def LU (P:Program) (s:Sem Unit) (S:ς) (B:δ) (H:Υ) (σ:Ρ) (r:Zi):Prop:=
 ∀K:Ψ->Ρ->Prop,r.holds K->Χ P s H (λ_ H'=>XS S B H σ K undef H') (λ_ _=>False)
theorem LU.next {s:Sem Unit} {r:Zi} (h:LU P s S B H σ r):Does P (do s;pure .skip) S B H σ r:=λK a=>
 Χ.bind' (Χ.mono (λ_ G b=>Χ.pure' ⟨undef,U,b⟩) (λ_ _ h=>h) _ (h K a))
theorem LU.bad {s:Sem Unit}:LU P s S B H σ .bad:=λK a=>a.elim
theorem xh (C:Holds S B σ H) {id k i j b N:Nat} {t:TypeId} {l:ψ} {e a:Ψ} {v:Value} (D:σ[id]?=some (.cells t k l)) (O:B[id]?=some (some (b,N))) (E:l[i]?=some e) (aa:Θ S B σ a v) (P:a.cells.all (Ψ.YW σ)=true)
  (Q:j+a.cells.length<=k) :
  (∀x∈v.cells.toList,One x)/\(∀x,x<a.cells.length->H.owns b (i*k+j+x))/\H.row b=some (t,N)/\
  (let σ':=σ.set id (.cells t k (l.set i (e.O4 j a.cells)));Holds S (B.set id (some (b,N))) σ' (H.XW b (i*k+j) v.cells.toList)/\Ext S B H S (B.set id (some (b,N))) (H.XW b (i*k+j) v.cells.toList)/\ZJ S S B (B.set id (some (b,N))) σ σ'):=by
 obtain⟨ab,R⟩:=aa.cells P;have r:v.cells.toList.length=a.cells.length:=by simpa using ab
 obtain⟨T,V,W,w,F⟩:=C.row id _ _ D O;have X:i<l.length:=(ZR.1 E).1;have ad:(i+1)*k<=N:=RH (Vo k X) V;have aq:i*k+k<=N:=by rw[XF] at ad;omega
 have ae:=(F i e E).1
 have af:∀c∈a.cells,Ψ.YW σ c=true:=XJ.1 P
 have ag:=Ψ.Cq (σ:=σ) (e:=e) (j:=j) (cs:=a.cells) (by rw[ae];exact Q) af;refine⟨λx Y=>?_,λx Y=>?_,T,?_⟩
 .obtain⟨y,J⟩:=TU Y;have ah:y<a.cells.length:=by rw[<-r];exact(ZR.1 J).1
  obtain⟨ar,g,_,m⟩:=R y _ (Z4 ah);rw[Xr] at J;rw[J] at g;cases g;exact m
 .obtain⟨u,ai⟩:=W (i*k+j+x) I;exact⟨u,ai⟩
 .refine C.Sc (r':=.cells t k (l.set i (e.O4 j a.cells))) (bo':=some (b,N)) D trivial O (.inl ⟨_,U,Ω,U⟩) (λZ aj n=>.inl ⟨aj,n⟩) (λZ g _=>?_) Υ.Kq (M6 C D) (λK=>?_)
  .have ak:Z≠b:=λn=>by subst n;exact g N U
   exact⟨λo=>by simp[Υ.XW,ak],U,U⟩
  .refine⟨T,by simpa using V,λo al=>?_,λh d=>if h=i/\j<=d/\d<j+a.cells.length then(v.cells[d-j]?).getD undef else w h d,λh n s=>?_⟩
   .simp only[Υ.XW];split
    .exact⟨_,U⟩
    .exact W o al
   .by_cases A:h=i
    .subst A;rw[Xs X] at s;cases s;rw[ag];refine⟨by simp;omega,λd c f=>?_⟩;by_cases L:j<=d/\d<j+a.cells.length
     .have M:a.cells[d-j]?=some c:=by
       rw[Tq,Xz (by simp;omega)] at f;simp only[KJ] at f;rw[YN I] at f;have:d-min j e.cells.length=d-j:=I;rw[this] at f;exact f
      obtain⟨x,g,m,p⟩:=R _ _ M;simp only[L,and_self,if_true,g,Option.getD_some];refine⟨?_,m.later K,p⟩;simp only[Υ.XW,r];rw[if_pos ⟨trivial,I,I⟩];have:h*k+d-(h*k+j)=d-j:=I;rw[this,Xr,g];rfl
     .have M:e.cells[d]?=some c:=by
       by_cases am:d<j
       .rw[Tq,YN (by simp;omega),TV am] at f;exact f
       .rw[Xz (by simp;omega)] at f;rw[Va] at f;have:j+a.cells.length+(d-(e.cells.take j++a.cells).length)=d:=by simp;omega
        rw[this] at f;exact f
      simp only[L,and_false,if_false];obtain⟨g,m,p⟩:=(F h e E).2 d c M;refine⟨?_,m.later K,p⟩;simp only[Υ.XW,r];rw[if_neg (λx=>L ⟨I,I⟩)];exact g
    .rw[Xj (YV A)] at s;obtain⟨g,m⟩:=F h n s;refine⟨g,λd c f=>?_⟩;obtain⟨p,an,ao⟩:=m d c f;have ap:d<k:=by rw[<-g];exact(ZR.1 f).1
     simp only[A,false_and,if_false];refine⟨?_,an.later K,ao⟩;simp only[Υ.XW,r];rw[if_neg (λx=>Cp (lo:=j) (hi:=j+a.cells.length) ap Q A ⟨x.2.1,I⟩)];exact p
theorem Co (g:Holds S B σ H) {id c o j N:Nat} {l:ψ} {a:Ψ} {v:Value} (h:σ[id]?=some (.own c o l)) (u:B[id]?=some (some (c,N))) (O:Θ S B σ a v) (P:a.cells.all (Ψ.YW σ)=true) (Z:j+a.cells.length<=l.length) :
  (∀x∈v.cells.toList,One x)/\(∀x,x<a.cells.length->H.owns c (o+j+x))/\(∃t M,H.row c=some (t,M))/\
  (let σ':=σ.set id (.own c o (l.take j++a.cells++l.drop (j+a.cells.length)));Holds S (B.set id (some (c,N))) σ' (H.XW c (o+j) v.cells.toList)/\Ext S B H S (B.set id (some (c,N))) (H.XW c (o+j) v.cells.toList)/\ZJ S S B (B.set id (some (c,N))) σ σ'):=by
 obtain⟨Q,A⟩:=O.cells P;have k:v.cells.toList.length=a.cells.length:=by simpa using Q
 obtain⟨C,t,M,R,D,w,E⟩:=g.row id _ _ h u;cases R;refine⟨λx F=>?_,λx F=>?_,⟨t,M,D⟩,?_⟩
 .obtain⟨y,m⟩:=TU F;have T:y<a.cells.length:=by rw[<-k];exact(ZR.1 m).1
  obtain⟨aa,e,_,f⟩:=A y _ (Z4 T);rw[Xr] at m;rw[m] at e;cases e;exact f
 .have:=(E (j+x) _ (Z4 I)).1;rw[<-U9] at this;exact⟨_,this⟩
 .have V:∀(i:Nat) left J,σ[i]?≠some (Row.iter id left J):=λi left J hi=>by
   obtain⟨bo,W⟩:=Ue g hi;obtain⟨_,_,_,_,_,_,_,_,_,⟨es,f⟩,_⟩:=g.row i _ bo hi W;rw[h] at f;cases f
  refine g.Sc (r':=.own c o (l.take j++a.cells++l.drop (j+a.cells.length))) (bo':=some (c,N)) h trivial u (.inl ⟨_,U,by simp;omega,U⟩) (λK C n=>.inl ⟨C,n⟩) (λK e _=>?_) Υ.Kq V (λL=>?_)
  .have X:K≠c:=λn=>by subst n;exact e N U
   exact⟨λo=>by simp[Υ.XW,X],U,U⟩
  .refine⟨N,t,M,U,D,λb=>if j<=b/\b<j+a.cells.length then(v.cells[b-j]?).getD undef else w b,λb q d=>?_⟩;by_cases p:j<=b/\b<j+a.cells.length
   .have r:a.cells[b-j]?=some q:=by
     rw[Tq,Xz (by simp;omega)] at d;simp only[KJ] at d;rw[YN I] at d;have:b-min j l.length=b-j:=I;rw[this] at d;exact d
    obtain⟨x,e,f,s⟩:=A _ _ r;simp only[p,and_self,if_true,e,Option.getD_some];refine⟨?_,f.later L,s⟩;simp only[Υ.XW,k];rw[if_pos ⟨trivial,I,I⟩];have:o+b-(o+j)=b-j:=I;rw[this,Xr,e];rfl
   .have r:l[b]?=some q:=by
     by_cases Y:b<j
     .rw[Tq,YN (by simp;omega),TV Y] at d;exact d
     .rw[Xz (by simp;omega)] at d;rw[Va] at d;have:j+a.cells.length+(b-(l.take j++a.cells).length)=b:=by simp;omega
      rw[this] at d;exact d
    simp only[p,if_false];obtain⟨e,f,s⟩:=E b q r;refine⟨?_,f.later L,s⟩;simp only[Υ.XW,k];rw[if_neg (λx=>p ⟨I,I⟩)];exact e
def Ii (T:Z2) (d:TypeId) (σ:Ρ) (p a:Ψ):Zi:=match p with
 | .π id n i j=>match T d,σ[id]? with
  | some b,some (.cells t k l)=>match l[i]? with
   | some e=>if l.length=n/\a.cells.length=b.size/\j+b.size<=k/\a.cells.all (Ψ.YW σ)=true then .ok .Zx (σ.set id (.cells t k (l.set i (e.O4 j a.cells)))) else .bad
   | none=>.bad
  | _,_=>.bad
 | .z (.pointer (some ⟨c,o,none⟩))=>match T d,Oa σ c o 0 with
  | some b,some (id,o',l)=>if a.cells.length=b.size/\o-o'+a.cells.length<=l.length/\a.cells.all (Ψ.YW σ)=true then .ok .Zx (σ.set id (.own c o' (l.take (o-o')++a.cells++l.drop (o-o'+a.cells.length)))) else .bad
  | _,_=>.bad
 | _=>.bad
theorem xg (D:ZL P T) (m:Holds S B σ H) {E:TypeId} {p a:Ψ} {u v:Value} (F:Θ S B σ p u) (r:Θ S B σ a v):LU P (Instr.storeAt E u v) S B H σ (Ii T E σ p a):=by
 unfold Ii;split
 .rename_i id n i j;split
  .rename_i O t k l hi g;split
   .rename_i e Q;split
    .rename_i s;obtain⟨Y,R,J,h⟩:=s;cases F with
     | π d w V=>
      rename_i b N;rw[g] at d;cases d;intro K y;obtain⟨c1,c2,A,f⟩:=xh m g V Q r h (by omega:j+a.cells.length<=k);obtain⟨W,_⟩:=r.cells h;refine Χ.bind' (Χ.pure' ?_);unfold storeVar;refine Χ.bind' (D.size hi ?_);rw[if_neg I];refine Χ.storeCells (G:=H) U ⟨t,N,A⟩ v.cells.toList 0 H c1 (λx _ C=>c2 x (by simp at C;omega)) U ?_;exact⟨S,_,_,.Zx,y,f.2.1,f.1,f.2.2,.Zx _⟩
     | VI v d w=>rw[g] at d;cases d;simp only[Row.Xx] at w;omega
    .exact .bad
   .exact .bad
  .exact .bad
 .rename_i c o;split
  .rename_i O id o' l hi g;split
   .rename_i s;obtain⟨R,J,h⟩:=s;cases F;obtain⟨_,d,w⟩:=Cu g;rw[Nat.sub_zero] at d;obtain⟨bo,L⟩:=Ue m d;obtain⟨N,_,_,rfl,_⟩:=m.row id _ bo d L;have X:o'+(o-o')=o:=I;intro K y;obtain⟨c1,c2,⟨t,M,A⟩,f⟩:=Co m d L r h J;rw[X] at c2 f;obtain⟨W,_⟩:=r.cells h;refine Χ.bind' (Χ.pure' ?_);unfold storeVar;refine Χ.bind' (D.size hi ?_);rw[if_neg I];refine Χ.storeCells (G:=H) U ⟨t,M,A⟩ v.cells.toList 0 H c1 (λx _ C=>c2 x (by simp at C;omega)) U ?_;exact⟨S,_,_,.Zx,y,f.2.1,f.1,f.2.2,.Zx _⟩
   .exact .bad
  .exact .bad
 .exact .bad
end
section
variable {P:Program} {T:Z2} {S:ς} {B:δ} {H:Υ} {σ:Ρ}
def Xo (S:ς) (B:δ) (σ:Ρ) (c:ν) (k:Nat) (l:ψ):Prop:=
 l.length*k<=c.size/\∀(i:Nat) (e:Ψ),l[i]?=some e->e.cells.length=k/\∀(j:Nat) (a:Ψ),e.cells[j]?=some a->∃x,c[i*k+j]?=some x/\Θ S B σ a x/\One x
theorem Ih {a:Ψ} (h:a.YW []=true):a.YW σ=true:=by
 cases a<;>first|exact h|(simp[Ψ.YW] at h)
theorem LS {l:ψ} (h:l.all (Ψ.YW [])=true):l.all (Ψ.YW σ)=true:=by
 rw[XJ] at *;exact λa b=>Ih (h a b)
theorem Xo.put {c:ν} {k:Nat} {l:ψ} (h:Xo S B σ c k l) {i j:Nat} {e a:Ψ} {v:Value} (s:l[i]?=some e) (J:Θ S B σ a v) (w:a.cells.all (Ψ.YW σ)=true) (y:j+a.cells.length<=k) :
  let c':=v.cells.zipIdx.foldl (λcs (x:Value×Nat)=>cs.setIfInBounds (i*k+j+x.2) x.1) c
  c'.size=c.size/\Xo S B σ c' k (l.set i (e.O4 j a.cells)):=by
 obtain⟨K,L⟩:=J.cells w;have A:i<l.length:=(ZR.1 s).1;have M:=(h.2 i e s).1;have N:∀c∈a.cells,Ψ.YW σ c=true:=XJ.1 w;have O:=Ψ.Cq (σ:=σ) (e:=e) (j:=j) (cs:=a.cells) (by rw[M];exact y) N;have P:∀(vs:List Value) (n:Nat) (c:ν),((vs.zipIdx n).foldl (λcs (x:Value×Nat)=>cs.setIfInBounds (i*k+j+x.2) x.1) c).size=c.size/\
   ∀p,((vs.zipIdx n).foldl (λcs (x:Value×Nat)=>cs.setIfInBounds (i*k+j+x.2) x.1) c)[p]?=if i*k+j+n<=p/\p<i*k+j+n+vs.length/\p<c.size then vs[p-(i*k+j+n)]? else c[p]?:=by
  intro vs
  induction vs with
  | nil=>intro n c;refine⟨rfl,λp=>?_⟩;rw[if_neg (by simp;omega)];rfl
  | cons v vs Q=>
   intro n c;obtain⟨f,g⟩:=Q (n+1) (c.setIfInBounds (i*k+j+n) v);simp only[List.zipIdx_cons,List.foldl_cons];refine⟨by rw[f];simp,λp=>?_⟩;rw[g p];simp only[Vx,List.length_cons];by_cases C:p=i*k+j+n
   .subst C;rw[if_neg I];by_cases D:i*k+j+n<c.size
    .rw[if_pos ⟨I,I,D⟩,Ts D];simp
    .rw[if_neg I,Md (by simp;omega),Md I]
   .by_cases m:i*k+j+(n+1)<=p/\p<i*k+j+(n+1)+vs.length/\p<c.size
    .rw[if_pos m,if_pos ⟨I,I,m.2.2⟩];have:p-(i*k+j+n)=(p-(i*k+j+(n+1)))+1:=I;rw[this,List.getElem?_cons_succ]
    .rw[if_neg m,if_neg I,UK (YV C)]
 obtain⟨E,F⟩:=P v.cells.toList 0 c;have R:v.cells.zipIdx.foldl (λcs (x:Value×Nat)=>cs.setIfInBounds (i*k+j+x.2) x.1) c=(v.cells.toList.zipIdx 0).foldl (λcs (x:Value×Nat)=>cs.setIfInBounds (i*k+j+x.2) x.1) c:=by
  rw[<-Array.foldl_toList];simp
 intro c';have T:c'=(v.cells.toList.zipIdx 0).foldl (λcs (x:Value×Nat)=>cs.setIfInBounds (i*k+j+x.2) x.1) c:=R;rw[T];have H:v.cells.toList.length=a.cells.length:=by simpa using K
 have Y:i*k+k<=c.size:=by
  have f:(i+1)*k<=l.length*k:=Vo k A
  have g:=h.1;rw[XF] at f;omega
 refine⟨E,by rw[E];simpa using h.1,λo U r=>?_⟩;by_cases t:o=i
 .subst t;rw[Xs A] at r;cases r;rw[O];refine⟨by simp;omega,λb c2 d=>?_⟩;rw[F,H];by_cases m:j<=b/\b<j+a.cells.length
  .have u:a.cells[b-j]?=some c2:=by
    rw[Tq,Xz (by simp;omega)] at d;simp only[KJ] at d;rw[YN I] at d;have:b-min j e.cells.length=b-j:=I;rw[this] at d;exact d
   obtain⟨x,f,g,V⟩:=L _ _ u;rw[if_pos ⟨I,I,I⟩];have:o*k+b-(o*k+j+0)=b-j:=I;rw[this,Xr];exact⟨x,f,g,V⟩
  .have u:e.cells[b]?=some c2:=by
    by_cases W:b<j
    .rw[Tq,YN (by simp;omega),TV W] at d;exact d
    .rw[Xz (by simp;omega)] at d;rw[Va] at d;have:j+a.cells.length+(b-(e.cells.take j++a.cells).length)=b:=by simp;omega
     rw[this] at d;exact d
   rw[if_neg (λx=>m ⟨I,I⟩)];exact(h.2 o e s).2 b c2 u
 .rw[Xj (YV t)] at r;obtain⟨f,g⟩:=h.2 o U r;refine⟨f,λb c2 d=>?_⟩;have X:b<k:=by rw[<-f];exact(ZR.1 d).1
  rw[F,H,if_neg (λx=>Cp (lo:=j) (hi:=j+a.cells.length) X y t ⟨I,I⟩)];exact g b c2 d
theorem Xo.ZT {z:Value} {a:Ψ} (p:Θ S B σ a z) (r:a.cells.all (Ψ.YW σ)=true) {k n m:Nat} (b:a.cells.length=k) (s:n*k<=m) (d:ν) (t:d=z.cells) :
  Xo S B σ ((Array.range m).map (d[· % d.size]!)) k (List.replicate n a):=by
 obtain⟨u,v⟩:=p.cells r;subst t;refine⟨by simpa using s,λi e hi=>?_⟩;obtain⟨f,g⟩:=ZR.1 hi;simp at f g;subst g;refine⟨b,λj c h=>?_⟩;obtain⟨x,l,w,y⟩:=v j c h;have A:j<k:=by rw[<-b];exact(ZR.1 h).1
 have C:i*k+j<m:=by
  have:(i+1)*k<=n*k:=Vo k f;rw[XF] at this;omega
 refine⟨x,?_,w,y⟩;rw[Oj,Array.getElem?_range,if_pos C];simp only[Option.map_some];have:(i*k+j) % z.cells.size=j:=by
  rw[u,b,Nat.mul_comm,Nat.mul_add_mod];exact Oh A
 rw[this];have o:j<z.cells.size:=I;rw[YS o] at l;cases l;rw[getElem!_pos z.cells j o]
theorem Xo.later {S':ς} {B':δ} {σ':Ρ} (b:ZJ S S' B B' σ σ') {c:ν} {k:Nat} {l:ψ} (h:Xo S B σ c k l):Xo S' B' σ' c k l:=
 ⟨h.1,λi e hi=>⟨(h.2 i e hi).1,λj a d=>by obtain⟨x,f,g,m⟩:=(h.2 i e hi).2 j a d;exact⟨x,f,g.later b,m⟩⟩⟩
theorem Xo.one {a:Ψ} {v:Value} (b:Θ S B σ a v) (d:a.cells.all (Ψ.YW σ)=true):Xo S B σ v.cells a.cells.length [a]:=by
 obtain⟨f,g⟩:=b.cells d;refine⟨by simp[f],λi e hi=>?_⟩
 match i with
 | 0=>
  simp at hi;subst hi;refine⟨U,λj c h=>?_⟩;rw[Nr,V5];exact g j c h
 | i+1=>simp at hi
theorem M5 (p:Holds S B σ H) {c:ν} {k:Nat} {l:ψ} (d:Xo S B σ c k l) (t:TypeId) {K:Nat->Υ->Prop} {E:Value->Υ->Prop}
  (h:∀r,H.fresh r->Holds S (B++[some (r,c.size)]) (σ++[.cells t k l]) (H.YH r c t)->Ext S B H S (B++[some (r,c.size)]) (H.YH r c t)->ZJ S S B (B++[some (r,c.size)]) σ (σ++[.cells t k l])->K r (H.YH r c t)) :
  Χ P (newObj (.cells c t)) H K E:=by
 refine⟨U,λr f=>?_⟩;have s:∀b,(∀N,some (r,c.size)≠some (b,N))->Vk H (H.YH r c t) b:=λb u=>by
  have g:b≠r:=λe=>by subst e;exact u _ U
  exact⟨λo=>by simp[Υ.YH,g],by simp[Υ.YH,g],U⟩
 have v:ZJ S S B (B++[some (r,c.size)]) σ (σ++[.cells t k l])->Wi S (B++[some (r,c.size)]) (σ++[.cells t k l]) (H.YH r c t) (.cells t k l) (some (r,c.size)):=λw=>by
  have m:=d.later w;refine⟨by simp[Υ.YH],d.1,λo y=>⟨c[o],by simp[Υ.YH,y]⟩,λi j=>(c[i*k+j]?).getD undef,λi e hi=>⟨(m.2 i e hi).1,λj a A=>?_⟩⟩;obtain⟨x,n,C,D⟩:=(m.2 i e hi).2 j a A;simp only[n,Option.getD_some];exact⟨by simp[Υ.YH,n],C,D⟩
 obtain⟨F,I,J⟩:=p.push (λb N e=>by cases e;exact f) s v;exact h r f F I J
theorem LR (a:Holds S B σ H) (c:ν) (t:TypeId) {K:Nat->Υ->Prop} {E:Value->Υ->Prop}
  (h:∀r,Holds (S.lay r c) B σ (H.YH r c t)->Ext S B H (S.lay r c) B (H.YH r c t)->ZJ S (S.lay r c) B B σ σ->K r (H.YH r c t)) :
  Χ P (newObj (.cells c t)) H K E:=by
 refine⟨U,λr b=>?_⟩;obtain⟨d,e,f⟩:=a.lay (c:=c) (t:=t) b;exact h r d e f
theorem Cn {r:Nat} {c:ν} {a:Ψ} {k:Nat} (f:ZJ S (S.lay r c) B B σ σ) (g:Xo S B σ c k [a]):Θ (S.lay r c) B σ (.Ν a.cells) (.pointer (some ⟨r,0,none⟩)):=by
 have e:=g.later f;refine .Ν r 0 (λj=>(c[j]?).getD undef) (λj x d=>?_) (λj x d=>?_)
 .obtain⟨y,b,_⟩:=(e.2 0 a U).2 j x d;rw[Nr,V5] at b;simp[ς.lay,b]
 .obtain⟨y,b,h,_⟩:=(e.2 0 a U).2 j x d;rw[Nr,V5] at b;simp only[b,Option.getD_some];exact h
theorem Ig {r:Nat} {c:ν} {k cap:Nat} {l:ψ} (ex:Bool) (f:ZJ S (S.lay r c) B B σ σ) (g:Xo S B σ c k l) (h:l.length<=cap) (m:ex=true->cap=l.length):Θ (S.lay r c) B σ (.sl ex k l) (.slice (some ⟨r,0,none⟩) l.length cap):=by
 have a:=g.later f;refine .sl r 0 cap (λi j=>(c[i*k+j]?).getD undef) m h (λi e hi=>(a.2 i e hi).1) (λi e hi j x b=>?_) (λi e hi j x b=>?_)
 .obtain⟨y,d,_⟩:=(a.2 i e hi).2 j x b;simp[ς.lay,d]
 .obtain⟨y,d,n,_⟩:=(a.2 i e hi).2 j x b;simp only[d,Option.getD_some];exact n
end
end Go.TL
