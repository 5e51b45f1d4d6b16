import Derived.Test.YtkndbcflmgogjaaGreatTAB
set_option linter.defProp false
set_option maxHeartbeats 16000000
set_option maxRecDepth 20000
set_option linter.unusedSectionVars false
set_option linter.unusedSimpArgs false
set_option linter.unusedVariables false
namespace Go.TL
open Go.Conc
open Go.ConcM (OsLater)
open Go.ConcN (sumTo upd sumTo_upd upd_ne upd_same sumTo_congr le_sumTo)
def Φ.fresh(G:Φ)(r:Nat):Prop:=(∀a,G.Α r a=none)/\G.row r=none/\G.obj r=none/\∀b,r<b->(∀a,G.Α b a=none)/\G.row b=none/\G.obj b=none
def Φ.QS(G:Φ)(a:Addr)(v:Value):Φ:={G with Α:=λb c=>if b=a.block/\c=a.off then some (v,true) else G.Α b c}
def Φ.YF(G:Φ)(r:Nat)(c:ZP)(t:TypeId):Φ:=⟨λb a=>if b=r then(c[a]?).map (·,true) else G.Α b a,λb=>if b=r then some (t,c.size) else G.row b,G.obj⟩
def Φ.Zp(G:Φ)(r:Nat)(x:Obj):Φ:={G with obj:=λb=>if b=r then some x else G.obj b}
def Φ.RF(G:Φ)(r:Nat):Φ:={G with Α:=λb a=>if b=r then(G.Α b a).map λx=>(x.1,false) else G.Α b a}
def One:Value->Prop
 | .agg _|.tuple _=>False
 | _=>True
def Ω{d:Type}(P:Program):Sem d->Φ->(d->Φ->Prop)->(Value->Φ->Prop)->Prop
 | .pure a,G,K,_=>K a G
 | .load m a k,G,K,E=>m=m/\a.spot=none/\∃v p,G.Α a.block a.off=some (v,p)/\Ω P (k v) G K E
 | .store m a v k,G,K,E=>m=m/\a.spot=none/\G.owns a.block a.off/\(∃t n,G.row a.block=some (t,n))/\One v/\Ω P k (G.QS a v) K E
 | .new (.cells c t e) k,G,K,E=>e=(0,0)/\∀r,G.fresh r->Ω P (k r) (G.YF r c t) K E
 | .new b k,G,K,E=>∀r,G.fresh r->Ω P (k r) (G.Zp r b) K E
 | .shape r k,G,K,E=>∃t n,G.row r=some (t,n)/\Ω P (k (some (t,n))) G K E
 | .freeze a _ k,G,K,E=>(∃t n,G.row a.block=some (t,n)/\0<n/\∀b,b<n->G.owns a.block b)/\Ω P k (G.RF a.block) K E
 | .frozen a k,G,K,E=>G.owns a.block a.off/\Ω P (k false) G K E
 | .getObj r k,G,K,E=>∃b,G.obj r=some b/\b.isChan=false/\Ω P (k b) G K E
 | .setObj r b k,G,K,E=>G.Xy r/\Obj.OD b=false/\b.isChan=false/\Ω P k (G.Zp r b) K E
 | .choose q k,G,K,E=>if q.forced then Ω P (k 0) G K E else ∀n,Ω P (k (q.cut n)) G K E
 | .sys _ _,_,_,_=>False
 | .program k,G,K,E=>Ω P (k P) G K E
 | .mark m k,G,K,E=>(m=.noRoom\/∃f,m=.extern f)/\Ω P k G K E
 | .halt (.panic v),G,_,E=>E v G
 | .halt _,_,_,_=>False
structure Yq(G0:Φ)(w0:World)(G:Φ)(w:World)(es:Array Event):Prop where
 fit:Fits G w
 keeps:Xe G0.owns G0.Xy w0 w
 U0:HX G0 G w0.heap.size
 TJ:∀e∈es,V5 G0 w0.heap.size w.heap.size e
def Yq.start{G:Φ}{w:World}(h:Fits G w):Yq G w G w #[]:=
 ⟨h,Xe.refl _ _ _,⟨λb c v p h=>.inr ⟨v,p,h,id⟩,λb h=>.inr h⟩,λe a=>by simp at a⟩
section
variable{G0 G:Φ}{w0 w:World}{es:Array Event}
def Fits.bare(h:Fits G w){b:Nat}(d:w.heap.size<=b):(∀e,G.Α b e=none)/\G.row b=none/\G.obj b=none:=by
 refine⟨λe=>?_,?_,?_⟩
 .cases a:G.Α b e with
  | none=>rfl
  | some x=>obtain⟨c,t,f,d,_⟩:=SF (h.Α _ _ x.1 x.2 a);have:=XP d;omega
 .cases a:G.row b with
  | none=>rfl
  | some x=>obtain⟨c,_,d,_⟩:=h.row _ x.1 x.2 a;have:=XP d;omega
 cases a:G.obj b with
 | none=>rfl
 | some x=>have:=XP (h.obj _ x a).1;omega
def Fits.fresh(h:Fits G w):G.fresh w.heap.size:=
 ⟨(h.bare (Z3 _)).1,(h.bare (Z3 _)).2.1,(h.bare (Z3 _)).2.2,λ_ a=>h.bare (RO a)⟩
def Φ.HK{H H':Φ}(d:∀b a,H'.Α b a=none->H.Α b a=none)(e:∀b,H'.row b=none->H.row b=none)(f:∀b,H'.obj b=none->H.obj b=none)(r:Nat)(h:H'.fresh r):H.fresh r:=
 ⟨λa=>d _ _ (h.1 a),e _ h.2.1,f _ h.2.2.1,λb c=>⟨λa=>d _ _ ((h.2.2.2 b c).1 a),e _ (h.2.2.2 b c).2.1,f _ (h.2.2.2 b c).2.2⟩⟩
def Φ.EK{H:Φ}{r:Nat}(a:H.fresh r)(c:ZP)(t:TypeId):∀b,(H.YF r c t).fresh b->H.fresh b:=
 Φ.HK (λb d h=>by
  by_cases e:b=r
  .subst e;exact a.1 d
  .simpa[Φ.YF,e] using h) (λb h=>by
  by_cases e:b=r
  .subst e;exact a.2.1
  simpa[Φ.YF,e] using h) (λb h=>h)
def Φ.JN{H:Φ}{r:Nat}{x:Obj}:∀b,(H.Zp r x).fresh b->H.fresh b:=
 Φ.HK (λb a h=>h) (λb h=>h) (λb h=>by
  by_cases e:b=r
  .subst e;simp[Φ.Zp]at h
  simpa[Φ.Zp,e] using h)
def V5.mono{n b c:Nat}{e:Event}(h:V5 G n b e)(f:b<=c):V5 G n c e:=by
 obtain⟨d,wr,g⟩:=e;cases d with
 | cell a=>exact h.imp (λx=>⟨x.1,J⟩) id
 | obj r=>exact⟨h.1,h.2.imp (λx=>⟨x.1,J⟩) id⟩
 | _=>exact h
def Yq.read(h:Yq G0 w0 G w es){a:Addr}{s:Bool}{v:Value}{p:Bool}(g:a.spot=none)(d:G.Α a.block a.off=some (v,p)):w.cell? a=some v/\Yq G0 w0 G w (es.push ⟨.cell a,false,s⟩):=by
 obtain⟨b,i,sp⟩:=a;simp only at g d;subst g;have hv:=h.fit.Α b i v p d;refine⟨hv,h.fit,h.keeps,h.U0,λe f=>?_⟩;rcases MP.1 f with f|rfl
 .exact h.TJ e f
 rcases h.U0.Α b i v p d with j|⟨m,n,k,_⟩
 .obtain⟨c,t,o,l,_⟩:=SF hv;exact .inl ⟨j,XP l⟩
 exact .inr ⟨U,_,k⟩
def heap_setCell{a:Addr}{v:Value}{c:ZP}{t:TypeId}{f:Nat×Nat}(g:a.spot=none)(d:w.heap[a.block]?=some (.cells c t f)):(w.setCell a v).heap=w.heap.setIfInBounds a.block (.cells (c.setIfInBounds a.off v) t f):=by
 obtain⟨b,i,sp⟩:=a;simp only at g d;subst g;have h:=XP d;simp only[World.setCell];apply Lm;intro j;rw[Ka];by_cases e:b=j
 .subst e;rw[SL h,if_pos U,d];simp
 rw[Ut e,if_neg e]
def vM{a:Addr}{v:Value}{c:ZP}{t:TypeId}{d:Nat×Nat}(f:a.spot=none)(b:w.heap[a.block]?=some (.cells c t d))(x:Addr):(w.setCell a v).frozen? x=w.frozen? x:=by
 have g:=heap_setCell (v:=v) f b;unfold World.frozen?;rw[g];by_cases e:a.block=x.block
 .rw[<-e,SL (XP b),b]
 rw[Ut e]
def Yq.write(h:Yq G0 w0 G w es){a:Addr}{s:Bool}{v:Value}(L:a.spot=none)(M:G.owns a.block a.off):(∃u,w.cell? a=some u)/\Yq G0 w0 (G.QS a v) (w.setCell a v) (es.push ⟨.cell a,true,s⟩):=by
 obtain⟨b,f,sp⟩:=a;simp only at L M;subst L;obtain⟨u,p⟩:=M;have hv:=h.fit.Α b f u true p;obtain⟨c,t,Y,l,Z⟩:=SF hv;have N:=XP l;have D:=heap_setCell (w:=w) (a:=⟨b,f,none⟩) (v:=v) U l;have O:(w.setCell ⟨b,f,none⟩ v).heap.size=w.heap.size:=by rw[D];simp
 have r:(w.setCell ⟨b,f,none⟩ v).heap[b]?=some (.cells (c.setIfInBounds f v) t Y):=by rw[D,SL N]
 have n:∀j,b≠j->(w.setCell ⟨b,f,none⟩ v).heap[j]?=w.heap[j]?:=λj aa=>by rw[D,Ut aa]
 have ab:f<c.size:=(Sd.1 Z).1
 have P:b<w0.heap.size->G0.owns b f:=λy=>by
  rcases h.U0.Α b f u true p with A|⟨E,Q,F,H⟩
  .omega
  exact⟨E,by rw[F,H U]⟩
 refine⟨⟨u,hv⟩,⟨λd o' v' I g=>?_,λd t' ad ae=>?_,λd x B=>?_,λd o' v' g=>?_⟩,⟨by rw[O];exact h.keeps.size,λd c' t' af C=>?_,λd x C B A=>?_,h.keeps.os,h.keeps.output,h.keeps.tape⟩,⟨λd o' v' I g=>?_,h.U0.obj⟩,λe J=>?_⟩
 .simp only[Φ.QS]at g;by_cases e:d=b/\o'=f
  .obtain⟨rfl,rfl⟩:=e;rw[if_pos ⟨U,rfl⟩]at g;cases g;exact SE r (by rw[SL ab])
  rw[if_neg e]at g;have:=h.fit.Α d o' v' I g;by_cases i:d=b
  .subst i;have Υ:f≠o':=λx=>e ⟨U,x.symm⟩;obtain⟨o,t2,ag,k,K⟩:=SF this;rw[l]at k;cases k;exact SE r (by rw[Ut Υ];exact K)
  obtain⟨o,t2,ag,k,K⟩:=SF this;exact SE (by rw[n d (YX i)];exact k) K
 .obtain⟨o,f2,k,R⟩:=h.fit.row d t' ad ae;by_cases i:d=b
  .subst i;rw[l]at k;cases k;exact⟨_,_,r,by simpa using R⟩
  exact⟨o,f2,by rw[n d (YX i)];exact k,R⟩
 .obtain⟨k,S⟩:=h.fit.obj d x B;have i:b≠d:=λe=>by subst e;rw[l]at k;cases k;cases S
  exact⟨by rw[n d i];exact k,S⟩
 .rw[vM (a:=⟨b,f,none⟩) U l];simp only[Φ.QS]at g;by_cases e:d=b/\o'=f
  .rw[e.1,e.2];exact h.fit.thaw b f u p
  rw[if_neg e]at g;exact h.fit.thaw d o' v' g
 .obtain⟨o,f2,m,T,V,W⟩:=h.keeps.cells d c' t' af C;by_cases i:d=b
  .subst i;rw[l]at m;cases m;refine⟨_,_,r,by simpa using T,λo' X=>?_,W⟩;have Υ:f≠o':=λe=>by subst e;exact X (P (XP C))
   rw[Ut Υ];exact V o' X
  exact⟨o,f2,by rw[n d (YX i)];exact m,T,V,W⟩
 .have m:=h.keeps.SG d x C B A
  have i:b≠d:=λe=>by subst e;rw[l]at m;cases m;cases B
  rw[n d i];exact m
 .simp only[Φ.QS]at g;by_cases e:d=b/\o'=f
  .obtain⟨rfl,rfl⟩:=e;rw[if_pos ⟨U,rfl⟩]at g;cases g;rcases h.U0.Α _ _ _ _ p with A|⟨E,Q,F,H⟩
   .exact .inl A
   exact .inr ⟨E,Q,F,H⟩
  rw[if_neg e]at g;exact h.U0.Α d o' v' I g
 rw[O];rcases MP.1 J with J|rfl
 .exact h.TJ e J
 rcases MO b w0.heap.size with y|y
 .refine .inr ⟨U,?_⟩;exact P y
 exact .inl ⟨y,N⟩
def K7{x:Obj}{j:Nat}(a:j<w.heap.size):(w.heap.push x)[j]?=w.heap[j]?:=by
 rw[Lo,if_neg J]
def HJ{x:Obj}:(w.heap.push x)[w.heap.size]?=some x:=o
def Yq.new(h:Yq G0 w0 G w es){x:Obj}{G':Φ}(k:∀b d,b≠w.heap.size->G'.Α b d=G.Α b d)(s:∀b,b≠w.heap.size->G'.row b=G.row b)(m:∀b,b≠w.heap.size->G'.obj b=G.obj b)
  (j:Fits {Α:=λb d=>if b=w.heap.size then G'.Α b d else none,row:=λb=>if b=w.heap.size then G'.row b else none,obj:=λb=>if b=w.heap.size then G'.obj b else none} {w with heap:=w.heap.push x}) :
  Yq G0 w0 G' {w with heap:=w.heap.push x} es:=by
 have K:=h.keeps.size;refine⟨⟨λb d v p a=>?_,λb t n a=>?_,λb y a=>?_,λb d v a=>?_⟩,⟨by simp;omega,λb c t u a=>?_,λb y a l A=>?_,h.keeps.os,h.keeps.output,h.keeps.tape⟩,⟨λb d v p a=>?_,λb ⟨y,a⟩=>?_⟩,λe B=>(h.TJ e B).mono o⟩
 .by_cases e:b=w.heap.size
  .exact j.Α b d v p (by simp only[e,if_true];rw[<-e];exact a)
  rw[k b d e]at a;obtain⟨g,t2,C,f,r⟩:=SF (h.fit.Α b d v p a);exact SE (w:={w with heap:=w.heap.push x}) (by show(w.heap.push x)[b]?=_;rw[K7 (XP f)];exact f) r
 .by_cases e:b=w.heap.size
  .exact j.row b t n (by simp only[e,if_true];rw[<-e];exact a)
  rw[s b e]at a;obtain⟨g,f2,f,D⟩:=h.fit.row b t n a;exact⟨g,f2,by show(w.heap.push x)[b]?=_;rw[K7 (XP f)];exact f,D⟩
 .by_cases e:b=w.heap.size
  .exact j.obj b y (by simp only[e,if_true];rw[<-e];exact a)
  rw[m b e]at a;obtain⟨f,l⟩:=h.fit.obj b y a;exact⟨by show(w.heap.push x)[b]?=_;rw[K7 (XP f)];exact f,l⟩
 .by_cases e:b=w.heap.size
  .exact j.thaw b d v (by simp only[e,if_true];rw[<-e];exact a)
  rw[k b d e]at a;have E:=h.fit.thaw b d v a;obtain⟨g,t2,C,f,r⟩:=SF (h.fit.Α b d v true a);have Υ:(w.heap.push x)[b]?=_:=(K7 (XP f)).trans f;simpa[World.frozen?,f,Υ] using E
 .obtain⟨g,f2,i,F,H,I⟩:=h.keeps.cells b c t u a;exact⟨g,f2,by show(w.heap.push x)[b]?=_;rw[K7 (XP i)];exact i,F,H,I⟩
 .have i:=h.keeps.SG b y a l A
  show(w.heap.push x)[b]?=_;rw[K7 (XP i)];exact i
 .by_cases e:b=w.heap.size
  .exact .inl J
  rw[k b d e]at a;exact h.U0.Α b d v p a
 by_cases e:b=w.heap.size
 .exact .inl J
 rw[m b e]at a;exact h.U0.obj b ⟨y,a⟩
end
section
variable{G0 G:Φ}{w0 w:World}{es:Array Event}{P:Program}
def Yq.push(h:Yq G0 w0 G w es){e}(a:V5 G0 w0.heap.size w.heap.size e):Yq G0 w0 G w (es.push e):=
 ⟨h.fit,h.keeps,h.U0,λx b=>(MP.1 b).elim (h.TJ x) λy=>y▸a⟩
def Yq.draw(h:Yq G0 w0 G w es)(n):Yq G0 w0 G {w with drawn:=n} es:=
 ⟨⟨h.fit.Α,h.fit.row,h.fit.obj,h.fit.thaw⟩,⟨h.keeps.size,h.keeps.cells,h.keeps.SG,h.keeps.os,h.keeps.output,h.keeps.tape⟩,h.U0,h.TJ⟩
def Yq.row(h:Yq G0 w0 G w es)(c t):Yq G0 w0 (G.YF w.heap.size c t) {w with heap:=w.heap.push (.cells c t (0,0))} es:=by
 refine h.new (λb d a=>by simp[Φ.YF,a]) (λb a=>by simp[Φ.YF,a]) (λb a=>rfl) ⟨λb d v p a=>?_,λb t' n a=>?_,λb y a=>?_,λb d v a=>?_⟩
 .by_cases e:b=w.heap.size
  .simp[Φ.YF,e]at a;obtain⟨g,f,rfl,rfl⟩:=a;rw[e];exact SE HJ f
  simp[e]at a
 .by_cases e:b=w.heap.size
  .simp[Φ.YF,e]at a;obtain⟨rfl,rfl⟩:=a;rw[e];exact⟨c,_,HJ,U⟩
  simp[e]at a
 .by_cases e:b=w.heap.size
  .simp[e,Φ.YF]at a;rw[h.fit.fresh.2.2.1]at a;cases a
  simp[e]at a
 by_cases e:b=w.heap.size
 .subst e;simp[World.frozen?]
 simp[e]at a
def Yq.obj(h:Yq G0 w0 G w es){x}(d:Obj.OD x=false):Yq G0 w0 (G.Zp w.heap.size x) {w with heap:=w.heap.push x} es:=by
 refine h.new (λb c a=>rfl) (λb a=>rfl) (λb a=>by simp[Φ.Zp,a]) ⟨λb c v p a=>?_,λb t' n a=>?_,λb y a=>?_,λb c v a=>?_⟩
 .by_cases e:b=w.heap.size
  .simp[e,Φ.Zp]at a;rw[h.fit.fresh.1]at a;cases a
  simp[e]at a
 .by_cases e:b=w.heap.size
  .simp[e,Φ.Zp]at a;rw[h.fit.fresh.2.1]at a;cases a
  simp[e]at a
 .by_cases e:b=w.heap.size
  .simp[Φ.Zp,e]at a;subst a;rw[e];exact⟨HJ,d⟩
  simp[e]at a
 by_cases e:b=w.heap.size
 .simp[e,Φ.Zp]at a;rw[h.fit.fresh.1]at a;cases a
 simp[e]at a
def Yq.setObj(h:Yq G0 w0 G w es){r x}(H:G.Xy r)(l:Obj.OD x=false):(∃y,w.heap[r]?=some y/\Obj.OD y=false)/\Yq G0 w0 (G.Zp r x) {w with heap:=w.heap.setIfInBounds r x} (es.push ⟨.obj r,true,false⟩):=by
 let ⟨y,o⟩:=H
 let ⟨A,C⟩:=h.fit.obj r y o
 have D:=XP A
 have I:(w.heap.setIfInBounds r x)[r]?=some x:=SL D
 have m:∀j,r≠j->(w.heap.setIfInBounds r x)[j]?=w.heap[j]?:=λj J=>Ut J
 have s:∀b c t i,w.heap[b]?=some (.cells c t i)->r≠b:=λb c t i d e=>by subst e;rw[A]at d;cases d;cases C
 refine⟨⟨y,A,C⟩,⟨λb u v p d=>?_,λb t n d=>?_,λb z g=>?_,λb u v d=>?_⟩,⟨by simp;exact h.keeps.size,λb c t i d=>?_,λb z d g E=>?_,h.keeps.os,h.keeps.output,h.keeps.tape⟩,⟨h.U0.Α,λb g=>?_⟩,λe B=>?_⟩
 .let ⟨c,t,i,a,k⟩:=SF (h.fit.Α b u v p d);exact SE (by rw[m b (s b c t i a)];exact a) k
 .let ⟨c,f,a,k⟩:=h.fit.row b t n d;exact⟨c,f,by rw[m b (s b c t _ a)];exact a,k⟩
 .by_cases e:b=r
  .subst e;simp[Φ.Zp]at g;subst g;exact⟨I,l⟩
  simp[Φ.Zp,e]at g;let ⟨a,k⟩:=h.fit.obj b z g;exact⟨by rw[m b (YX e)];exact a,k⟩
 .have K:=h.fit.thaw b u v d
  let ⟨c,t,i,a,k⟩:=SF (h.fit.Α b u v true d)
  have Υ:=(m b (s b c t i a)).trans a;simpa[World.frozen?,a,Υ] using K
 .let ⟨F,f2,a,k,L,M⟩:=h.keeps.cells b c t i d;exact⟨F,f2,by rw[m b (s b F t f2 a)];exact a,k,L,M⟩
 .have a:=h.keeps.SG b z d g E
  have e:r≠b:=λe=>by
   subst e;rcases h.U0.obj r ⟨y,o⟩with l|l
   .have:=XP d;omega
   exact E l
  rw[m b e];exact a
 .by_cases e:b=r
  .subst e;exact h.U0.obj b ⟨y,o⟩
  let ⟨z,g⟩:=g;simp[Φ.Zp,e]at g;exact h.U0.obj b ⟨z,g⟩
 simp[Vh];rcases MP.1 B with B|rfl
 .exact h.TJ e B
 exact⟨U,(h.U0.obj r ⟨y,o⟩).imp (λl=>⟨l,D⟩) id⟩
def vL(w:World)(a):w.frozen? a=w.frozen? ⟨a.block,a.off,none⟩:=rfl
def Yq.freeze(h:Yq G0 w0 G w es){a t N}(I:G.row a.block=some (t,N))(V:0<N)(K:∀f,f<N->G.owns a.block f)(n):Yq G0 w0 (G.RF a.block) (w.freeze a n) es:=by
 let ⟨b,o,sp⟩:=a;simp only at I K;let ⟨c,W,l,al⟩:=h.fit.row b t N I;have am:=XP l;obtain⟨f1,D⟩:∃f1,(w.freeze ⟨b,o,sp⟩ n).heap[b]?=some (.cells c t f1):=by
  unfold World.freeze;split
  .exact⟨W,l⟩
  rw[Ka,if_pos U,l];exact⟨_,U⟩
 have s:∀j,b≠j->(w.freeze ⟨b,o,sp⟩ n).heap[j]?=w.heap[j]?:=λj X=>by
  unfold World.freeze;split
  .rfl
  rw[Ka,if_neg X]
 have L:(w.freeze ⟨b,o,sp⟩ n).heap.size=w.heap.size:=by
  unfold World.freeze;split
  .rfl
  simp
 have Y:(w.freeze ⟨b,o,sp⟩ n).os=w.os:=by unfold World.freeze;split<;>rfl
 have Z:(w.freeze ⟨b,o,sp⟩ n).output=w.output:=by unfold World.freeze;split<;>rfl
 have aa:(w.freeze ⟨b,o,sp⟩ n).tape=w.tape:=by unfold World.freeze;split<;>rfl
 have ab:∀d f,d≠b->(G.RF b).Α d f=G.Α d f:=λd f e=>by simp[Φ.RF,e]
 have ad:∀f,(G.RF b).Α b f=(G.Α b f).map λx=>(x.1,false):=λf=>by simp[Φ.RF]
 have E:∀d f v p,(G.RF b).Α d f=some (v,p)->∃m,G.Α d f=some (v,m)/\(p=true->m=true/\d≠b):=λd f v p k=>by
  by_cases e:d=b
  .subst e;rw[ad]at k;let ⟨x,u,ex⟩:=T7.1 k;cases ex;exact⟨x.2,u,λe=>by cases e⟩
  rw[ab d f e]at k;exact⟨p,k,λh=>⟨h,e⟩⟩
 refine⟨⟨λd f v p k=>?_,λd t' ae af=>?_,λd x u=>?_,λd f v k=>?_⟩,⟨by rw[L];exact h.keeps.size,λd c' t' ag A=>?_,λd x A u B=>?_,by rw[Y];exact h.keeps.os,by rw[Z];exact h.keeps.output,by rw[aa];exact h.keeps.tape⟩,⟨λd f v p k=>?_,h.U0.obj⟩,λe ah=>by rw[L];exact h.TJ e ah⟩
 .let ⟨m,r,_⟩:=E d f v p k
  have g:=h.fit.Α d f v m r
  let ⟨C,t2,an,i,M⟩:=SF g;by_cases e:d=b
  .subst e;rw[l]at i;cases i;exact SE D M
  exact SE ((s d (YX e)).trans i) M
 .let ⟨C,f2,i,O⟩:=h.fit.row d t' ae af;by_cases e:d=b
  .subst e;rw[l]at i;cases i;exact⟨_,_,D,O⟩
  exact⟨C,f2,(s d (YX e)).trans i,O⟩
 .let ⟨i,P⟩:=h.fit.obj d x u
  have F:b≠d:=λe=>by subst e;rw[l]at i;cases i;cases P
  exact⟨(s d F).trans i,P⟩
 .let ⟨m,r,y⟩:=E d f v true k;obtain⟨rfl,e⟩:=y U;have g:=h.fit.thaw d f v r;unfold World.frozen? at g ⊢;rw[show(w.freeze ⟨b,o,sp⟩ n).heap[(⟨d,f,none⟩:Addr).block]?=w.heap[d]? from s d (YX e)];exact g
 .let ⟨C,f2,g,Q,R,ai⟩:=h.keeps.cells d c' t' ag A;by_cases e:d=b
  .subst e;rw[l]at g;cases g;have S:∀f,f<N->G0.owns d f:=λf T=>by
    let ⟨v,hv⟩:=K f T;rcases h.U0.Α d f v true hv with B|⟨H,m,r,y⟩
    .have:=XP A;omega
    exact⟨H,by rw[r,y U]⟩
   exact⟨_,_,D,Q,R,.inr ⟨⟨0,S 0 V⟩,λf T=>S f J⟩⟩
  exact⟨C,f2,(s d (YX e)).trans g,Q,R,ai⟩
 .have g:=h.keeps.SG d x A u B
  have F:b≠d:=λe=>by subst e;rw[l]at g;cases g;cases u
  exact(s d F).trans g
 let ⟨m,r,y⟩:=E d f v p k;rcases h.U0.Α d f v m r with B|⟨H,aj,g,ak⟩
 .exact .inl B
 exact .inr ⟨H,aj,g,λe=>ak (y e).1⟩
def Ω.sound{α}{K:α->Φ->Prop}{E}(s):∀{G}{w}{es},Ω P s G K E->Yq G0 w0 G w es->
  ∃G' w' es',Yq G0 w0 G' w' es'/\((∃a,s.runT P w es=(.ok a w',es')/\K a G')\/(∃v,s.runT P w es=(.halt (.panic v) w',es')/\E v G')):=by
 induction s with
 | pure a=>intro G w es h d;exact⟨G,w,es,d,.inl ⟨a,rfl,h⟩⟩
 | load m a k i=>
  intro G w es h d;let ⟨_,B,v,p,D,j⟩:=h;let ⟨hv,o⟩:=d.read (s:=m==.atomic) B D;let ⟨G',w',es',f,g⟩:=i v j o;refine⟨G',w',es',f,?_⟩;simp only[Sem.runT,hv];exact g
 | store m a v k i=>
  intro G w es h d;let ⟨_,B,D,⟨t,n,Z⟩,O,j⟩:=h;let ⟨⟨u,hv⟩,o⟩:=d.write (v:=v) (s:=m==.atomic) B D;let ⟨G',w',es',f,g⟩:=i j o;have Q:w.frozen? a=false:=by
   let ⟨b,l,sp⟩:=a
   let ⟨I,F⟩:=D;simp only at B F;subst B;exact d.fit.thaw b l I F
  refine⟨G',w',es',f,?_⟩;have e:(Sem.store m a v k).runT P w es=k.runT P (w.setCell a v) (es.push ⟨.cell a,true,m==.atomic⟩):=by
   cases v<;>first|exact O.elim|(simp only[Sem.runT,hv,Q];rfl)
  rw[e];exact g
 | new l k i=>
  intro G w es h d;cases l with
  | cells c t aa=>
   obtain⟨rfl,j⟩:=h;let ⟨G',w',es',f,g⟩:=i w.heap.size (j _ d.fit.fresh) (d.row c t);exact⟨G',w',es',f,g⟩
  | _=>
   let ⟨G',w',es',f,g⟩:=i w.heap.size (h _ d.fit.fresh) (d.obj U);exact⟨G',w',es',f,g⟩
 | shape r k i=>
  intro G w es h d;let ⟨t,n,C,j⟩:=h;have e:w.shape? r=some (t,n):=by
   let ⟨c,_,A,R⟩:=d.fit.row r t n C;simp[World.shape?,A,R]
  let ⟨G',w',es',f,g⟩:=i _ j d;refine⟨G',w',es',f,?_⟩;simp only[Sem.runT,e];exact g
 | freeze a n k i=>
  intro G w es h d;let ⟨⟨t,N,C,S,T⟩,j⟩:=h;let ⟨G',w',es',f,g⟩:=i j (d.freeze C S T n);exact⟨G',w',es',f,g⟩
 | frozen a k i=>
  intro G w es h d;let ⟨⟨I,F⟩,j⟩:=h;have e:=(vL w a).trans (d.fit.thaw a.block a.off I F);let ⟨G',w',es',f,g⟩:=i _ j d;refine⟨G',w',es',f,?_⟩;simp only[Sem.runT,e];exact g
 | getObj r k i=>
  intro G w es h d;let ⟨l,M,J,j⟩:=h;let ⟨A,L⟩:=d.fit.obj r l M;have V:=XP A;have o:=d.push (e:=⟨.obj r,false,false⟩) ⟨U,(d.U0.obj r ⟨l,M⟩).imp (λW=>⟨W,V⟩) id⟩;let ⟨G',w',es',f,g⟩:=i _ j o;refine⟨G',w',es',f,?_⟩;have e:(Sem.getObj r k).runT P w es=(k l).runT P w (es.push ⟨.obj r,false,false⟩):=by
   cases l<;>first|(simp only[Sem.runT,A];first|done|rfl|(rw[J];done))|(cases L;done)
  rw[e];exact g
 | setObj r l k i=>
  intro G w es h d;let ⟨C,L,J,j⟩:=h;let ⟨⟨y,A,X⟩,o⟩:=d.setObj C L;let ⟨G',w',es',f,g⟩:=i j o;refine⟨G',w',es',f,?_⟩;have e:(Sem.setObj r l k).runT P w es=k.runT P {w with heap:=w.heap.setIfInBounds r l} (es.push ⟨.obj r,true,false⟩):=by
   cases y<;>first|(simp[Sem.runT,A,J];done)|(cases X;done)
  rw[e];exact g
 | choose q k i=>
  intro G w es h d;simp only[Ω]at h;by_cases H:q.forced=true
  .rw[if_pos H]at h;let ⟨G',w',es',f,g⟩:=i _ h d;refine⟨G',w',es',f,?_⟩;simp only[Sem.runT,H,if_true];exact g
  rw[if_neg H]at h;let ⟨G',w',es',f,g⟩:=i _ (h (w.tape w.drawn q)) (d.draw (w.drawn+1));refine⟨G',w',es',f,?_⟩;simp only[Sem.runT,H];exact g
 | sys c k i=>intro G w es h d;exact h.elim
 | program k i=>
  intro G w es h d;let ⟨G',w',es',f,g⟩:=i P h d;exact⟨G',w',es',f,g⟩
 | mark m k i=>
  intro G w es h d;let ⟨Y,j⟩:=h;let ⟨G',w',es',f,g⟩:=i j (d.push (e:=⟨.mark m,false,true⟩) (Y.imp id .inl));exact⟨G',w',es',f,g⟩
 | halt x=>
  intro G w es h d;cases x<;>first|exact h.elim|skip
  exact⟨G,w,es,d,.inr ⟨_,U,h⟩⟩
def mem_seen{fn e}(h:e∈seen P fn es):e∈es:=by
 unfold seen at h;let ⟨l⟩:=es;have d:∀(l:List Event)(q)(c)(x),x∈(l.foldl (λ(s:Bool×Array Event) e=>match e.loc with
   | .mark (Mark.extern f)=>((P.funcs[f]?).any (·.norace),s.2)
   | _=>(s.1,if s.1&&!e.sync then s.2 else s.2.push e)) (q,c)).2->x∈c\/x∈l:=by
  intro l
  induction l with
  | nil=>intro q c x a;exact .inl a
  | cons y l g=>
   intro q c x a;rw[List.foldl_cons]at a;rcases g _ _ x a with b|b
   .split at b
    .exact .inl b
    simp only at b;split at b
    .exact .inl b
    rcases MP.1 b with i|rfl
    .exact .inl i
    exact .inr o
   exact .inr (by simp[b])
 simp only[List.foldl_toArray']at h;rcases d l _ #[] e h with a|a
 .simp at a
 simpa using a
end
def Zx(P:Program)(a:Value->Prop)(mn:Bool)(y:Z0)(χ:Frame)(cs:YM)(H:Φ):Prop:=Goes P a mn (Go.Conc.G χ cs) {y with G:=H}
def Vp:Type:=Z0->Prop
class Z8 where
 q:Vp->Prop
structure Seq[Z8](x:Vp):Prop where
 cls:Z8.q x
 rel:∀y,x y->y.rel=false
 Z9:∀y,x y->y.Z9=λ_=>none
def η(P:Program)(a:Value->Prop)(mn:Bool)(x:Vp)(χ:Frame)(cs:YM)(H:Φ):Prop:=∀y,x y->Zx P a mn y χ cs H
def χ(b:Frame)(t:ZP)(k:Zk):Frame:={b with tmps:=t,todo:=k}
section
variable{P:Program}{Q:Value->Prop}{mn:Bool}{x:Vp}{cs:YM}{H:Φ}{b f:Frame}{t:ZP}{k:Zk}
def Zx.own{y:Z0}(g:y.rel=false)(i:y.Z9=λ_=>none)(h:∀w,Fits H w->∃f' cs' w' es H',stepG P mn (Go.Conc.G f cs) w=.go (Go.Conc.G f' cs') w' es/\Yq H w H' w' es/\Zx P Q mn y f' cs' H'):Zx P Q mn y f cs H:=by
 refine Goes.step (λj=>by rw[show({y with G:=H}:Z0).rel=y.rel from rfl,g]at j;cases j) (.inr ⟨⟨U,U⟩,.inl λw k hv=>?_⟩);obtain⟨f',cs',w',es,H',l,d,m⟩:=h w k;rw[l];refine⟨H',y.Z9,⟨U,U⟩,d.keeps,d.fit,λb c t a=>?_,d.U0,λb c a=>.inl a,λe n=>?_,λb c a=>?_,m⟩
 .rw[i]at a;cases a
 .rw[if_neg (by rw[show({y with G:=H}:Z0).rel=y.rel from rfl,g];simp)];exact d.TJ e n
 rw[i]at a;cases a
variable[Z8]
def η.own(e:Seq x)(h:∀w,Fits H w->∃f' cs' w' es H',stepG P mn (Go.Conc.G f cs) w=.go (Go.Conc.G f' cs') w' es/\Yq H w H' w' es/\η P Q mn x f' cs' H'):η P Q mn x f cs H:=
 λy d=>.own (e.rel y d) (e.Z9 y d) λw g=>let ⟨f',cs',w',es,H',a,b,c⟩:=h w g;⟨f',cs',w',es,H',a,b,c y d⟩
def η.still(a:Seq x){f':Frame}{cs':YM}(b:∀w,stepG P mn (Go.Conc.G f cs) w=.go (Go.Conc.G f' cs') w #[])(h:η P Q mn x f' cs' H):η P Q mn x f cs H:=
 .own a λw c=>⟨f',cs',w,#[],H,b w,.start c,h⟩
def UZ(a:b.mode=.run)(w:World):stepG P mn (Go.Conc.G (χ b t k) cs) w=stepG.exec P mn true (χ b t k) cs none w:=by
 obtain⟨fn,c,d,e,f,g,h⟩:=b;simp only at a;subst a;rfl
section moves
variable(XN:Seq x)(hb:b.mode=.run)
include XN hb
def η.to{a:Zk}(c:∀w,stepG.exec P mn true (χ b t k) cs none w=.go (Go.Conc.G (χ b t a) cs) w #[])(h:η P Q mn x (χ b t a) cs H):η P Q mn x (χ b t k) cs H:=
 .still XN (λw=>(UZ hb w).trans (c w)) h
def η.skip(h:η P Q mn x (χ b t k) cs H):η P Q mn x (χ b t (.code .skip::k)) cs H:=.to XN hb (λ_=>rfl) h
def η.inBlock{l:Nat}(h:η P Q mn x (χ b t k) cs H):η P Q mn x (χ b t (.inBlock l::k)) cs H:=.to XN hb (λ_=>rfl) h
def η.seq{a c:Code}(h:η P Q mn x (χ b t (.code a::.code c::k)) cs H):η P Q mn x (χ b t (.code (.seq a c)::k)) cs H:=.to XN hb (λ_=>rfl) h
def η.block{l:Nat}{c:Code}(h:η P Q mn x (χ b t (.code c::.inBlock l::k)) cs H):η P Q mn x (χ b t (.code (.block l c)::k)) cs H:=.to XN hb (λ_=>rfl) h
def η.loop{c:Code}(h:η P Q mn x (χ b t (.code c::.inLoop c::k)) cs H):η P Q mn x (χ b t (.code (.loop c)::k)) cs H:=.to XN hb (λ_=>rfl) h
def η.inLoop{c:Code}(h:η P Q mn x (χ b t (.code c::.inLoop c::k)) cs H):η P Q mn x (χ b t (.inLoop c::k)) cs H:=.to XN hb (λ_=>rfl) h
def η.region{id:Nat}{ops:Y5}(h:η P Q mn x (χ b t (.inRegion ops (List.range ops.size)::k)) cs H):η P Q mn x (χ b t (.code (.region id ops false)::k)) cs H:=.to XN hb (λ_=>rfl) h
def η.ZK{ops:Y5}(h:η P Q mn x (χ b t k) cs H):η P Q mn x (χ b t (.inRegion ops []::k)) cs H:=.to XN hb (λ_=>rfl) h
def η.cond{c:Operand}{a e:Code}{v:Bool}(f:(χ b t k).eval c=.bool v)(h:η P Q mn x (χ b t (.code (if v then a else e)::k)) cs H):η P Q mn x (χ b t (.code (.cond c a e)::k)) cs H:=by
 refine .to XN hb (λw=>?_) h;have d:(χ b t (.code (.cond c a e)::k)).eval c=.bool v:=f;unfold stepG.exec;simp only[χ]at d ⊢;rw[d];rfl
def η.exit{l:Nat}{a:Zk}(c:exitTo l k=some a)(h:η P Q mn x (χ b t a) cs H):η P Q mn x (χ b t (.code (.exit l)::k)) cs H:=by
 refine .to XN hb (λw=>?_) h;unfold stepG.exec;simp only[χ,c,Option.elim];rfl
def η.draw{id:Nat}{ops:Y5}(h:∀n,η P Q mn x (χ b t (.inRegion ops (Region.schedule (P.follows .mixedOrders) ops n)::k)) cs H):η P Q mn x (χ b t (.code (.region id ops true)::k)) cs H:=by
 refine .own XN λw a=>⟨χ b t (.inRegion ops (Region.schedule (P.follows .mixedOrders) ops (w.tape w.drawn (.order b.fn id)))::k),cs,{w with drawn:=w.drawn+1},#[],H,?_,(Yq.start a).draw _,h _⟩;rw[UZ hb];rfl
def η.ret(a:b.roundOf=none)(h:η P Q mn x {χ b t (.code .ret::k)with mode:=.returning} cs H):η P Q mn x (χ b t (.code .ret::k)) cs H:=by
 refine .still XN (λw=>?_) h;rw[UZ hb];unfold stepG.exec;simp only[χ,a];rfl
def η.QR(a:b.roundOf=none)(h:η P Q mn x {χ b t []with mode:=.returning} cs H):η P Q mn x (χ b t []) cs H:=by
 refine .still XN (λw=>?_) h;rw[UZ hb];unfold stepG.exec;simp only[χ,a];rfl
end moves
end
end Go.TL
namespace Go.TL
open Go.Conc
open Go.ConcM (OsLater)
open Go.ConcN (sumTo upd sumTo_upd upd_ne upd_same sumTo_congr le_sumTo)
variable[Z8]
def ZX(t:ZP):Operand->Value
 | .tmp n=>t.getD n undef
 | .const v=>v
 | .global g=>.pointer (some ⟨g,0,none⟩)
 | .func f=>.func (.func f) #[] #[]
def JM(b:Frame)(t:ZP)(k:Zk):(χ b t k).eval=ZX t:=by funext a;cases a<;>rfl
def put(a:Oper)(t:ZP)(v:Value):ZP:=match a.dst with|some d=>t.setIfInBounds d v|none=>t
def BH(P:Program)(a:Value->Prop)(mn:Bool)(x:Vp)(b:Frame)(t:ZP)(ops:Y5)(i:Nat)(c:Oper)(rest:Z6)(k:Zk)(cs:YM):Next->Φ->Prop
 | .value v,H=>η P a mn x (χ b (put c t v) (.inRegion ops rest::k)) cs H
 | .skip,H=>η P a mn x (χ b (put c t undef) (.inRegion ops rest::k)) cs H
 | .enter f args,H=>η P a mn x (Frame.enter P f args .normal) (χ b t (.inRegion ops (i::rest)::k)::cs) H
 | .round l f e g bd,H=>η P a mn x (Frame.round l f e g bd .normal) (χ b t (.inRegion ops (i::rest)::k)::cs) H
 | .defer d,H=>η P a mn x (χ {b with defers:=d::b.defers} (put c t undef) (.inRegion ops rest::k)) cs H
 | .recover,H=>b.roundOf=none/\match tryRecover (χ b t (.inRegion ops (i::rest)::k)) cs with
  | some (v,cs')=>η P a mn x (χ b (put c t v) (.inRegion ops rest::k)) cs' H
  | none=>η P a mn x (χ b (put c t .nilIface) (.inRegion ops rest::k)) cs H
 | _,_=>False
section
variable{P:Program}{Q:Value->Prop}{mn:Bool}{x:Vp}{cs:YM}{H:Φ}{b f:Frame}{t:ZP}{k:Zk}
def Yq.sub{G0 G:Φ}{w0 w:World}{es es':Array Event}(h:Yq G0 w0 G w es)(a:∀e∈es',e∈es):Yq G0 w0 G w es':=⟨h.fit,h.keeps,h.U0,λe b=>h.TJ e (a e b)⟩
def VQ{b:Frame}{ops:Y5}{i:Nat}{a:Oper}{rest:Z6}{v:Value}(c:ops[i]?=some a):(χ b t (.inRegion ops (i::rest)::k)).finish v=χ b (put a t v) (.inRegion ops rest::k):=by
 simp only[Frame.finish,χ,c,Option.bind,put];cases a.dst<;>rfl
def η.unwanted(d:Seq x)(e:b.mode=.run){ops:Y5}{i:Nat}{a:Oper}{rest:Z6}(c:ops[i]?=some a)(f:Region.wanted a (yielded ops t)=false)
  (h:η P Q mn x (χ b (put a t undef) (.inRegion ops rest::k)) cs H):η P Q mn x (χ b t (.inRegion ops (i::rest)::k)) cs H:=by
 refine .still d (f':=χ b (put a t undef) (.inRegion ops rest::k)) (cs':=cs) (λw=>?_) h;rw[UZ e,<-VQ c];have g:((ops[i]?).map (Region.wanted · (yielded ops t))).getD false=false:=by simp[c,f]
 unfold stepG.exec;simp only[χ,g];rfl
def η.op(D:Seq x)(C:b.mode=.run){ops:Y5}{i:Nat}{g:Oper}{rest:Z6}(y:ops[i]?=some g)(E:Region.wanted g (yielded ops t)=true)(hd:b.roundOf=none\/∀c,g.op≠.defer c)
  (h:Ω P (execOp (ZX t) g) H (BH P Q mn x b t ops i g rest k cs) (λv H'=>η P Q mn x {χ b t (.inRegion ops (i::rest)::k)with mode:=.panicking [{v,recovered:=false}]} cs H')) :
  η P Q mn x (χ b t (.inRegion ops (i::rest)::k)) cs H:=by
 refine .own D λw F=>?_;obtain⟨H',w',es',o,I⟩:=Ω.sound (P:=P) (G0:=H) (w0:=w) (execOp (ZX t) g) h (Yq.start F);have J:stepG P mn (Go.Conc.G (χ b t (.inRegion ops (i::rest)::k)) cs) w=stepG.apply P true (χ b t (.inRegion ops (i::rest)::k)) cs none (execOp (ZX t) g) w:=by
  rw[UZ C];have K:((ops[i]?).map (Region.wanted · (yielded ops t))).getD false=true:=by simp[y,E]
  have A:(χ b t (.inRegion ops (i::rest)::k)).oper?=some g:=by simp[Frame.oper?,χ,y]
  unfold stepG.exec;simp only[χ,K,if_true];simp only[χ]at A;unfold stepG.oper;simp only[A];rcases hd with hd|hd
  .simp only[hd];rw[<-JM b t (.inRegion ops (i::rest)::k)];rfl
  cases O:b.roundOf with
  | none=>rw[<-JM b t (.inRegion ops (i::rest)::k)];rfl
  | some l=>
   cases L:g.op<;>first|exact absurd L (hd _)|(simp only;rw[<-JM b t (.inRegion ops (i::rest)::k)];rfl)
 rw[J];generalize j:(if(χ b t (.inRegion ops (i::rest)::k)).kind==.early then #[] else es')=m;have p:∀e∈seen P b.fn m,e∈es':=λe A=>by
  have:=mem_seen A;rw[<-j]at this;split at this
  .simp at this
  exact this
 have B:∀v,(χ b t (.inRegion ops (i::rest)::k)).finish v=χ b (put g t v) (.inRegion ops rest::k):=λv=>VQ y;rcases I with⟨M,n,a⟩|⟨v,n,N⟩
 .cases M<;>first|exact a.elim|skip
  case value v=>exact⟨_,_,w',seen P b.fn m,H',by unfold stepG.apply;simp only[n,if_true];rw[j,B];simp[GStep.after,Go.Conc.G,χ],o.sub p,a⟩
  case skip=>exact⟨_,_,w',seen P b.fn m,H',by unfold stepG.apply;simp only[n,if_true];rw[j,B];simp[GStep.after,Go.Conc.G,χ],o.sub p,a⟩
  case enter f args=>exact⟨_,_,w',seen P b.fn m,H',by unfold stepG.apply;simp only[n,if_true];rw[j];simp[GStep.after,Go.Conc.G,χ],o.sub p,a⟩
  case round l f R S bd=>exact⟨_,_,w',seen P b.fn m,H',by unfold stepG.apply;simp only[n,if_true];rw[j];simp[GStep.after,Go.Conc.G,χ],o.sub p,a⟩
  case defer d=>exact⟨_,_,w',seen P b.fn m,H',by unfold stepG.apply;simp only[n,if_true];rw[j];simp[GStep.after,Go.Conc.G,Frame.finish,χ,put,y];cases g.dst<;>rfl,o.sub p,a⟩
  case recover=>
   obtain⟨u,a⟩:=a;cases s:tryRecover (χ b t (.inRegion ops (i::rest)::k)) cs with
   | none=>
    rw[s]at a;exact⟨_,_,w',seen P b.fn m,H',by unfold stepG.apply;simp only[n,if_true];rw[j,B];simp only[χ]at s ⊢;simp only[u];rw[u]at s;rw[s];simp[GStep.after,Go.Conc.G],o.sub p,a⟩
   | some r=>
    obtain⟨v,cs'⟩:=r;rw[s]at a;exact⟨_,_,w',seen P b.fn m,H',by unfold stepG.apply;simp only[n,if_true];rw[j];simp only[χ]at s ⊢;simp only[u];rw[u]at s;rw[s];simp[GStep.after,Go.Conc.G];(have e:=B v;simp only[χ,u]at e;exact e),o.sub p,a⟩
 exact⟨_,_,w',seen P b.fn m,H',by unfold stepG.apply;simp only[n,if_true];rw[j];simp[GStep.after,Go.Conc.G,Frame.raise,χ,C],o.sub p,N⟩
end
section
variable{P:Program}{Q:Value->Prop}{mn:Bool}{x:Vp}{cs rest:YM}{H:Φ}{b f c:Frame}{t:ZP}{k:Zk}{fn:Func}
def K6(a:f.mode≠.run)(w:World):stepG P mn (Go.Conc.G f cs) w=unwind P mn f cs none w:=by
 obtain⟨c,d,e,g,b,h,i⟩:=f;cases b with
 | run=>exact absurd rfl a
 | returning=>rfl
 | panicking j=>rfl
def η.back(g:Seq x)(b:f.mode=.returning)(hd:f.defers=[])(a:f.kind=.normal\/f.kind=.wrapped)(i:P.funcs[f.fn]?=some fn)
  (h:Ω P (results fn f.tmps) H (λv H'=>η P Q mn x (c.finish v) rest H') (λ_ _=>False)):η P Q mn x f (c::rest) H:=by
 refine .own g λw j=>?_;obtain⟨H',w',es',k,l⟩:=Ω.sound (P:=P) (G0:=H) (w0:=w) (results fn f.tmps) h (Yq.start j);rcases l with⟨v,d,m⟩|⟨v,d,n⟩
 .refine⟨_,_,w',seen P f.fn es',H',?_,k.sub λe o=>mem_seen o,m⟩;rw[K6 (by rw[b];simp)];unfold unwind;simp only[hd,b,i,d];unfold doReturn;rcases a with a|a<;>simp[a,GStep.after,Go.Conc.G]
 exact n.elim
def η.HI(d:Seq x)(a:f.mode=.returning)(hd:f.defers=[])(g:f.kind=.deferred)(i:P.funcs[f.fn]?=some fn)
  (h:Ω P (results fn f.tmps) H (λ_ H'=>η P Q mn x (match c.mode with
   | .panicking ({recovered:=true,..}::j)=>(match j.dropWhile (!·.goexit) with|[]=>{c with mode:=.returning}|r=>{c with mode:=.panicking r})
   | _=>c) rest H') (λ_ _=>False)):η P Q mn x f (c::rest) H:=by
 refine .own d λw k=>?_;obtain⟨H',w',es',l,m⟩:=Ω.sound (P:=P) (G0:=H) (w0:=w) (results fn f.tmps) h (Yq.start k);rcases m with⟨v,b,n⟩|⟨v,b,o⟩
 .refine⟨_,_,w',seen P f.fn es',H',?_,l.sub λe p=>mem_seen p,n⟩;rw[K6 (by rw[a];simp)];unfold unwind;simp only[hd,a,i,b];unfold doReturn;simp only[g,GStep.after];rw[NP];rfl
 exact o.elim
def η.deferred(m:Seq x)(n:f.mode≠.run){d:Deferred}{ds:List Deferred}(hd:f.defers=d::ds)(k:∀r,d.target≠.collected r)(e:d.target≠.nil){g:FuncId}{args:ZP}
  (l:∀w,(invoke d.target d.args).runT P w #[]=(.ok (.enter g args) w,#[])) (h:η P Q mn x (Frame.enter P g args .deferred) ({f with defers:=ds}::cs) H):η P Q mn x f cs H:=by
 refine .still m (λw=>?_) h;rw[K6 n];unfold unwind;obtain⟨i,as9⟩:=d;simp only at k e l;have j:callDeferred P {f with defers:=ds} cs none ⟨i,as9⟩ w=.go (Go.Conc.G (Frame.enter P g args .deferred) ({f with defers:=ds}::cs)) w #[]:=by
  unfold callDeferred;simp only[l w];cases i<;>first|exact absurd rfl e|(simp[GStep.after,seen,Go.Conc.G])
 cases i with
 | collected r=>exact absurd rfl (k r)
 | fn a b=>simp only[hd];exact j
 | nil=>exact absurd rfl e
 | builtin a b c d=>simp only[hd];exact j
 | coroexit c=>simp only[hd];exact j
def η.raised(d:Seq x){a:List PanicEntry}(b:f.mode=.panicking a)(hd:f.defers=[])(e:f.catches P=false)(h:η P Q mn x (c.raise a) rest H):η P Q mn x f (c::rest) H:=by
 refine .still d (λw=>?_) h;rw[K6 (by rw[b];simp)];unfold unwind;simp only[hd,b,e];rfl
def η.done(d:Seq x)(g:∀y,x y->∀s,Xp (y.tok s))(h:∀y,x y->y.deaf=0)(c:f.mode=.returning)(hd:f.defers=[])(i:f.kind=.normal)(j:P.funcs[f.fn]?=some fn)(k:P.inits.idxOf? f.fn=none){v:Value}
  (a:results fn f.tmps=pure v) (l:Q v):η P Q true x f [] H:=by
 intro y b;refine Goes.stop (λa=>by rw[show({y with G:=H}:Z0).rel=y.rel from rfl,d.rel y b]at a;cases a) (.inl ⟨U,⟨U,U⟩,g y b,h y b,λw n=>⟨v,#[],?_,λe m=>by simp at m,l⟩⟩);rw[K6 (by rw[c];simp)];unfold unwind;simp only[hd,c,j,a];have:(pure v:Sem Value).runT P w #[]=(.ok v w,#[]):=rfl;simp only[this];unfold doReturn;simp[i,GStep.after,seen,k]
end
end Go.TL
namespace Go.TL
open Go.Conc
inductive Ψ where
 | z (v:Value)
 | Κ (cells:List Ψ)
 | sl (ex:Bool) (k:Nat) (l:List Ψ)
 | Z' (l:List Ψ)
 | Z7 (l:List Ψ)
 | Ο (id n i j:Nat)
 | ms (id n i len:Nat)
 | fn (f:Fn) (first captured:List Ψ)
 | W4 (t:TypeId) (a:Ψ)
 | mp (id:Nat)
 | it (id:Nat)
 | Zl
 deriving Inhabited
abbrev μ:=List Ψ
def Ψ.cells:Ψ->μ
 | .Z' l=>l
 | a=>[a]
inductive Row where
 | cells (t:TypeId) (k:Nat) (l:μ)
 | map (es:List (Ψ×Ψ))
 | iter (m:Nat) (left:List (Ψ×Ψ)) (b:Option (Ψ×Ψ))
 | str (s:ByteArray) (pos:Nat)
 | loop (L:Nat) (d:LoopState) (e:Array Tmp) (a bd:Code) (nt:Nat) (env:List (Nat×Ψ))
 | own (c f:Nat) (l:μ)
 | dead
 deriving Inhabited
abbrev Ρ:=List Row
def Row.W3(r:Row)(n:Nat):Prop:=match r with|.cells _ _ l=>n<l.length|_=>True
abbrev ZZ:=List (Option (Nat×Nat))
abbrev ζ:=Nat->Nat->Option Value
inductive Θ(S:ζ)(B:ZZ)(σ:Ρ):Ψ->Value->Prop where
 | z (v:Value):Θ S B σ (.z v) v
 | Κ {cells:μ} (b d:Nat) (w:Nat->Value):(∀(j:Nat)(a:Ψ),cells[j]?=some a->S b (d+j)=some (w j))->(∀(j:Nat)(a:Ψ),cells[j]?=some a->Θ S B σ a (w j))->Θ S B σ (.Κ cells) (.pointer (some ⟨b,d,none⟩))
 | WI {ex:Bool} {k:Nat} (base:Option Addr) (cap:Nat):(ex=true->cap=0)->Θ S B σ (.sl ex k []) (.slice base 0 cap)
 | sl {ex:Bool} {k:Nat} {l:μ} (b d cap:Nat) (w:Nat->Nat->Value):(ex=true->cap=l.length)->l.length<=cap->(∀(i:Nat)(e:Ψ),l[i]?=some e->e.cells.length=k)->
   (∀(i:Nat)(e:Ψ),l[i]?=some e->∀(j:Nat)(c:Ψ),e.cells[j]?=some c->S b (d+i*k+j)=some (w i j))->(∀(i:Nat)(e:Ψ),l[i]?=some e->∀(j:Nat)(c:Ψ),e.cells[j]?=some c->Θ S B σ c (w i j))->Θ S B σ (.sl ex k l) (.slice (some ⟨b,d,none⟩) l.length cap)
 | Z' {l:μ} (vs:ZP):l.length=vs.size->(∀(i:Nat)(a:Ψ)(v:Value),l[i]?=some a->vs[i]?=some v->Θ S B σ a v)->Θ S B σ (.Z' l) (.agg vs)
 | Z7 {l:μ} (vs:ZP):l.length=vs.size->(∀(i:Nat)(a:Ψ)(v:Value),l[i]?=some a->vs[i]?=some v->Θ S B σ a v)->Θ S B σ (.Z7 l) (.tuple vs)
 | Ο {id n i j k:Nat} {t:TypeId} {l:μ} {b N:Nat}:σ[id]?=some (.cells t k l)->l.length=n->B[id]?=some (some (b,N))->Θ S B σ (.Ο id n i j) (.pointer (some ⟨b,i*k+j,none⟩))
 | Vo {id n i j:Nat} {r:Row} (v:Value):σ[id]?=some r->r.W3 n->One v->Θ S B σ (.Ο id n i j) v
 | ms {id n i len:Nat} {t:TypeId} {k:Nat} {l:μ} {bo:Option (Nat×Nat)} {base:Option Addr} (cap:Nat):σ[id]?=some (.cells t k l)->l.length=n->B[id]?=some bo->i+len<=n->n<=i+cap->
   (cap=0\/∃b N,bo=some (b,N)/\base=some ⟨b,i*k,none⟩/\(i+cap)*k<=N)->Θ S B σ (.ms id n i len) (.slice base len cap)
 | VP {id n i len:Nat} {r:Row} (v:Value):σ[id]?=some r->r.W3 n->One v->Θ S B σ (.ms id n i len) v
 | fn {f:Fn} {g cs:μ} (vs h:ZP):g.length=vs.size->cs.length=h.size->(∀(i:Nat)(a:Ψ)(v:Value),g[i]?=some a->vs[i]?=some v->Θ S B σ a v)->(∀(i:Nat)(a:Ψ)(v:Value),cs[i]?=some a->h[i]?=some v->Θ S B σ a v)->Θ S B σ (.fn f g cs) (.func f vs h)
 | W4 {t:TypeId} {a:Ψ} (v:Value):Θ S B σ a v->Θ S B σ (.W4 t a) (.iface t v)
 | mp {id:Nat} {es:List (Ψ×Ψ)} {b N:Nat}:σ[id]?=some (.map es)->B[id]?=some (some (b,N))->Θ S B σ (.mp id) (.map (some b))
 | TI {id:Nat} (v:Value):σ[id]?=some .dead->Θ S B σ (.mp id) v
 | it {id m:Nat} {left:List (Ψ×Ψ)} {o:Option (Ψ×Ψ)} {b N:Nat}:σ[id]?=some (.iter m left o)->B[id]?=some (some (b,N))->Θ S B σ (.it id) (.pointer (some ⟨b,0,none⟩))
 | R8 {id pos:Nat} {s:ByteArray} {b N:Nat}:σ[id]?=some (.str s pos)->B[id]?=some (some (b,N))->Θ S B σ (.it id) (.pointer (some ⟨b,0,none⟩))
 | S8 {id:Nat} (v:Value):σ[id]?=some .dead->Θ S B σ (.it id) v
 | Zl (v:Value):Θ S B σ .Zl v
def Row.to(r r':Row)(b d:Option (Option (Nat×Nat))):Prop:=
 match r with
 | .cells t k l=>(∃e,r'=.cells t k e/\e.length=l.length/\d=b)\/∀n,n<=l.length->r'.W3 n
 | .map _=>(∃es',r'=.map es'/\d=b)\/r'=.dead
 | .iter m _ _=>(∃f g,r'=.iter m f g/\d=b)\/r'=.dead
 | .str s _=>(∃h,r'=.str s h/\d=b)\/r'=.dead
 | .loop L _ i a bd nt env=>(∃j,r'=.loop L j i a bd nt env/\d=b)\/r'=.dead
 | .own c o l=>(∃e,r'=.own c o e/\e.length=l.length/\d=b)\/r'=.dead
 | .dead=>r'=.dead
structure ZC(S c:ζ)(B B':ZZ)(σ σ':Ρ):Prop where
 Za:∀b a v,S b a=some v->c b a=some v
 rows:∀(id:Nat)(r:Row),σ[id]?=some r->∃r':Row,σ'[id]?=some r'/\r.to r' B[id]? B'[id]?
def Row.Sv(r:Row)(b:Option (Option (Nat×Nat))):r.to r b b:=by
 cases r with
 | cells t k l=>exact .inl ⟨l,rfl,rfl,rfl⟩
 | map es=>exact .inl ⟨es,rfl,rfl⟩
 | iter m l c=>exact .inl ⟨l,c,rfl,rfl⟩
 | str s p=>exact .inl ⟨p,rfl,rfl⟩
 | loop L d e a bd nt env=>exact .inl ⟨d,rfl,rfl⟩
 | own c f l=>exact .inl ⟨l,rfl,rfl,rfl⟩
 | dead=>rfl
def ZC.refl(S:ζ)(B:ZZ)(σ:Ρ):ZC S S B B σ σ:=⟨λ_ _ _ h=>h,λ_ r h=>⟨r,h,r.Sv _⟩⟩
def Row.EJ{r r':Row}{b f:Option (Option (Nat×Nat))}{n:Nat}(h:r.to r' b f)(d:r.W3 n):r'.W3 n:=by
 cases r with
 | cells t k l=>
  rcases h with⟨e,rfl,i,_⟩|h
  .simp only[Row.W3]at d ⊢;omega
  exact h n (RO d)
 | map es=>rcases h with⟨es',rfl,_⟩|rfl<;>trivial
 | iter m l c=>rcases h with⟨e,c',rfl,_⟩|rfl<;>trivial
 | str s p=>rcases h with⟨g,rfl,_⟩|rfl<;>trivial
 | loop L j o a bd nt env=>rcases h with⟨g,rfl,_⟩|rfl<;>trivial
 | own c u l=>rcases h with⟨e,rfl,_⟩|rfl<;>trivial
 | dead=>cases h;trivial
def Row.vK{r r' i:Row}{b j o:Option (Option (Nat×Nat))}(h:r.to r' b j)(k:r'.to i j o):r.to i b o:=by
 cases r with
 | cells t e l=>
  rcases h with⟨u,rfl,d,rfl⟩|h
  .rcases k with⟨f,rfl,g,rfl⟩|k
   .exact .inl ⟨f,U,g.trans d,U⟩
   exact .inr λn v=>k n J
  exact .inr λn v=>Row.EJ k (h n v)
 | map es=>
  rcases h with⟨es',rfl,rfl⟩|rfl
  .exact k
  cases k;exact .inr U
 | iter m l c=>
  rcases h with⟨u,c',rfl,rfl⟩|rfl
  .exact k
  cases k;exact .inr U
 | str s p=>
  rcases h with⟨w,rfl,rfl⟩|rfl
  .exact k
  cases k;exact .inr U
 | loop L x y a bd nt env=>
  rcases h with⟨w,rfl,rfl⟩|rfl
  .exact k
  cases k;exact .inr U
 | own c A l=>
  rcases h with⟨u,rfl,d,rfl⟩|rfl
  .rcases k with⟨f,rfl,g,rfl⟩|rfl
   .exact .inl ⟨f,U,g.trans d,U⟩
   exact .inr U
  cases k;exact .inr U
 | dead=>cases h;exact k
def ZC.trans{S a c:ζ}{B B' d:ZZ}{σ σ' e:Ρ}(h:ZC S a B B' σ σ')(k:ZC a c B' d σ' e):ZC S c B d σ e:=
 ⟨λb f v x=>k.Za b f v (h.Za b f v x),λid r g=>by
  obtain⟨r',i,j⟩:=h.rows id r g;obtain⟨l,m,n⟩:=k.rows id r' i;exact⟨l,m,Row.vK j n⟩⟩
def Θ.later{S u:ζ}{B B':ZZ}{σ σ':Ρ}(k:ZC S u B B' σ σ'){a:Ψ}{v:Value}(h:Θ S B σ a v):Θ u B' σ' a v:=by
 induction h with
 | z v=>exact .z v
 | Κ b o w d _ l=>exact .Κ b o w (λj a p=>k.Za _ _ _ (d j a p)) l
 | WI base cap h=>exact .WI base cap h
 | sl b o cap w d g n r _ l=>exact .sl b o cap w d g n (λi e hi j c p=>k.Za _ _ _ (r i e hi j c p)) l
 | Z' vs d _ l=>exact .Z' vs d l
 | Z7 vs d _ l=>exact .Z7 vs d l
 | Ο d g n=>
  obtain⟨r',f,Υ⟩:=k.rows _ _ d;rcases Υ with⟨x,rfl,s,m⟩|Υ
  .exact .Ο f (s.trans g) (by rw[m];exact n)
  exact .Vo _ f (Υ _ J) trivial
 | Vo v d g t=>
  obtain⟨r',f,Υ⟩:=k.rows _ _ d;exact .Vo _ f (Row.EJ Υ g) t
 | ms cap d g n r y A=>
  obtain⟨r',f,Υ⟩:=k.rows _ _ d;rcases Υ with⟨x,rfl,s,m⟩|Υ
  .exact .ms cap f (s.trans g) (by rw[m];exact n) r y A
  exact .VP _ f (Υ _ J) trivial
 | VP v d g t=>
  obtain⟨r',f,Υ⟩:=k.rows _ _ d;exact .VP _ f (Row.EJ Υ g) t
 | fn vs C d g _ _ D E=>exact .fn vs C d g D E
 | W4 v _ l=>exact .W4 v l
 | mp d g=>
  obtain⟨r',f,Υ⟩:=k.rows _ _ d;rcases Υ with⟨es',rfl,m⟩|rfl
  .exact .mp f (by rw[m];exact g)
  exact .TI _ f
 | TI v d=>
  obtain⟨r',f,Υ⟩:=k.rows _ _ d;cases Υ;exact .TI _ f
 | it d g=>
  obtain⟨r',f,Υ⟩:=k.rows _ _ d;rcases Υ with⟨x,c',rfl,m⟩|rfl
  .exact .it f (by rw[m];exact g)
  exact .S8 _ f
 | R8 d g=>
  obtain⟨r',f,Υ⟩:=k.rows _ _ d;rcases Υ with⟨F,rfl,m⟩|rfl
  .exact .R8 f (by rw[m];exact g)
  exact .S8 _ f
 | S8 v d=>
  obtain⟨r',f,Υ⟩:=k.rows _ _ d;cases Υ;exact .S8 _ f
 | Zl v=>exact .Zl v
def QQ(S:ζ)(B:ZZ)(σ:Ρ)(es:List (Ψ×Ψ))(xs:Array MapEntry)(a:Nat):Prop:=
 es.length=xs.size/\(∀(i:Nat)(e:Ψ×Ψ)(y:MapEntry),es[i]?=some e->xs[i]?=some y->Θ S B σ e.1 y.key/\Θ S B σ e.2 y.val/\y.born<a)/\
 ∀(i j:Nat)(y z:MapEntry),xs[i]?=some y->xs[j]?=some z->i<j->y.born<z.born
def HH(S:ζ)(B:ZZ)(σ:Ρ)(left:List (Ψ×Ψ))(c:Option (Ψ×Ψ))(xs:Array MapEntry)(d:Nat)(seen:Array Nat):Prop:=
 (∃a:List MapEntry,a=xs.toList.filter (λe=>!seen.contains e.born)/\left.length=a.length/\∀(i:Nat)(e:Ψ×Ψ)(y:MapEntry),left[i]?=some e->a[i]?=some y->Θ S B σ e.1 y.key/\Θ S B σ e.2 y.val)/\
 (∀y∈xs,y.born<d)/\
 ∀e,c=some e->∃b y,seen.back?=some b/\xs.find? (·.born==b)=some y/\Θ S B σ e.1 y.key/\Θ S B σ e.2 y.val
abbrev κ:=List (Nat×Ψ)
abbrev XM:=Ψ->κ->Ρ->Prop
abbrev Xv:=Zk->κ->Ρ->Prop
def ε:κ->Nat->Ψ
 | [],_=>.Zl
 |(j,a)::r,i=>if j=i then a else ε r i
def VO(S:ζ)(B:ZZ)(σ:Ρ)(H:Φ)(r:Row)(bo:Option (Nat×Nat)):Prop:=
 match r with
 | .cells t k l=>match bo with
  | none=>l=[]
  | some (b,N)=>H.row b=some (t,N)/\l.length*k<=N/\(∀h,h<N->∃w,H.Α b h=some (w,true))/\
   ∃w:Nat->Nat->Value,∀(i:Nat)(e:Ψ),l[i]?=some e->e.cells.length=k/\∀(j:Nat)(a:Ψ),e.cells[j]?=some a->H.Α b (i*k+j)=some (w i j,true)/\Θ S B σ a (w i j)/\One (w i j)
 | .map es=>∃b N xs g,bo=some (b,N)/\H.obj b=some (.map xs g)/\QQ S B σ es xs g
 | .iter m left o=>∃b N n p xs g seen,bo=some (b,N)/\B[m]?=some (some (n,p))/\(∃es,σ[m]?=some (.map es))/\H.obj b=some (.mapIter (some n) g seen g)/\H.obj n=some (.map xs g)/\HH S B σ left o xs g seen
 | .str s pos=>∃b N,bo=some (b,N)/\H.obj b=some (.stringIter s pos)
 | .loop L u v a bd nt env=>∃N f d t,bo=some (L,N)/\H.obj L=some (.loop {state:=u,pending:=none,fn:=f,tmps:=t,params:=v,assign:=a,body:=bd,defers:=d})/\t.size=nt/\∀i,Θ S B σ (ε env i) (t.getD i undef)
 | .own c h l=>∃N t M,bo=some (c,N)/\H.row c=some (t,M)/\∃w:Nat->Value,∀(j:Nat)(a:Ψ),l[j]?=some a->H.Α c (h+j)=some (w j,true)/\Θ S B σ a (w j)/\One (w j)
 | .dead=>True
def Row.live(r:Row):Prop:=match r with|.dead=>False|_=>True
structure Holds(S:ζ)(B:ZZ)(σ:Ρ)(H:Φ):Prop where
 Za:∀b a v,S b a=some v->∃p,H.Α b a=some (v,p)
 len:B.length=σ.length
 row:∀(id:Nat)(r:Row)(bo:Option (Nat×Nat)),σ[id]?=some r->B[id]?=some bo->VO S B σ H r bo
 inj:∀(i j:Nat)(c d:Row)(b e f:Nat),i≠j->σ[i]?=some c->σ[j]?=some d->c.live->d.live->B[i]?=some (some (b,e))->B[j]?=some (some (b,f))->False
 sep:∀(id:Nat)(r:Row)(b N:Nat),σ[id]?=some r->r.live->B[id]?=some (some (b,N))->∀a,S b a=none
def ZZ.has(B:ZZ)(b:Nat):Prop:=∃N,some (b,N)∈B
def S7(d:ζ)(c H:Φ)(b:Nat):Prop:=
 (∀a,H.Α b a=c.Α b a\/∃v p,d b a=some v/\c.Α b a=some (v,p)/\H.Α b a=some (v,false))/\H.row b=c.row b/\H.obj b=c.obj b
def S7.of{d:ζ}{a H:Φ}{b:Nat}(h:(∀c,H.Α b c=a.Α b c)/\H.row b=a.row b/\H.obj b=a.obj b):S7 d a H b:=⟨λc=>.inl (h.1 c),h.2⟩
structure Ext(d:ζ)(e:ZZ)(a:Φ)(S:ζ)(B:ZZ)(H:Φ):Prop where
 Za:∀b c v,d b c=some v->S b c=some v
 XU:∀b,¬e.has b->¬a.fresh b->S7 d a H b
 blocks:∀b,B.has b->e.has b\/a.fresh b
 S6:∀b c v,S b c=some v->d b c=some v\/e.has b\/a.fresh b
 grow:∀b,H.fresh b->a.fresh b
def Ext.refl(S:ζ)(B:ZZ)(H:Φ):Ext S B H S B H:=⟨λ_ _ _ h=>h,λ_ _ _=>S7.of ⟨λ_=>rfl,rfl,rfl⟩,λ_ h=>.inl h,λ_ _ _ h=>.inl h,λ_ h=>h⟩
def Ext.trans{l m n:ζ}{o f r:ZZ}{s g t:Φ}(h:Ext l o s m f g)(k:Ext m f g n r t):Ext l o s n r t:=by
 refine⟨λb a v x=>k.Za b a v (h.Za b a v x),λb c d=>?_,λb c=>?_,λb a v hv=>?_,λb x=>h.grow b (k.grow b x)⟩
 .have i:=h.XU b c d
  have C:¬g.fresh b:=λx=>d (h.grow b x)
  have D:¬f.has b:=λx=>(h.blocks b x).elim c d
  have Υ:=k.XU b D C;refine⟨λa=>?_,Υ.2.1.trans i.2.1,Υ.2.2.trans i.2.2⟩;rcases Υ.1 a with x|⟨v,p,w,E,A⟩<;>rcases i.1 a with y|⟨u,q,j,B,F⟩
  .exact .inl (x.trans y)
  .exact .inr ⟨u,q,j,B,x.trans F⟩
  .rcases h.S6 b a v w with z|z|z
   .exact .inr ⟨v,p,z,by rw[<-y];exact E,A⟩
   .exact absurd z c
   exact absurd z d
  have e:=h.Za b a u j
  have:v=u:=by rw[w]at e;exact Xq e
  subst this;exact .inr ⟨v,q,j,B,A⟩
 .rcases k.blocks b c with x|x
  .exact h.blocks b x
  exact .inr (h.grow b x)
 rcases k.S6 b a v hv with x|x|x
 .exact h.S6 b a v x
 .exact .inr (h.blocks b x)
 exact .inr (.inr (h.grow b x))
def Y'(S:ζ)(B:ZZ)(σ:Ρ)(env:κ)(t:ZP):Prop:=∀i,Θ S B σ (ε env i) (t.getD i undef)
def Y'.later{S a:ζ}{B B':ZZ}{σ σ':Ρ}{env:κ}{t:ZP}(h:Y' S B σ env t)(b:ZC S a B B' σ σ'):Y' a B' σ' env t:=λi=>(h i).later b
def Y'.put{S:ζ}{B:ZZ}{σ:Ρ}{env:κ}{t:ZP}(h:Y' S B σ env t){d:Nat}(hd:d<t.size){a:Ψ}{v:Value}(b:Θ S B σ a v):Y' S B σ ((d,a)::env) (t.setIfInBounds d v):=by
 intro i;simp only[ε];split
 .rename_i e;subst e;simpa[Vv,hd] using b
 rename_i e;have:=h i;rw[Vv]at this ⊢
 rwa [Ut e]
def TH{S:ζ}{B:ZZ}{σ:Ρ}{H:Φ}(a:Holds S B σ H){id:Nat}{r:Row}(h:σ[id]?=some r):∃bo,B[id]?=some bo:=by
 have:id<B.length:=by rw[a.len];exact(ZT.1 h).1
 exact⟨_,ξ this⟩
def VN:TypeDesc->Bool
 | .struct _|.array _ _=>true
 | _=>false
section
variable{P:Program}{α β:Type}{G:Φ}{E:Value->Φ->Prop}
def Ω.mono{K K':α->Φ->Prop}{E':Value->Φ->Prop}(l:∀a G,K a G->K' a G)(o:∀v G,E v G->E' v G)(s:Sem α):∀{G:Φ},Ω P s G K E->Ω P s G K' E':=by
 induction s with
 | pure a=>intro G h;exact l _ _ h
 | load m a k b=>intro G ⟨d,e,v,p,f,g⟩;exact⟨d,e,v,p,f,b v g⟩
 | store m a v k b=>intro G ⟨d,e,f,g,u,w⟩;exact⟨d,e,f,g,u,b w⟩
 | new i k b=>
  intro G h;cases i with
  | cells c t y=>exact⟨h.1,λr j=>b r (h.2 r j)⟩
  | _=>exact λr j=>b r (h r j)
 | shape r k b=>intro G ⟨t,n,d,e⟩;exact⟨t,n,d,b _ e⟩
 | freeze a n k b=>intro G ⟨d,e⟩;exact⟨d,b e⟩
 | frozen a k b=>intro G ⟨d,e⟩;exact⟨d,b _ e⟩
 | getObj r k b=>intro G ⟨i,d,e,f⟩;exact⟨i,d,e,b _ f⟩
 | setObj r i k b=>intro G ⟨d,e,f,g⟩;exact⟨d,e,f,b g⟩
 | choose q k b=>
  intro G h;simp only[Ω]at h ⊢;split
  .rw[if_pos ‹_›]at h;exact b _ h
  rw[if_neg ‹_›]at h;exact λn=>b _ (h n)
 | sys c k b=>intro G h;exact h.elim
 | program k b=>intro G h;exact b P h
 | mark m k b=>intro G ⟨d,e⟩;exact⟨d,b e⟩
 | halt x=>
  intro G h;cases x<;>first|exact h.elim|exact o _ _ h
def Ω.bind{f:α->Sem β}{K:β->Φ->Prop}(s:Sem α):∀{G:Φ},Ω P s G (λa G'=>Ω P (f a) G' K E) E->Ω P (s.bind f) G K E:=by
 induction s with
 | pure a=>intro G h;exact h
 | load m a k b=>intro G ⟨d,e,v,p,g,i⟩;exact⟨d,e,v,p,g,b v i⟩
 | store m a v k b=>intro G ⟨d,e,g,i,o,u⟩;exact⟨d,e,g,i,o,b u⟩
 | new j k b=>
  intro G h;cases j with
  | cells c t w=>exact⟨h.1,λr l=>b r (h.2 r l)⟩
  | _=>exact λr l=>b r (h r l)
 | shape r k b=>intro G ⟨t,n,d,e⟩;exact⟨t,n,d,b _ e⟩
 | freeze a n k b=>intro G ⟨d,e⟩;exact⟨d,b e⟩
 | frozen a k b=>intro G ⟨d,e⟩;exact⟨d,b _ e⟩
 | getObj r k b=>intro G ⟨j,d,e,g⟩;exact⟨j,d,e,b _ g⟩
 | setObj r j k b=>intro G ⟨d,e,g,i⟩;exact⟨d,e,g,b i⟩
 | choose q k b=>
  intro G h;simp only[Ω]at h;simp only[Sem.bind,Ω];split
  .rw[if_pos ‹_›]at h;exact b _ h
  rw[if_neg ‹_›]at h;exact λn=>b _ (h n)
 | sys c k b=>intro G h;exact h.elim
 | program k b=>intro G h;exact b P h
 | mark m k b=>intro G ⟨d,e⟩;exact⟨d,b e⟩
 | halt x=>
  intro G h;cases x<;>first|exact h.elim|exact h
def Ω.bind'{f:α->Sem β}{K:β->Φ->Prop}{s:Sem α}(h:Ω P s G (λa G'=>Ω P (f a) G' K E) E):Ω P (s >>= f) G K E:=Ω.bind s h
def Ω.pure'{a:α}{K:α->Φ->Prop}(h:K a G):Ω P (pure a) G K E:=h
def Ω.underlying{t:TypeId}{d:TypeDesc}{K:TypeDesc->Φ->Prop}(hd:P.underlying t=some d)(h:K d G):Ω P (Go.underlying t) G K E:=by
 unfold Go.underlying;refine Ω.bind' ?_;show Ω P (match P.underlying t with|some d=>pure d|none=>_) G K E;rw[hd];exact h
def Ω.typeInfo{t:TypeId}{i:TypeInfo}{K:TypeInfo->Φ->Prop}(hi:P.info? t=some i)(h:K i G):Ω P (Go.typeInfo t) G K E:=by
 unfold Go.typeInfo;refine Ω.bind' ?_;show Ω P (match P.info? t with|some i=>pure i|none=>_) G K E;have:P.info? t=some i:=hi;rw[this];exact h
def Ω.sizeOf{t:TypeId}{i:TypeInfo}{K:Nat->Φ->Prop}(hi:P.info? t=some i)(h:K i.size G):Ω P (Go.sizeOf t) G K E:=by
 unfold Go.sizeOf;exact Ω.bind' (Ω.typeInfo hi (Ω.pure' h))
def Ω.isAgg{t:TypeId}{d:TypeDesc}{K:Bool->Φ->Prop}(hd:P.underlying t=some d)(h:K (VN d) G):Ω P (Go.isAgg t) G K E:=by
 unfold Go.isAgg;refine Ω.bind' (Ω.underlying hd ?_);cases d<;>exact h
def Ω.zeroValue{t:TypeId}{i:TypeInfo}{v:Value}{K:Value->Φ->Prop}(hi:P.info? t=some i)(a:i.zero=some v)(h:K v G):Ω P (Go.zeroValue t) G K E:=by
 unfold Go.zeroValue;refine Ω.bind' (Ω.typeInfo hi ?_);rw[a];exact h
def Ω.vJ{a:Addr}(w:Nat->Value){K:ZP->Φ->Prop}:∀(n i:Nat)(b:ZP),a.spot=none->(∀j,i<=j->j<i+n->∃p,G.Α a.block (a.off+j)=some (w j,p))->K (b++((List.range n).map λj=>w (i+j)).toArray) G->Ω P (loadCellsFrom a i n b) G K E:=by
 intro n
 induction n with
 | zero=>intro i b _ _ h;simp at h;exact h
 | succ n e=>
  intro i b c d h;unfold loadCellsFrom;refine Ω.bind' ?_;obtain⟨p,f⟩:=d i (Z3 _) J;have g:(a.add i).spot=none:=by unfold Addr.add;split<;>simp[c]
  have Υ:(a.add i).block=a.block:=by unfold Addr.add;split<;>rfl
  have k:(a.add i).off=a.off+i:=by unfold Addr.add;split<;>simp_all
  refine⟨U,g,w i,p,by rw[Υ,k];exact f,?_⟩;refine e (i+1) (b.push (w i)) c (λj l m=>d j J J) ?_;have:b.push (w i)++((List.range n).map λj=>w (i+1+j)).toArray=b++((List.range (n+1)).map λj=>w (i+j)).toArray:=by
   rw[List.range_succ_eq_map];apply NN;simp[Function.comp_def,UJ,NO 1]
  rw[this];exact h
def Ω.loadCells{a:Addr}(w:Nat->Value){n:Nat}{K:ZP->Φ->Prop}(b:a.spot=none)(c:∀j,j<n->∃p,G.Α a.block (a.off+j)=some (w j,p))(h:K ((List.range n).map w).toArray G):Ω P (Go.loadCells a n) G K E:=by
 unfold Go.loadCells;exact Ω.vJ w n 0 #[] b (λj _ d=>c j J) (by simpa using h)
def Φ.W2(G:Φ)(b a:Nat)(vs:List Value):Φ:={G with Α:=λc o'=>if c=b/\a<=o'/\o'<a+vs.length then some ((vs[o'-a]?).getD undef,true) else G.Α c o'}
def Φ.HG{H:Φ}{b a:Nat}{vs:List Value}:∀r,(H.W2 b a vs).fresh r->H.fresh r:=
 Φ.HK (λc o' h=>by
  simp only[Φ.W2]at h;split at h
  .cases h
  exact h) (λ_ h=>h) (λ_ h=>h)
def Ω.storeCells{a:Addr}{K:Unit->Φ->Prop}(m:a.spot=none)(p:∃t n,G.row a.block=some (t,n)):∀(vs:List Value)(i:Nat)(G':Φ),(∀v∈vs,One v)->(∀j,i<=j->j<i+vs.length->G'.owns a.block (a.off+j))->(G'.row=G.row)->K () (G'.W2 a.block (a.off+i) vs)->Ω P (Go.storeCells a vs i) G' K E:=by
 intro vs
 induction vs with
 | nil=>
  intro i G' _ _ _ h;have:G'.W2 a.block (a.off+i) []=G':=by
   unfold Φ.W2;have:∀b o',¬(b=a.block/\a.off+i<=o'/\o'<a.off+i+([]:List Value).length):=λb o' h=>by simp at h;omega
   simp only[this,if_false]
  rw[this]at h;exact h
 | cons v vs r=>
  intro i G' g k l h;unfold Go.storeCells;refine Ω.bind' ?_;have s:(a.add i).spot=none:=by unfold Addr.add;split<;>simp[m]
  have Υ:(a.add i).block=a.block:=by unfold Addr.add;split<;>rfl
  have d:(a.add i).off=a.off+i:=by unfold Addr.add;split<;>simp_all
  refine⟨U,s,by rw[Υ,d];exact k i (Z3 _) o,by rw[Υ,l];exact p,g v o,?_⟩;refine r (i+1) _ (λv hv=>g v (by simp[hv])) (λj e f=>?_) l ?_
  .obtain⟨u,w⟩:=k j J (by simp;omega);refine⟨u,?_⟩;simp only[Φ.QS,Υ,d];rw[if_neg J];exact w
  have:(G'.QS (a.add i) v).W2 a.block (a.off+(i+1)) vs=G'.W2 a.block (a.off+i) (v::vs):=by
   unfold Φ.W2 Φ.QS;simp only[Υ,d];congr 1
   funext b o'
   by_cases c:b=a.block
   .subst c;by_cases e:o'=a.off+i
    .subst e;rw[if_neg J,if_pos ⟨U,rfl⟩,if_pos ⟨U,J,o⟩];simp
    by_cases f:a.off+(i+1)<=o'/\o'<a.off+(i+1)+vs.length
    .rw[if_pos ⟨U,f⟩,if_pos ⟨U,J,by simp;omega⟩];have:o'-(a.off+i)=(o'-(a.off+(i+1)))+1:=J;rw[this,List.getElem?_cons_succ]
    rw[if_neg (by intro x;exact f x.2),if_neg (by intro x;exact e x.2),if_neg (by intro x;simp at x;omega)]
   rw[if_neg (λx=>c x.1),if_neg (λx=>c x.1),if_neg (λx=>c x.1)]
  rw[this];exact h
end
def UY(H H':Φ)(b:Nat):Prop:=(∀a,H'.Α b a=H.Α b a)/\H'.row b=H.row b/\H'.obj b=H.obj b
def S7.P8{c:ζ}{d H:Φ}{b:Nat}(h:S7 c d H b)(f:∀a,c b a=none):UY d H b:=
 ⟨λa=>(h.1 a).elim id λ⟨v,p,e,_⟩=>(by rw[f a]at e;cases e),h.2⟩
section
variable{S YE:ζ}{B B':ZZ}{σ σ':Ρ}{H H':Φ}
def QQ.later(c:ZC S YE B B' σ σ'){es:List (Ψ×Ψ)}{xs:Array MapEntry}{d:Nat}(h:QQ S B σ es xs d):QQ YE B' σ' es xs d:=
 ⟨h.1,λi e y a b=>⟨(h.2.1 i e y a b).1.later c,(h.2.1 i e y a b).2.1.later c,(h.2.1 i e y a b).2.2⟩,h.2.2⟩
def HH.later(f:ZC S YE B B' σ σ'){left:List (Ψ×Ψ)}{g:Option (Ψ×Ψ)}{xs:Array MapEntry}{j:Nat}{seen:Array Nat}(h:HH S B σ left g xs j seen):HH YE B' σ' left g xs j seen:=by
 obtain⟨⟨l,m,n,k⟩,o,p⟩:=h;refine⟨⟨l,m,n,λi e y a b=>⟨(k i e y a b).1.later f,(k i e y a b).2.later f⟩⟩,o,λe r=>?_⟩;obtain⟨s,y,a,b,c,d⟩:=p e r;exact⟨s,y,a,b,c.later f,d.later f⟩
def VO.later(p:ZC S YE B B' σ σ'){r:Row}{bo:Option (Nat×Nat)}(h:VO S B σ H r bo)(o:∀b N,bo=some (b,N)->UY H H' b)
  (Q:∀m left A,r=.iter m left A->σ'[m]?=σ[m]?/\B'[m]?=B[m]?/\∀b N,B[m]?=some (some (b,N))->UY H H' b):VO YE B' σ' H' r bo:=by
 cases r with
 | cells t k l=>
  cases bo with
  | none=>exact h
  | some x=>
   obtain⟨b,N⟩:=x;obtain⟨v,C,_⟩:=o b N U;obtain⟨g,n,u,w,y⟩:=h;refine⟨by rw[C];exact g,n,λK R=>by rw[v];exact u K R,w,λi e hi=>⟨(y i e hi).1,λj a D=>?_⟩⟩;obtain⟨E,F,I⟩:=(y i e hi).2 j a D;exact⟨by rw[v];exact E,F.later p,I⟩
 | map es=>
  obtain⟨b,N,xs,J,rfl,g,n⟩:=h;exact⟨b,N,xs,J,U,by rw[(o b N U).2.2];exact g,n.later p⟩
 | iter m left A=>
  obtain⟨b,N,O,P,xs,J,seen,rfl,g,n,u,y,T⟩:=h;obtain⟨V,W,X⟩:=Q m left A U;exact⟨b,N,O,P,xs,J,seen,U,by rw[W];exact g,by rw[V];exact n,by rw[(o b N U).2.2];exact u,by rw[(X O P g).2.2];exact y,T.later p⟩
 | str s pos=>
  obtain⟨b,N,rfl,g⟩:=h;exact⟨b,N,U,by rw[(o b N U).2.2];exact g⟩
 | loop L Y Z a bd nt env=>
  obtain⟨N,f,d,t,rfl,g,n,u⟩:=h;exact⟨N,f,d,t,U,by rw[(o L N U).2.2];exact g,n,λi=>(u i).later p⟩
 | own c K l=>
  obtain⟨N,t,M,rfl,g,w,n⟩:=h;obtain⟨v,C,_⟩:=o c N U;refine⟨N,t,M,U,by rw[C];exact g,w,λj a D=>?_⟩;obtain⟨E,F,I⟩:=n j a D;exact⟨by rw[v];exact E,F.later p,I⟩
 | dead=>trivial
def S5{id b N:Nat}(h:B[id]?=some (some (b,N))):B.has b:=⟨N,ZD h⟩
def Holds.RE(o:Holds S B σ H){id b N:Nat}{r:Row}(p:σ[id]?=some r)(u:r.live)(v:B[id]?=some (some (b,N))):¬H.fresh b:=λi=>by
 have h:=o.row id r _ p v;cases r with
 | cells t k l=>have:=h.1;rw[i.2.1]at this;cases this
 | map es=>
  obtain⟨n,j,xs,w,e,g,_⟩:=h;cases e;rw[i.2.2.1]at g;cases g
 | iter m left x=>
  obtain⟨n,j,y,A,xs,w,seen,e,_,_,g,_⟩:=h;cases e;rw[i.2.2.1]at g;cases g
 | str s pos=>
  obtain⟨n,j,e,g⟩:=h;cases e;rw[i.2.2.1]at g;cases g
 | loop L C D a bd nt env=>
  obtain⟨j,f,d,t,e,g,_⟩:=h;cases e;rw[i.2.2.1]at g;cases g
 | own c E l=>
  obtain⟨j,t,M,e,g,_⟩:=h;cases e;rw[i.2.1]at g;cases g
 | dead=>exact u
def vI{id:Nat}{r r':Row}{bo bo':Option (Nat×Nat)}(b:σ[id]?=some r)(c:B[id]?=some bo)(f:r.to r' (some bo) (some bo')):ZC S S B (B.set id bo') σ (σ.set id r'):=by
 have g:id<σ.length:=(ZT.1 b).1
 have i:id<B.length:=(ZT.1 c).1;refine⟨λ_ _ _ h=>h,λj d a=>?_⟩;by_cases e:id=j
 .subst e;rw[b]at a;cases a;refine⟨r',by rw[Xz g],?_⟩;rw[c,Xz i];exact f
 exact⟨d,by rw[XJ e];exact a,by rw[XJ e];exact d.Sv _⟩
def Holds.QP(g:Holds S B σ H){id:Nat}{r r':Row}{bo bo':Option (Nat×Nat)}(w:σ[id]?=some r)(C:r.live)(s:B[id]?=some bo)(ag:r.to r' (some bo) (some bo'))
  (A:∀b u,bo'=some (b,u)->(∃N,bo=some (b,N))\/H.fresh b) (L:∀b,(∀N,bo≠some (b,N))->(∀N,bo'≠some (b,N))->UY H H' b) (ah:∀b,H'.fresh b->H.fresh b)
  (ai:∀(j:Nat) left M,σ[j]?≠some (Row.iter id left M)) (aj:ZC S S B (B.set id bo') σ (σ.set id r')->VO S (B.set id bo') (σ.set id r') H' r' bo') :
  Holds S (B.set id bo') (σ.set id r') H'/\Ext S B H S (B.set id bo') H'/\ZC S S B (B.set id bo') σ (σ.set id r'):=by
 have O:=vI (S:=S) w s ag
 have ak:id<σ.length:=(ZT.1 w).1
 have D:id<B.length:=(ZT.1 s).1
 have Y:∀(j:Nat)(f:Row)(b N:Nat),j≠id->σ[j]?=some f->f.live->B[j]?=some (some (b,N))->UY H H' b:=λj f b N c P k d=>by
  refine L b (λu e=>?_) (λu e=>?_)
  .exact g.inj j id f r b N u c P w k C d (by rw[s,e])
  rcases A b u e with⟨n,a⟩|a
  .exact g.inj j id f r b N n c P w k C d (by rw[s,a])
  exact g.RE P k d a
 refine⟨⟨λb t v hv=>?_,by simp[g.len],λj f Z c d=>?_,λi j l f b I E J hi c Q k R d=>?_,λj f b N c k d t=>?_⟩,⟨λ_ _ _ h=>h,λb K al=>?_,λb K=>?_,λb t v hv=>.inl hv,ah⟩,O⟩
 .have aa:=g.Za b t v hv
  have ab:∀N,bo≠some (b,N):=λN e=>by
   have:=g.sep id r b N w C (by rw[s,e]) t;rw[hv]at this;cases this
  have am:∀N,bo'≠some (b,N):=λN e=>by
   rcases A b N e with⟨n,a⟩|a
   .exact ab n a
   obtain⟨p,F⟩:=aa;rw[a.1 t]at F;cases F
  rw[(L b ab am).1];exact aa
 .by_cases e:id=j
  .subst e;rw[Xz ak]at c;rw[Xz D]at d;cases c;cases d;exact aj O
  rw[XJ e]at c d;by_cases k:f.live
  .refine(g.row j f Z c d).later O (λb N an=>Y j f b N (YX e) c k (by rw[d,an])) λm left M ao=>?_;subst ao;have T:id≠m:=λx=>by subst x;exact ai j left M c
   refine⟨by rw[XJ T],by rw[XJ T],λb N ap=>?_⟩;obtain⟨_,_,au,av,xs,aw,seen,_,o,⟨es,a⟩,_⟩:=g.row j _ Z c d;exact Y m _ b N (YX T) a trivial ap
  cases f<;>first|exact absurd trivial k|trivial
 .have U:∀(i:Nat)(l:Row)(N:Nat),(σ.set id r')[i]?=some l->l.live->(B.set id bo')[i]?=some (some (b,N))->i≠id->(σ[i]?=some l/\B[i]?=some (some (b,N))):=λi l N o _ y V=>by
   rw[XJ (YX V)]at o y;exact⟨o,y⟩
  have ad:∀(i:Nat)(l:Row)(N u:Nat),i≠id->σ[i]?=some l->l.live->B[i]?=some (some (b,N))->bo'=some (b,u)->False:=λi l N u V o a y W=>by
   rcases A b u W with⟨n,X⟩|X
   .exact g.inj i id l r b N n V o w a C y (by rw[s,X])
   exact g.RE o a y X
  by_cases ae:i=id
  .subst ae;rw[Xz D]at R;obtain⟨o,a⟩:=U j f E c k d (YX J);exact ad j f E I (YX J) o k a (by simpa using R)
  obtain⟨o,a⟩:=U i l I hi Q R ae;by_cases af:j=id
  .subst af;rw[Xz D]at d;exact ad i l I E J o Q a (by simpa using d)
  obtain⟨y,W⟩:=U j f E c k d af;exact g.inj i j l f b I E J o y Q k a W
 .by_cases e:id=j
  .subst e;rw[Xz D]at d;have aq:bo'=some (b,N):=by simpa using d
   rcases A b N aq with⟨n,a⟩|a
   .exact g.sep id r b n w C (by rw[s,a]) t
   cases hv:S b t with
   | none=>rfl
   | some v=>obtain⟨p,F⟩:=g.Za b t v hv;rw[a.1 t]at F;cases F
  rw[XJ e]at c d;exact g.sep j f b N c k d t
 .refine S7.of (L b (λN e=>K (S5 (id:=id) (N:=N) (by rw[s,e]))) λN e=>?_);rcases A b N e with⟨n,a⟩|a
  .exact K (S5 (id:=id) (N:=n) (by rw[s,a]))
  exact al a
 obtain⟨N,ar⟩:=K;obtain⟨j,c⟩:=Tl ar;by_cases e:id=j
 .subst e;rw[Xz D]at c;rcases A b N (by simpa using c)with⟨n,a⟩|a
  .exact .inl (S5 (id:=id) (N:=n) (by rw[s,a]))
  exact .inr a
 rw[XJ e]at c;exact .inl (S5 c)
def vH{r:Row}{bo:Option (Nat×Nat)}(d:B.length=σ.length):ZC S S B (B++[bo]) σ (σ++[r]):=by
 refine⟨λ_ _ _ h=>h,λj a b=>?_⟩;have c:=(ZT.1 b).1;exact⟨a,by rw[YT c];exact b,by rw[YT J];exact a.Sv _⟩
def Holds.push(f:Holds S B σ H){r:Row}{bo:Option (Nat×Nat)}(k:∀b N,bo=some (b,N)->H.fresh b)(F:∀b,(∀N,bo≠some (b,N))->UY H H' b)
  (Z:ZC S S B (B++[bo]) σ (σ++[r])->VO S (B++[bo]) (σ++[r]) H' r bo) :
  Holds S (B++[bo]) (σ++[r]) H'/\Ext S B H S (B++[bo]) H'/\ZC S S B (B++[bo]) σ (σ++[r]):=by
 have K:=vH (S:=S) (r:=r) (bo:=bo) f.len
 have C:=f.len
 have aa:∀b,H'.fresh b->H.fresh b:=by
  have u:∀b,((∀c,H'.Α b c=none)->∀c,H.Α b c=none)/\(H'.row b=none->H.row b=none)/\(H'.obj b=none->H.obj b=none):=λb=>by
   by_cases e:∀N,bo≠some (b,N)
   .obtain⟨ab,ad,ae⟩:=F b e;exact⟨λh c=>by rw[<-ab c];exact h c,λh=>by rw[<-ad];exact h,λh=>by rw[<-ae];exact h⟩
   obtain⟨N,L⟩:=Classical.not_forall.1 e;have D:=k b N (Classical.not_not.1 L);exact⟨λ_=>D.1,λ_=>D.2.1,λ_=>D.2.2.1⟩
  exact λb w=>⟨(u b).1 w.1,(u b).2.1 w.2.1,(u b).2.2 w.2.2.1,λA M=>⟨(u A).1 (w.2.2.2 A M).1,(u A).2.1 (w.2.2.2 A M).2.1,(u A).2.2 (w.2.2.2 A M).2.2⟩⟩
 have P:∀(j:Nat)(d:Row)(b N:Nat),σ[j]?=some d->d.live->B[j]?=some (some (b,N))->UY H H' b:=λj d b N af g a=>
  F b λag e=>f.RE af g a (k b ag e)
 have I:∀{O:Type}(l:List O)(x:O)(j:Nat)(y:O),(l++[x])[j]?=some y->(j<l.length/\l[j]?=some y)\/(j=l.length/\x=y):=λl x j y h=>by
  by_cases n:j<l.length
  .rw[YT n]at h;exact .inl ⟨n,h⟩
  rw[W5 J]at h;have:j-l.length=0:=by
   have:=(ZT.1 h).1;simp at this;omega
  rw[this]at h;simp at h;exact .inr ⟨J,h⟩
 refine⟨⟨λb c v hv=>?_,by simp[C],λj d Q n a=>?_,λi j R d b T U ah hi n V g t a=>?_,λj d b N n g a c=>?_⟩,⟨λ_ _ _ h=>h,λb W D=>?_,λb W=>?_,λb c v hv=>.inl hv,aa⟩,K⟩
 .obtain⟨p,E⟩:=f.Za b c v hv;rw[(F b λN e=>by have:=(k b N e).1 c;rw[E]at this;cases this).1];exact⟨p,E⟩
 .rcases I σ r j d n with⟨o,s⟩|⟨o,rfl⟩
  .rw[YT J]at a;by_cases g:d.live
   .refine(f.row j d Q s a).later K (λb N ai=>P j d b N s g (by rw[a,ai])) λm left am aj=>?_;subst aj;obtain⟨_,_,an,ao,xs,ap,seen,_,aq,⟨es,Υ⟩,_⟩:=f.row j _ Q s a;have ak:=(ZT.1 Υ).1;exact⟨by rw[YT ak],by rw[YT J],λb N al=>P m _ b N Υ trivial al⟩
   cases d<;>first|exact absurd trivial g|trivial
  rw[o,<-C]at a;simp at a;subst a;exact Z K
 .rcases I σ r i R hi with⟨o,s⟩|⟨o,rfl⟩<;>rcases I σ r j d n with⟨X,Y⟩|⟨X,rfl⟩
  .rw[YT J]at t a;exact f.inj i j R d b T U ah s Y V g t a
  .rw[YT J]at t;rw[X,<-C]at a;simp at a;exact f.RE s V t (k b U a)
  .rw[YT J]at a;rw[o,<-C]at t;simp at t;exact f.RE Y g a (k b T t)
  omega
 .rcases I σ r j d n with⟨o,s⟩|⟨o,rfl⟩
  .rw[YT J]at a;exact f.sep j d b N s g a c
  rw[o,<-C]at a;simp at a;cases hv:S b c with
  | none=>rfl
  | some v=>obtain⟨p,E⟩:=f.Za b c v hv;rw[(k b N a).1 c]at E;cases E
 .exact S7.of (F b λN e=>D (k b N e))
 obtain⟨N,L⟩:=W;rcases VS.1 L with h|h
 .exact .inl ⟨N,h⟩
 simp at h;exact .inr (k b N h.symm)
def ζ.lay(S:ζ)(r:Nat)(c:ZP):ζ:=λb a=>if b=r then c[a]? else S b a
def Holds.lay(f:Holds S B σ H){r:Nat}{c:ZP}{t:TypeId}(g:H.fresh r) :
  Holds (S.lay r c) B σ (H.YF r c t)/\Ext S B H (S.lay r c) B (H.YF r c t)/\ZC S (S.lay r c) B B σ σ:=by
 have A:∀a,S r a=none:=λa=>by
  cases hv:S r a with
  | none=>rfl
  | some v=>obtain⟨p,s⟩:=f.Za r a v hv;rw[g.1 a]at s;cases s
 have u:∀b a v,S b a=some v->S.lay r c b a=some v:=λb a v h=>by
  unfold ζ.lay;rw[if_neg (λe=>by subst e;rw[A]at h;cases h)];exact h
 have w:ZC S (S.lay r c) B B σ σ:=⟨u,λ_ d h=>⟨d,h,d.Sv _⟩⟩
 have n:∀b,b≠r->UY H (H.YF r c t) b:=λb o=>⟨λa=>by simp[Φ.YF,o],by simp[Φ.YF,o],U⟩;refine⟨⟨λb a v hv=>?_,f.len,λj d x i k=>?_,f.inj,λj d b N i l k a=>?_⟩,⟨u,λb _ C=>S7.of (n b λe=>C (e▸g)),λb o=>.inl o,λb a v hv=>?_,Φ.EK g c t⟩,w⟩
 .unfold ζ.lay at hv;split at hv
  .rename_i e;subst e;exact⟨true,by simp[Φ.YF,hv]⟩
  rename_i e;rw[(n b e).1];exact f.Za b a v hv
 .by_cases l:d.live
  .have y:∀(j:Nat)(d:Row)(b N:Nat),σ[j]?=some d->d.live->B[j]?=some (some (b,N))->b≠r:=λj d b N D E F e=>f.RE D E F (e▸g);refine(f.row j d x i k).later w (λb N I=>n b (y j d b N i l (by rw[k,I]))) λm left L J=>?_;subst J;obtain⟨_,_,M,O,xs,P,seen,_,Q,⟨es,Υ⟩,_⟩:=f.row j _ x i k;exact⟨U,U,λb N K=>n b (y m _ b N Υ trivial K)⟩
  cases d<;>first|exact absurd trivial l|trivial
 .unfold ζ.lay;rw[if_neg (λe:b=r=>f.RE i l k (e▸g))];exact f.sep j d b N i l k a
 unfold ζ.lay at hv;split at hv
 .rename_i e;subst e;exact .inr (.inr g)
 exact .inl hv
end
def JL:Value->Ψ
 | .slice none 0 0=>.sl true 0 []
 | v=>.z v
def V3:Value->Ψ
 | .agg vs=>.Z' (vs.toList.map JL)
 | v=>JL v
def π(env:κ):Operand->Ψ
 | .tmp n=>ε env n
 | .const v=>V3 v
 | .global _=>.Zl
 | .func f=>.fn (.func f) [] []
def BG{S:ζ}{B:ZZ}{σ:Ρ}(v:Value):Θ S B σ (JL v) v:=by
 unfold JL;split
 .exact .WI none 0 λ_=>rfl
 exact .z v
def P7{S:ζ}{B:ZZ}{σ:Ρ}(v:Value):Θ S B σ (V3 v) v:=by
 unfold V3;split
 .rename_i vs;refine .Z' vs o λi a w b c=>?_;rw[YK,Xf,c]at b;cases b;exact BG w
 exact BG _
def S4{S:ζ}{B:ZZ}{σ:Ρ}{env:κ}{t:ZP}(h:Y' S B σ env t)(b:Operand):Θ S B σ (π env b) (ZX t b):=by
 cases b with
 | tmp n=>exact h n
 | const v=>exact P7 v
 | global g=>exact .Zl _
 | func f=>exact .fn #[] #[] rfl rfl (λi a v hi=>by simp at hi) (λi a v hi=>by simp at hi)
inductive Y1 where
 | ok (a:Ψ) (σ:Ρ)
 | Zw (p:Prop) (r:Y1)
 | all (n:Nat) (f:Nat->Y1)
 | bad
def Y1.holds(K:Ψ->Ρ->Prop):Y1->Prop
 | .ok a σ=>K a σ
 | .Zw p r=>p/\r.holds K
 | .all n f=>∀i,i<n->(f i).holds K
 | .bad=>False
def BF:Next->Option Value
 | .value v=>some v
 | .skip=>some undef
 | _=>none
def T2:TypeDesc->Bool
 | .int _|.string|.bool=>true
 | _=>false
def EI(P:Program)(t:TypeId):Option (List (TypeDesc×Nat))->Prop
 | none=>True
 | some a=>P.eqGuardType P.depth t=false/\a.map (·.2)=List.range a.length/\
  ((∃b,P.underlying t=some (.struct b)/\P.stoodInHeld t=false/\a=b.toList.map (λf=>((P.underlying f.type).getD .invalid,f.offset))/\∀f∈b.toList,f.name≠ "_" /\ ∃d,P.underlying f.type=some d/\T2 d=true)\/
   ∃n e d f,P.underlying t=some (.array n e)/\P.underlying e=some d/\T2 d=true/\P.info? e=some f/\f.size=1/\a=(List.range n).map λi=>(d,i))
structure T1 where
 size:Nat
 Z1:TypeDesc
 zero:Value
 bytes:Nat
 eqs:Option (List (TypeDesc×Nat))
def T1.agg(i:T1):Bool:=VN i.Z1
abbrev ZY:=TypeId->Option T1
def ZH(P:Program)(T:ZY):Prop:=∀t i,T t=some i->(P.underlying t=some i.Z1/\EI P t i.eqs)/\∃f,P.info? t=some f/\f.size=i.size/\f.zero=some i.zero/\f.bytes=i.bytes
def Xu(S:ζ)(B:ZZ)(H:Φ)(σ:Ρ)(K:Ψ->Ρ->Prop)(v:Value)(H':Φ):Prop:=
 ∃b B' σ' a,K a σ'/\Ext S B H b B' H'/\Holds b B' σ' H'/\ZC S b B B' σ σ'/\Θ b B' σ' a v
def Zo(P:Program)(s:Sem Value)(S:ζ)(B:ZZ)(H:Φ)(σ:Ρ)(r:Y1):Prop:=
 ∀K:Ψ->Ρ->Prop,r.holds K->Ω P s H (Xu S B H σ K) (λ_ _=>False)
def Does(P:Program)(s:Sem Next)(S:ζ)(B:ZZ)(H:Φ)(σ:Ρ)(r:Y1):Prop:=
 ∀K:Ψ->Ρ->Prop,r.holds K->Ω P s H (λa H'=>∃v,BF a=some v/\Xu S B H σ K v H') (λ_ _=>False)
section
variable{P:Program}{T:ZY}{S:ζ}{B:ZZ}{H:Φ}{σ:Ρ}{env:κ}{t:ZP}
def Zo.next{s:Sem Value}{r:Y1}(h:Zo P s S B H σ r):Does P (do pure (.value (<-s))) S B H σ r:=λK a=>
 Ω.bind' (Ω.mono (λv G b=>Ω.pure' ⟨v,U,b⟩) (λ_ _ h=>h) _ (h K a))
def Xu.same{K:Ψ->Ρ->Prop}{a:Ψ}{v:Value}(b:Holds S B σ H)(c:K a σ)(d:Θ S B σ a v):Xu S B H σ K v H:=⟨S,B,σ,a,c,.refl _ _ _,b,.refl _ _ _,d⟩
def Zo.pure{a:Ψ}{v:Value}(b:Holds S B σ H)(c:Θ S B σ a v):Zo P (pure v) S B H σ (.ok a σ):=λK d=>
 Ω.pure' (.same b d c)
def Zo.bad{s:Sem Value}:Zo P s S B H σ .bad:=λK a=>a.elim
def Zo.Zw{s:Sem Value}{p:Prop}{r:Y1}(h:p->Zo P s S B H σ r):Zo P s S B H σ (.Zw p r):=λK a=>h a.1 K a.2
def Does.val{a:Ψ}{v:Value}(b:Holds S B σ H)(c:Θ S B σ a v):Does P (pure (.value v)) S B H σ (.ok a σ):=λK d=>
 Ω.pure' ⟨v,U,.same b d c⟩
def Does.bad{s:Sem Next}:Does P s S B H σ .bad:=λK a=>a.elim
def ZH.size(b:ZH P T){a:TypeId}{i:T1}(h:T a=some i){G:Φ}{K:Nat->Φ->Prop}{E:Value->Φ->Prop}(c:K i.size G):Ω P (sizeOf a) G K E:=by
 obtain⟨_,f,d,e,_⟩:=b a i h;exact Ω.sizeOf d (by rw[e];exact c)
def ZH.Z1(b:ZH P T){a:TypeId}{i:T1}(h:T a=some i){G:Φ}{K:TypeDesc->Φ->Prop}{E:Value->Φ->Prop}(c:K i.Z1 G):Ω P (underlying a) G K E:=
 Ω.underlying (b a i h).1.1 c
def ZH.agg(b:ZH P T){a:TypeId}{i:T1}(h:T a=some i){G:Φ}{K:Bool->Φ->Prop}{E:Value->Φ->Prop}(c:K i.agg G):Ω P (isAgg a) G K E:=
 Ω.isAgg (b a i h).1.1 c
def ZH.zero(b:ZH P T){a:TypeId}{i:T1}(h:T a=some i){G:Φ}{K E:Value->Φ->Prop}(c:K i.zero G):Ω P (zeroValue a) G K E:=by
 obtain⟨_,f,d,_,e,_⟩:=b a i h;exact Ω.zeroValue d e c
def ZH.info(b:ZH P T){a:TypeId}{i:T1}(h:T a=some i){G:Φ}{K:TypeInfo->Φ->Prop}{E:Value->Φ->Prop}(c:∀f:TypeInfo,f.bytes=i.bytes->K f G):Ω P (typeInfo a) G K E:=by
 obtain⟨_,f,d,_,_,e⟩:=b a i h;exact Ω.typeInfo d (c f e)
end
inductive Y4 where
 | ok (a:Ψ)
 | Zw (p:Prop) (r:Y4)
 | bad
def Y4.YA(σ:Ρ):Y4->Y1
 | .ok a=>.ok a σ
 | .Zw p r=>.Zw p (r.YA σ)
 | .bad=>.bad
section
variable{P:Program}{T:ZY}{S:ζ}{B:ZZ}{H:Φ}{σ:Ρ}{env:κ}{t:ZP}
def UX(k:IntKind)(a b:Int):Int:=k.wrap (BitVec.ofInt k.bits a&&&BitVec.ofInt k.bits b).toNat
def RD(k:IntKind)(a b:Int):Int:=k.wrap (BitVec.ofInt k.bits a|||BitVec.ofInt k.bits b).toNat
def HF(k:IntKind)(a b:Int):Int:=k.wrap (BitVec.ofInt k.bits a^^^BitVec.ofInt k.bits b).toNat
def Mv(k:IntKind)(a b:Int):Int:=k.wrap (BitVec.ofInt k.bits a&&&~~~BitVec.ofInt k.bits b).toNat
def TG(a b:ByteArray):Bool:=Op.bytesLess a.toList b.toList
def UD(a b:ByteArray):Bool:=Op.bytesLess a.toList b.toList||a.toList==b.toList
def Ox(d:BinOp)(x y:Value):Y4:=
 match d,x,y with
 | .shl,.int k a,.int _ b=>.Zw (0<=b) (.ok (.z (.int k (k.wrap (a*2 ^ (min b.toNat k.bits))))))
 | .shr,.int k a,.int _ b=>.Zw (0<=b) (.ok (.z (.int k (a.fdiv (2 ^ (min b.toNat k.bits))))))
 | .add,.int k a,.int c b=>if k=c then .ok (.z (.int k (k.wrap (a+b)))) else .bad
 | .sub,.int k a,.int c b=>if k=c then .ok (.z (.int k (k.wrap (a-b)))) else .bad
 | .mul,.int k a,.int c b=>if k=c then .ok (.z (.int k (k.wrap (a*b)))) else .bad
 | .quo,.int k a,.int c b=>if k=c then .Zw (b≠0) (.ok (.z (.int k (k.wrap (a.tdiv b))))) else .bad
 | .rem,.int k a,.int c b=>if k=c then .Zw (b≠0) (.ok (.z (.int k (a.tmod b)))) else .bad
 | .and,.int k a,.int c b=>if k=c then .ok (.z (.int k (UX k a b))) else .bad
 | .or,.int k a,.int c b=>if k=c then .ok (.z (.int k (RD k a b))) else .bad
 | .xor,.int k a,.int c b=>if k=c then .ok (.z (.int k (HF k a b))) else .bad
 | .andNot,.int k a,.int c b=>if k=c then .ok (.z (.int k (Mv k a b))) else .bad
 | .eql,.int k a,.int c b=>if k=c then .ok (.z (.bool (a==b))) else .bad
 | .neq,.int k a,.int c b=>if k=c then .ok (.z (.bool (a != b))) else .bad
 | .lss,.int k a,.int c b=>if k=c then .ok (.z (.bool (decide (a<b)))) else .bad
 | .leq,.int k a,.int c b=>if k=c then .ok (.z (.bool (decide (a<=b)))) else .bad
 | .gtr,.int k a,.int c b=>if k=c then .ok (.z (.bool (decide (a > b)))) else .bad
 | .geq,.int k a,.int c b=>if k=c then .ok (.z (.bool (decide (a>=b)))) else .bad
 | .add,.string a,.string b=>.Zw (((a.size+b.size:Nat):Int)<=IntKind.i64.max) (.ok (.z (.string (a++b))))
 | .eql,.string a,.string b=>.ok (.z (.bool (a.toList==b.toList)))
 | .neq,.string a,.string b=>.ok (.z (.bool !(a.toList==b.toList)))
 | .lss,.string a,.string b=>.ok (.z (.bool (TG a b)))
 | .leq,.string a,.string b=>.ok (.z (.bool (UD a b)))
 | .gtr,.string a,.string b=>.ok (.z (.bool (!(UD a b))))
 | .geq,.string a,.string b=>.ok (.z (.bool (!(TG a b))))
 | _,_,_=>.bad
def vG(a:Holds S B σ H)(c:BinOp)(d:TypeId)(p q:Operand)(x y:Value):Zo P (do eqGuard c d p q x y;binOp c d x y) S B H σ ((Ox c x y).YA σ):=by
 unfold Ox;split
 case h_25=>exact .bad
 case h_1=>
  refine .Zw λh=>?_;have b:¬(_:Int)<0:=MM.2 h;simp only[eqGuard,binOp,Op.shift,b,if_false];exact .pure a (.z _)
 case h_2=>
  refine .Zw λh=>?_;have b:¬(_:Int)<0:=MM.2 h;simp only[eqGuard,binOp,Op.shift,b,if_false];exact .pure a (.z _)
 case h_6=>
  split
  .rename_i e;subst e;exact .Zw λh=>by simp only[eqGuard,binOp,Op.intDiv,h,if_false,ne_eq,not_true_eq_false];exact .pure a (.z _)
  exact .bad
 case h_7=>
  split
  .rename_i e;subst e;exact .Zw λh=>by simp only[eqGuard,binOp,Op.intDiv,h,if_false,ne_eq,not_true_eq_false];exact .pure a (.z _)
  exact .bad
 case h_18=>
  refine .Zw λh=>?_;have b:¬((_:Int) > IntKind.i64.max):=MM.2 h;simp only[eqGuard,binOp,Op.stringOp,b,if_false];exact .pure a (.z _)
 all_goals first
  | exact .pure a (.z _)
  |(split
    .rename_i e;subst e;simp only[eqGuard,binOp,Op.intArith,Op.intBits,Op.intCmp,ne_eq,not_true_eq_false,if_false];exact .pure a (.z _)
    exact .bad)
def K5(a:UnOp):Ψ->Y4
 | .z (.bool b)=>match a with|.not=>.ok (.z (.bool !b))|_=>.bad
 | .z (.int k n)=>match a with|.neg=>.ok (.z (.int k (k.wrap (0-n))))|_=>.bad
 | _=>.bad
def vF(b:Holds S B σ H)(c:UnOp){a:Ψ}{v:Value}(d:Θ S B σ a v):Zo P (Op.unary c v) S B H σ ((K5 c a).YA σ):=by
 unfold K5;split
 .cases d;split
  .exact .pure b (.z _)
  exact .bad
 .cases d;split
  .exact .pure b (.z _)
  exact .bad
 exact .bad
def HE(i:Nat):Ψ->Y4
 | .Z7 l=>match l[i]? with|some a=>.ok a|none=>.bad
 | .z (.tuple vs)=>match vs[i]? with|some v=>.ok (V3 v)|none=>.bad
 | _=>.bad
def vE(b:Holds S B σ H)(i:Nat){a:Ψ}{v:Value}(c:Θ S B σ a v):Zo P (Instr.extract v i) S B H σ ((HE i a).YA σ):=by
 unfold HE;split
 .rename_i l;cases c with
  | Z7 vs e f=>
   cases d:l[i]? with
   | none=>exact .bad
   | some a=>
    have g:i<vs.size:=by rw[<-e];exact(ZT.1 d).1
    have hv:vs[i]?=some vs[i]:=XV g;simp only[Instr.extract,hv];exact .pure b (f i a _ d hv)
 .rename_i vs;cases c;cases hv:vs[i]? with
  | none=>exact .bad
  | some v=>simp only[Instr.extract,hv];exact .pure b (P7 v)
 exact .bad
def HD(T:ZY)(b:TypeId)(a:Ψ):Y4:=match T b with
 | some i=>match i.Z1 with|.interface _=>.bad|_=>.ok (.W4 b a)
 | none=>.bad
def vD(d:ZH P T)(e:Holds S B σ H)(b:TypeId){a:Ψ}{v:Value}(f:Θ S B σ a v):Zo P (Instr.makeInterface b v) S B H σ ((HD T b a).YA σ):=by
 unfold HD;cases hi:T b with
 | none=>exact .bad
 | some i=>
  intro K c;unfold Instr.makeInterface;refine Ω.bind' (d.Z1 hi ?_);cases g:i.Z1<;>simp only[g,Y4.YA,Y1.holds]at c<;>first|exact c.elim|exact Ω.pure' (.same e c (.W4 v f))
def Mu(T:ZY)(c:TypeId)(b:Bool)(a:Ψ):Y4:=match T c with
 | some i=>match i.Z1 with
  | .interface _=>.bad
  | _=>match a with
   | .W4 t x=>if t=c then .ok (if b then .Z7 [x,.z (.bool true)] else x) else if b then .ok (.Z7 [V3 i.zero,.z (.bool false)]) else .bad
   | .z .nilIface=>if b then .ok (.Z7 [V3 i.zero,.z (.bool false)]) else .bad
   | _=>.bad
 | none=>.bad
def K4{a b:Ψ}{v w:Value}(h:Θ S B σ a v)(k:Θ S B σ b w):Θ S B σ (.Z7 [a,b]) (.tuple #[v,w]):=by
 refine .Z7 _ U λi a' v' c d=>?_
 match i with
 | 0=>simp at c d;subst c;subst d;exact h
 | 1=>simp at c d;subst c;subst d;exact k
 | i+2=>simp at c
def vC(f:ZH P T)(g:Holds S B σ H)(n h:TypeId)(j:Bool){a:Ψ}{v:Value}(l:Θ S B σ a v):Zo P (Instr.typeAssert v n h j) S B H σ ((Mu T h j a).YA σ):=by
 unfold Mu;cases hi:T h with
 | none=>exact .bad
 | some i=>
  simp only;by_cases b:∃w,i.Z1=.interface w
  .obtain⟨w,o⟩:=b;rw[o];exact .bad
  have e:∀r:Y4,(match i.Z1 with|.interface _=>Y4.bad|_=>r)=r:=λr=>by
   cases p:i.Z1<;>first|rfl|exact absurd ⟨_,p⟩ b
  rw[e];clear e;split
  .rename_i t x;cases l with
   | W4 w m=>
    split
    .rename_i e;subst e;intro K c;unfold Instr.typeAssert;refine Ω.bind' (f.Z1 hi ?_);generalize i.Z1=d at b ⊢;cases d<;>first
      | exact absurd ⟨_,rfl⟩ b
      |(simp only[if_true]
        cases j
        .exact Ω.pure' (.same g c m)
        exact Ω.pure' (.same g c (K4 m (.z _))))
    rename_i s;split
    .rename_i k;subst k;intro K c;unfold Instr.typeAssert;refine Ω.bind' (f.Z1 hi ?_);generalize i.Z1=d at b ⊢;cases d<;>first
      | exact absurd ⟨_,rfl⟩ b
      |(simp only[s,if_false,if_true]
        exact Ω.bind' (f.zero hi (Ω.pure' (.same g c (K4 (P7 _) (.z _))))))
    exact .bad
  .cases l;split
   .rename_i k;subst k;intro K c;unfold Instr.typeAssert;refine Ω.bind' (f.Z1 hi ?_);generalize i.Z1=d at b ⊢;cases d<;>first
     | exact absurd ⟨_,rfl⟩ b
     |(simp only[if_true]
       exact Ω.bind' (f.zero hi (Ω.pure' (.same g c (K4 (P7 _) (.z _))))))
   exact .bad
  exact .bad
end
section
variable{P:Program}{T:ZY}{S:ζ}{B:ZZ}{H:Φ}{σ:Ρ}
def P6(i:T1)(l:μ):Y4:=
 if i.agg then(if i.size<=l.length then .ok (.Z' (l.take i.size)) else .bad)
 else match l with
  | a::_=>.ok a
  | []=>.bad
def HC(T:ZY)(a:TypeId):Ψ->Y4
 | .Κ b=>match T a with|some i=>P6 i b|none=>.bad
 | _=>.bad
def NH:Ρ->Nat->Nat->Nat->Option (Nat×Nat×μ)
 | [],_,_,_=>none
 | r::σ,c,a,i=>match r with
  | .own c' o' l=>if c'=c/\o'<=a then some (i,o',l) else NH σ c a (i+1)
  | _=>NH σ c a (i+1)
def BE{σ c a i id o' l}(h:NH σ c a i=some (id,o',l)):i<=id/\σ[id-i]?=some (.own c o' l)/\o'<=a:=by
 induction σ generalizing i with
 | nil=>cases h
 | cons r σ f=>
  have b:NH σ c a (i+1)=some (id,o',l)->i<=id/\(r::σ)[id-i]?=some (.own c o' l)/\o'<=a:=λh=>by
   let ⟨k,g,j⟩:=f h
   have e:id-i=(id-(i+1))+1:=J;exact⟨J,by rw[e];exact g,j⟩
  unfold NH at h;split at h
  .split at h
   .rename_i d;cases h;exact⟨Z3 _,by simp[d.1],d.2⟩
   exact b h
  exact b h
def RB(T:ZY)(b:TypeId)(σ:Ρ):Ψ->Y1
 | .Ο id n i j=>match T b,σ[id]? with
  | some a,some (.cells _ _ l)=>if l.length=n then match l[i]? with
   | some e=>(P6 a (e.cells.drop j)).YA σ
   | none=>.bad else .bad
  | _,_=>.bad
 | .z (.pointer (some ⟨c,d,none⟩))=>match T b,NH σ c d 0 with
  | some a,some (_,o',l)=>(P6 a (l.drop (d-o'))).YA σ
  | _,_=>.bad
 | _=>.bad
def JK(f:ZH P T)(g:Holds S B σ H){ty i}(hi:T ty=some i){b h l}(w:Nat->Value)(k:∀(j)(a),l[j]?=some a->∃p,H.Α b (h+j)=some (w j,p))(m:∀(j)(a),l[j]?=some a->Θ S B σ a (w j)) :
  Zo P (loadVar ty ⟨b,h,none⟩) S B H σ ((P6 i l).YA σ):=by
 intro K c;unfold P6 at c;unfold loadVar;refine Ω.bind' (f.agg hi ?_);cases n:i.agg with
 | true=>
  rw[n]at c;simp[if_true]at c ⊢;split at c
  .rename_i s;refine Ω.bind' (f.size hi (Ω.bind' (Ω.loadCells w U (λj d=>?_) ?_)))
   .have:l[j]?=some l[j]:=ξ J;exact k j _ this
   refine Ω.pure' (.same g c (.Z' _ (by simp;omega) λj a v e o=>?_));have d:j<i.size:=by have:=(ZT.1 e).1;simp at this;omega
   rw[UK d]at e;simp[d]at o;subst o;exact m j a e
  exact c.elim
 | false=>
  rw[n]at c;simp at c ⊢;cases l with
  | nil=>exact c.elim
  | cons a l=>
   let ⟨p,r⟩:=k 0 a U;exact⟨U,U,w 0,p,r,Xu.same g c (m 0 a U)⟩
def vB(d:ZH P T)(c:Holds S B σ H){ty a v}(e:Θ S B σ a v):Zo P (Instr.loadAt ty v) S B H σ ((HC T ty a).YA σ):=by
 unfold HC;split
 .rename_i k;cases hi:T ty with
  | none=>exact .bad
  | some i=>
   cases e with
   | Κ b l w f g=>exact JK d c hi w (λj a h=>c.Za _ _ _ (f j a h)) g
 exact .bad
def BD(f:Holds S B σ H){id k i b N:Nat}{t l e}(g:σ[id]?=some (.cells t k l))(h:B[id]?=some (some (b,N)))(c:l[i]?=some e) :
  e.cells.length=k/\∃w:Nat->Value,∀(j) a,e.cells[j]?=some a->H.Α b (i*k+j)=some (w j,true)/\Θ S B σ a (w j)/\One (w j):=by
 let ⟨_,_,_,w,d⟩:=f.row id _ _ g h;exact⟨(d i e c).1,w i,(d i e c).2⟩
def vA(p:ZH P T)(f:Holds S B σ H){ty a v}(r:Θ S B σ a v):Zo P (Instr.loadAt ty v) S B H σ (RB T ty σ a):=by
 unfold RB;split
 .rename_i id n i j;split
  .rename_i s t k l hi g;split
   .rename_i C;cases u:l[i]? with
    | none=>exact .bad
    | some e=>
     cases r with
     | Ο d m y=>
      rw[g]at d;cases d;let ⟨D,w,h⟩:=BD f g y u;refine JK p f hi (λx=>w (j+x)) (λx a b=>⟨true,?_⟩) (λx a b=>?_)
      .rw[Vf]at b;rw[UJ];exact(h _ a b).1
      rw[Vf]at b;exact(h _ a b).2.1
     | Vo v d m=>rw[g]at d;cases d;simp[Row.W3]at m;omega
   exact .bad
  exact .bad
 .rename_i c o;split
  .rename_i s id o' l hi g;cases r;let ⟨_,d,m⟩:=BE g;rw[Nat.sub_zero]at d;let ⟨bo,A⟩:=TH f d;obtain⟨N,t,M,rfl,_,w,h⟩:=f.row id _ bo d A;have e:∀x,o'+(o-o'+x)=o+x:=λx=>J;refine JK p f hi (λx=>w (o-o'+x)) (λx a b=>⟨true,?_⟩) (λx a b=>?_)
   .rw[Vf]at b;rw[<-e];exact(h _ a b).1
   rw[Vf]at b;exact(h _ a b).2.1
  exact .bad
 exact .bad
def Yp(T:ZY)(a:TypeId)(f:Nat):Option (Nat×TypeId):=match T a with
 | some i=>match i.Z1 with
  | .struct b=>match b[f]? with
   | some x=>match T x.type with
    | some c=>if c.size=0 then none else some (x.offset,x.type)
    | none=>none
   | none=>none
  | _=>none
 | none=>none
def HB(T:ZY)(c:TypeId)(f:Nat):Ψ->Y4
 | .Κ d=>match Yp T c f with|some (a,_)=>.ok (.Κ (d.drop a))|none=>.bad
 | .z (.pointer (some ⟨b,o',none⟩))=>match Yp T c f with|some (a,_)=>.ok (.z (.pointer (some ⟨b,o'+a,none⟩)))|none=>.bad
 | _=>.bad
def RA(T:ZY)(a:TypeId)(f:Nat)(σ:Ρ):Ψ->Y1
 | .Ο id n i j=>match Yp T a f,σ[id]? with
  | some (b,_),some (.cells _ _ l)=>if l.length=n then .ok (.Ο id n i (j+b)) σ else .bad
  | _,_=>.bad
 | _=>.bad
def Pk(b a n):(⟨b,a,none⟩:Addr).add n=⟨b,a+n,none⟩:=by
 unfold Addr.add;split
 .simp_all
 rfl
def BC{cells b d}(h:Θ S B σ (.Κ cells) (.pointer (some ⟨b,d,none⟩)))(n):Θ S B σ (.Κ (cells.drop n)) (.pointer (some ⟨b,d+n,none⟩)):=by
 cases h with
 | Κ b d w e f=>
  refine .Κ b (d+n) (λj=>w (n+j)) (λj a c=>?_) (λj a c=>?_)
  .rw[Vf]at c;rw[UJ];exact e _ a c
  rw[Vf]at c;exact f _ a c
def EH(c:ZH P T){ty f d e}(a:Yp T ty f=some (d,e)){b o' K E}(h:K (.pointer (some ⟨b,o'+d,none⟩)) H) :
  Ω P (Instr.fieldAt ty (.pointer (some ⟨b,o',none⟩)) f) H K E:=by
 unfold Yp at a;split at a<;>try cases a
 rename_i i hi;split at a<;>try cases a
 rename_i m g;split at a<;>try cases a
 rename_i x j;split at a<;>try cases a
 rename_i n k;split at a<;>try cases a
 rename_i l;unfold Instr.fieldAt;refine Ω.bind' (c.Z1 hi ?_);rw[g];simp[j];apply Ω.bind';unfold fieldPlace;refine Ω.bind' (Ω.bind' (c.size k ?_));rw[if_neg l,Pk];exact Ω.pure' (Ω.pure' h)
def vz(e:ZH P T)(g:Holds S B σ H){ty f a v}(h:Θ S B σ a v):Zo P (Instr.fieldAt ty v f) S B H σ ((HB T ty f a).YA σ):=by
 unfold HB;split
 .rename_i m;cases c:Yp T ty f with
  | none=>exact .bad
  | some x=>
   let ⟨i,j⟩:=x;cases h with
   | Κ b o' w k l=>exact λK d=>EH e c (Xu.same g d (BC (.Κ b o' w k l) i))
 .rename_i b o';cases c:Yp T ty f with
  | none=>exact .bad
  | some x=>
   let ⟨i,j⟩:=x;cases h;exact λK d=>EH e c (Xu.same g d (.z _))
 exact .bad
def vy(e:ZH P T)(g:Holds S B σ H){ty f a v}(h:Θ S B σ a v):Zo P (Instr.fieldAt ty v f) S B H σ (RA T ty f σ a):=by
 unfold RA;split
 .rename_i id n i j;split
  .rename_i s u t k l m c;split
   .rename_i o;cases h with
    | Ο b d p=>
     rw[c]at b;cases b;refine λK r=>EH e m (Xu.same g r ?_);rw[UJ];exact .Ο c o p
    | Vo v b d=>rw[c]at b;cases b;simp[Row.W3]at d;omega
   exact .bad
  exact .bad
 exact .bad
def TF{ex k l v}(h:Θ S B σ (.sl ex k l) v):∃base cap,v=.slice base l.length cap/\l.length<=cap/\(ex=true->cap=l.length)/\(l≠[]->∃(b a:Nat)(w:Nat->Nat->Value),base=some ⟨b,a,none⟩/\(∀(i:Nat) e,l[i]?=some e->e.cells.length=k)/\
  (∀(i) e,l[i]?=some e->∀(j) c,e.cells[j]?=some c->S b (a+i*k+j)=some (w i j))/\(∀(i) e,l[i]?=some e->∀(j) c,e.cells[j]?=some c->Θ S B σ c (w i j))):=by
 cases h with
 | WI base cap h=>exact⟨base,cap,rfl,Γ _,h,λx=>absurd rfl x⟩
 | sl b a cap w d f g m n=>exact⟨_,cap,rfl,f,d,λ_=>⟨b,a,w,rfl,g,m,n⟩⟩
def vx{ex k l base len cap i e}(h:Θ S B σ (.sl ex k l) (.slice base len cap))(c:l[i]?=some e):∃b a,base=some ⟨b,a,none⟩/\Θ S B σ (.Κ e.cells) (.pointer (some ⟨b,a+i*k,none⟩)):=by
 let ⟨j,m,hv,_,_,d⟩:=TF h;cases hv;obtain⟨b,a,w,rfl,n,f,g⟩:=d (by rintro rfl;simp at c);exact⟨b,a,U,.Κ b (a+i*k) (w i) (f i e c) (g i e c)⟩
def WR(T:ZY)(b:TypeId):Option (TypeId×Nat×Option Nat):=match T b with
 | some i=>match i.Z1 with
  | .slice e=>match T e with|some a=>some (e,a.size,none)|none=>none
  | .array n e=>match T e with|some a=>some (e,a.size,some n)|none=>none
  | _=>none
 | none=>none
def HA{b e k}(h:WR T b=some (e,k,none)):∃i a,T b=some i/\i.Z1=.slice e/\T e=some a/\a.size=k:=by
 unfold WR at h;split at h
 .rename_i i hi;split at h
  .rename_i f c;split at h
   .rename_i a d;cases h;exact⟨i,a,hi,c,d,U⟩
   cases h
  .split at h<;>cases h
  cases h
 cases h
def vw{b e k n}(h:WR T b=some (e,k,some n)):∃i a,T b=some i/\i.Z1=.array n e/\T e=some a/\a.size=k:=by
 unfold WR at h;split at h
 .rename_i i hi;split at h
  .split at h<;>cases h
  .rename_i f g c;split at h
   .rename_i a d;cases h;exact⟨i,a,hi,c,d,U⟩
   cases h
  cases h
 cases h
def Hz(T:ZY)(d:TypeId)(a e:Ψ):Y4:=
 match WR T d,e with
 | some (_,b,none),.z (.int _ n)=>match a with
  | .sl _ k l=>if k=b then .Zw (0<=n/\n<l.length) (.ok (.Κ (l.getD n.toNat .Zl).cells)) else .bad
  | .z (.slice (some ⟨c,f,none⟩) len _)=>.Zw (0<=n/\n<len) (.ok (.z (.pointer (some ⟨c,f+n.toNat*b,none⟩))))
  | _=>.bad
 | some (_,b,some m),.z (.int _ n)=>match a with
  | .Κ g=>.Zw (0<=n/\n<m) (.ok (.Κ (g.drop (n.toNat*b))))
  | _=>.bad
 | _,_=>.bad
def Rz(T:ZY)(c:TypeId)(σ:Ρ)(a d:Ψ):Y1:=
 match WR T c,d with
 | some (_,b,none),.z (.int _ n)=>match a with
  | .ms id m i len=>match σ[id]? with
   | some (.cells _ k l)=>if k=b/\l.length=m then .Zw (0<=n/\n<len) (.ok (.Ο id m (i+n.toNat) 0) σ) else .bad
   | _=>.bad
  | _=>.bad
 | some (_,b,some len),.z (.int _ n)=>match a with
  | .Ο id m i j=>match σ[id]? with
   | some (.cells _ _ l)=>if l.length=m then .Zw (0<=n/\n<len) (.ok (.Ο id m i (j+n.toNat*b)) σ) else .bad
   | _=>.bad
  | _=>.bad
 | _,_=>.bad
def EG(a:ZH P T){c e k}(g:WR T c=some (e,k,none)){b d len cap:Nat}{kk}{n:Int}(j:0<=n/\n<len){K E}
  (h:K (.pointer (some ⟨b,d+n.toNat*k,none⟩)) H):Ω P (Instr.indexAt c (.slice (some ⟨b,d,none⟩) len cap) (.int kk n)) H K E:=by
 obtain⟨i,m,hi,f,l,rfl⟩:=HA g;unfold Instr.indexAt;apply Ω.bind';refine Ω.bind' (a.Z1 hi ?_);rw[f];refine Ω.bind' (Ω.pure' ?_);refine Ω.bind' (a.Z1 hi ?_);rw[f];simp only[j];refine Ω.bind' (a.size l ?_);rw[Pk];exact h
def BB(a:ZH P T){c e k m}(g:WR T c=some (e,k,some m)){b d kk}{n:Int}(j:0<=n/\n<m){K E}
  (h:K (.pointer (some ⟨b,d+n.toNat*k,none⟩)) H):Ω P (Instr.indexAt c (.pointer (some ⟨b,d,none⟩)) (.int kk n)) H K E:=by
 obtain⟨i,o,hi,f,l,rfl⟩:=vw g;unfold Instr.indexAt;apply Ω.bind';refine Ω.bind' (a.Z1 hi ?_);rw[f];refine Ω.bind' (Ω.bind' (Ω.pure' ?_));refine Ω.bind' (a.Z1 hi ?_);rw[f];simp only[j];refine Ω.bind' (a.size l ?_);rw[Pk];exact h
def vv(i:ZH P T)(j:Holds S B σ H){ty a p v w}(g:Θ S B σ a v)(r:Θ S B σ p w):Zo P (Instr.indexAt ty v w) S B H σ ((Hz T ty a p).YA σ):=by
 unfold Hz;split
 .rename_i e t kk n h;cases r;split
  .rename_i ex k l;split
   .rename_i u;subst u;refine .Zw λd=>?_;obtain⟨base,cap,rfl,_⟩:=TF g;have x:n.toNat<l.length:=J;have s:=ξ x;obtain⟨b,o,rfl,y⟩:=vx g s;refine λK f=>EG i h d (Xu.same j f ?_);rw[XA,s];exact y
   exact .bad
  .rename_i c o len cap;cases g;exact .Zw λd K f=>EG i h d (Xu.same j f (.z _))
  exact .bad
 .rename_i e t m kk n h;cases r;split
  .rename_i D;refine .Zw λd=>?_;cases g with
   | Κ b o w A C=>exact λK f=>BB i h d (Xu.same j f (BC (.Κ b o w A C) _))
  exact .bad
 exact .bad
def vu(u:ZH P T)(x:Holds S B σ H){ty a y v w}(A:Θ S B σ a v)(C:Θ S B σ y w):Zo P (Instr.indexAt ty v w) S B H σ (Rz T ty σ a y):=by
 unfold Rz;split
 .rename_i e D kk n g;cases C;split
  .rename_i id m i len;split
   .rename_i t k l d;split
    .rename_i E;obtain⟨rfl,h⟩:=E;refine .Zw λo=>?_;cases A with
     | ms cap c f p F I r=>
      rw[d]at c;cases c;rcases r with r|⟨b,N,rfl,rfl,r⟩
      .omega
      refine λK s=>EG u g o (Xu.same x s ?_);have:i*k+n.toNat*k=(i+n.toNat)*k+0:=by rw[WB];rfl
      rw[this];exact .Ο d h p
     | VP v c f=>rw[d]at c;cases c;simp[Row.W3]at f;omega
    exact .bad
   exact .bad
  exact .bad
 .rename_i e D len kk n g;cases C;split
  .rename_i id m i j;split
   .rename_i t k l d;split
    .rename_i h;refine .Zw λo=>?_;cases A with
     | Ο c f p=>
      rw[d]at c;cases c;refine λK s=>BB u g o (Xu.same x s ?_);rw[UJ];exact .Ο d h p
     | Vo v c f=>rw[d]at c;cases c;simp[Row.W3]at f;omega
    exact .bad
   exact .bad
  exact .bad
 exact .bad
end
def Ψ.Y8(σ:Ρ):Ψ->Bool
 | .z v=>match v with|.agg _|.tuple _=>false|_=>true
 | .Z' _|.Z7 _|.Zl=>false
 | .mp id=>match σ[id]? with|some (.map _)=>true|_=>false
 | .it id=>match σ[id]? with|some (.iter ..)=>true|_=>false
 | _=>true
def Ψ.NG:Ψ->Nat->μ->Ψ
 | .Z' l,j,cs=>.Z' (l.take j++cs++l.drop (j+cs.length))
 | _,0,[c]=>c
 | e,_,_=>e
def Ψ.EF{σ}{a:Ψ}(h:a.Y8 σ=true):a.cells=[a]:=by
 cases a<;>first|rfl|cases h
def Ψ.BA{σ}{e:Ψ}{j cs}(b:j+cs.length<=e.cells.length)(f:∀c∈cs,Ψ.Y8 σ c=true):(e.NG j cs).cells=e.cells.take j++cs++e.cells.drop (j+cs.length):=by
 by_cases a:∃l,e=.Z' l
 .obtain⟨l,rfl⟩:=a;rfl
 have d:e.cells=[e]:=by cases e<;>first|rfl|exact absurd ⟨_,rfl⟩ a
 rw[d]at b ⊢;cases cs with
 | nil=>
  have:e.NG j []=e:=by cases e<;>cases j<;>first|rfl|exact absurd ⟨_,rfl⟩ a
  rw[this,d]
  match j with
  | 0=>rfl
  | j+1=>simp
 | cons c cs=>
  simp at b;have g:j=0:=J;have h:cs=[]:=by cases cs<;>simp at b ⊢;omega
  subst g;subst h;have:e.NG 0 [c]=c:=by cases e<;>first|rfl|exact absurd ⟨_,rfl⟩ a
  rw[this,Ψ.EF (f c o)];simp
section
variable{P:Program}{T:ZY}{S:ζ}{B:ZZ}{H:Φ}{σ:Ρ}
def Θ.K3{a v}(h:Θ S B σ a v)(c:a.Y8 σ=true):One v:=by
 cases h with
 | z v=>cases v<;>first|trivial|cases c
 | Vo v b e d=>exact d
 | VP v b e d=>exact d
 | TI v b=>simp[Ψ.Y8,b]at c
 | S8 v b=>simp[Ψ.Y8,b]at c
 | Z'|Z7|Zl=>cases c
 | _=>trivial
def One.cells{v}(h:One v):v.cells=#[v]:=by cases v<;>first|rfl|exact h.elim
def Θ.cells{a v}(h:Θ S B σ a v)(d:a.cells.all (Ψ.Y8 σ)=true):v.cells.size=a.cells.length/\∀(j:Nat) c,a.cells[j]?=some c->∃x,v.cells[j]?=some x/\Θ S B σ c x/\One x:=by
 have k:a.cells=[a]->v.cells.size=a.cells.length/\∀(j:Nat)(c),a.cells[j]?=some c->∃x,v.cells[j]?=some x/\Θ S B σ c x/\One x:=λe=>by
  rw[e]at d ⊢;simp at d;have f:=h.K3 d;rw[f.cells];refine⟨U,λj c b=>?_⟩
  match j with
  | 0=>simp at b;subst b;exact⟨v,rfl,h,f⟩
  | j+1=>simp at b
 cases h with
 | Z' vs g l=>
  refine⟨g.symm,λj c b=>?_⟩;have m:j<vs.size:=by rw[<-g];exact(ZT.1 b).1
  have hv:=XV m
  have i:=l j c _ b hv;exact⟨_,hv,i,i.K3 (Xk.1 d c (ZD b))⟩
 | _=>exact k rfl
def K2(a:Holds S B σ H){id k t l}(h:σ[id]?=some (.cells t k l)):∀(j:Nat) left b,σ[j]?≠some (Row.iter id left b):=λj left b c=>by
 let ⟨bo,e⟩:=TH a c
 let ⟨_,_,_,_,_,_,_,_,_,⟨es,d⟩,_⟩:=a.row j _ bo c e;rw[h]at d;cases d
def Bz{i a k b lo hi:Nat}(c:b<k)(d:hi<=k)(h:a≠i):¬(i*k+lo<=a*k+b/\a*k+b<i*k+hi):=by
 rintro⟨e,f⟩;rcases Nat.lt_or_gt_of_ne h with h|h
 .have:(a+1)*k<=i*k:=Tk k h;rw[WB]at this;omega
 have:(i+1)*k<=a*k:=Tk k h;rw[WB]at this;omega
def K1(P:Program)(s:Sem Unit)(S:ζ)(B:ZZ)(H:Φ)(σ:Ρ)(r:Y1):Prop:=
 ∀K,r.holds K->Ω P s H (λ_ H'=>Xu S B H σ K undef H') (λ_ _=>False)
def K1.next{s r}(h:K1 P s S B H σ r):Does P (do s;pure .skip) S B H σ r:=λK a=>
 Ω.bind' (Ω.mono (λ_ G b=>Ω.pure' ⟨undef,U,b⟩) (λ_ _ h=>h) _ (h K a))
def K1.bad{s}:K1 P s S B H σ .bad:=λK a=>a.elim
def vt(C:Holds S B σ H){id k i j b N t l e a v}(D:σ[id]?=some (.cells t k l))(O:B[id]?=some (some (b,N)))(E:l[i]?=some e)(ab:Θ S B σ a v)(P:a.cells.all (Ψ.Y8 σ)=true)
  (Q:j+a.cells.length<=k) :
  (∀x∈v.cells.toList,One x)/\(∀x,x<a.cells.length->H.owns b (i*k+j+x))/\H.row b=some (t,N)/\
  (let σ':=σ.set id (.cells t k (l.set i (e.NG j a.cells)));Holds S (B.set id (some (b,N))) σ' (H.W2 b (i*k+j) v.cells.toList)/\Ext S B H S (B.set id (some (b,N))) (H.W2 b (i*k+j) v.cells.toList)/\ZC S S B (B.set id (some (b,N))) σ σ'):=by
 let ⟨ad,R⟩:=ab.cells P
 have r:v.cells.toList.length=a.cells.length:=by simpa using ad
 let ⟨T,V,W,w,F⟩:=C.row id _ _ D O
 have X:=(ZT.1 E).1
 have ae:(i+1)*k<=N:=WL (Tk k X) V
 have ar:i*k+k<=N:=by rw[WB]at ae;omega
 have af:=(F i e E).1
 have ag:=Xk.1 P
 have ah:=Ψ.BA (by rw[af];exact Q) ag;refine⟨λx Y=>?_,λx Y=>?_,T,?_⟩
 .let ⟨y,I⟩:=Tl Y
  have ai:y<a.cells.length:=by rw[<-r];exact(ZT.1 I).1
  let ⟨au,g,_,m⟩:=R y _ (ξ ai);rw[Xf]at I;rw[I]at g;cases g;exact m
 .let ⟨u,aj⟩:=W (i*k+j+x) J;exact⟨u,aj⟩
 refine C.QP D trivial O (.inl ⟨_,U,o,U⟩) (λZ ak n=>.inl ⟨ak,n⟩) (λZ g _=>?_) Φ.HG (K2 C D) (λK=>?_)
 .have al:Z≠b:=λn=>by subst n;exact g N U
  exact⟨λaa=>by simp[Φ.W2,al],U,U⟩
 refine⟨T,by simpa using V,λaa am=>?_,λh d=>if h=i/\j<=d/\d<j+a.cells.length then(v.cells[d-j]?).getD undef else w h d,λh n s=>?_⟩
 .simp[Φ.W2];split
  .exact⟨_,U⟩
  exact W aa am
 by_cases A:h=i
 .subst A;rw[Xz X]at s;cases s;rw[ah];refine⟨by simp;omega,λd c f=>?_⟩;by_cases L:j<=d/\d<j+a.cells.length
  .have M:a.cells[d-j]?=some c:=by
    rw[Sc,W5 (by simp;omega)]at f;simp[T5]at f;rw[YT J]at f;have:d-min j e.cells.length=d-j:=J;rw[this]at f;exact f
   let ⟨x,g,m,p⟩:=R _ _ M;simp[L,and_self,if_true,g,Option.getD_some];refine⟨?_,m.later K,p⟩;simp only[Φ.W2,r];rw[if_pos ⟨trivial,J,J⟩];have:h*k+d-(h*k+j)=d-j:=J;rw[this,Xf,g];rfl
  have M:e.cells[d]?=some c:=by
   by_cases an:d<j
   .rw[Sc,YT (by simp;omega),UK an]at f;exact f
   rw[W5 (by simp;omega)]at f;rw[Vf]at f;have:j+a.cells.length+(d-(e.cells.take j++a.cells).length)=d:=by simp;omega
   rw[this]at f;exact f
  simp only[L,and_false,if_false];let ⟨g,m,p⟩:=(F h e E).2 d c M;refine⟨?_,m.later K,p⟩;simp only[Φ.W2,r];rw[if_neg (λx=>L ⟨J,J⟩)];exact g
 rw[XJ (YX A)]at s;let ⟨g,m⟩:=F h n s;refine⟨g,λd c f=>?_⟩;let ⟨p,ao,ap⟩:=m d c f;have aq:d<k:=by rw[<-g];exact(ZT.1 f).1
 simp only[A,false_and,if_false];refine⟨?_,ao.later K,ap⟩;simp only[Φ.W2,r];rw[if_neg (λx=>Bz aq Q A ⟨x.2.1,J⟩)];exact p
def By(h:Holds S B σ H){id c f j N l a v}(k:σ[id]?=some (.own c f l))(u:B[id]?=some (some (c,N)))(O:Θ S B σ a v)(P:a.cells.all (Ψ.Y8 σ)=true)(Z:j+a.cells.length<=l.length) :
  (∀x∈v.cells.toList,One x)/\(∀x,x<a.cells.length->H.owns c (f+j+x))/\(∃t M,H.row c=some (t,M))/\
  (let σ':=σ.set id (.own c f (l.take j++a.cells++l.drop (j+a.cells.length)));Holds S (B.set id (some (c,N))) σ' (H.W2 c (f+j) v.cells.toList)/\Ext S B H S (B.set id (some (c,N))) (H.W2 c (f+j) v.cells.toList)/\ZC S S B (B.set id (some (c,N))) σ σ'):=by
 let ⟨Q,A⟩:=O.cells P
 have m:v.cells.toList.length=a.cells.length:=by simpa using Q
 let ⟨C,t,M,R,D,w,E⟩:=h.row id _ _ k u;cases R;refine⟨λx F=>?_,λx F=>?_,⟨t,M,D⟩,?_⟩
 .let ⟨y,n⟩:=Tl F
  have T:y<a.cells.length:=by rw[<-m];exact(ZT.1 n).1
  let ⟨aa,e,_,g⟩:=A y _ (ξ T);rw[Xf]at n;rw[n]at e;cases e;exact g
 .have:=(E (j+x) _ (ξ J)).1;rw[<-UJ]at this;exact⟨_,this⟩
 have V:∀(i) left I,σ[i]?≠some (Row.iter id left I):=λi left I hi=>by
  let ⟨bo,W⟩:=TH h hi
  let ⟨_,_,_,_,_,_,_,_,_,⟨es,g⟩,_⟩:=h.row i _ bo hi W;rw[k]at g;cases g
 refine h.QP k trivial u (.inl ⟨_,U,by simp;omega,U⟩) (λK C o=>.inl ⟨C,o⟩) (λK e _=>?_) Φ.HG V (λL=>?_)
 .have X:K≠c:=λo=>by subst o;exact e N U
  exact⟨λf=>by simp[Φ.W2,X],U,U⟩
 refine⟨N,t,M,U,D,λb=>if j<=b/\b<j+a.cells.length then(v.cells[b-j]?).getD undef else w b,λb q d=>?_⟩;by_cases p:j<=b/\b<j+a.cells.length
 .have r:a.cells[b-j]?=some q:=by
   rw[Sc,W5 (by simp;omega)]at d;simp[T5]at d;rw[YT J]at d;have:b-min j l.length=b-j:=J;rw[this]at d;exact d
  let ⟨x,e,g,s⟩:=A _ _ r;simp only[p,and_self,if_true,e,Option.getD_some];refine⟨?_,g.later L,s⟩;simp only[Φ.W2,m];rw[if_pos ⟨trivial,J,J⟩];have:f+b-(f+j)=b-j:=J;rw[this,Xf,e];rfl
 have r:l[b]?=some q:=by
  by_cases Y:b<j
  .rw[Sc,YT (by simp;omega),UK Y]at d;exact d
  rw[W5 (by simp;omega)]at d;rw[Vf]at d;have:j+a.cells.length+(b-(l.take j++a.cells).length)=b:=by simp;omega
  rw[this]at d;exact d
 simp only[p,if_false];let ⟨e,g,s⟩:=E b q r;refine⟨?_,g.later L,s⟩;simp[Φ.W2,m];rw[if_neg (λx=>p ⟨J,J⟩)];exact e
def Hy(T:ZY)(f:TypeId)(σ:Ρ)(p a:Ψ):Y1:=match p with
 | .Ο id n i j=>match T f,σ[id]? with
  | some b,some (.cells t k l)=>match l[i]? with
   | some e=>if l.length=n/\a.cells.length=b.size/\j+b.size<=k/\a.cells.all (Ψ.Y8 σ)=true then .ok .Zl (σ.set id (.cells t k (l.set i (e.NG j a.cells)))) else .bad
   | none=>.bad
  | _,_=>.bad
 | .z (.pointer (some ⟨c,d,none⟩))=>match T f,NH σ c d 0 with
  | some b,some (id,o',l)=>if a.cells.length=b.size/\d-o'+a.cells.length<=l.length/\a.cells.all (Ψ.Y8 σ)=true then .ok .Zl (σ.set id (.own c o' (l.take (d-o')++a.cells++l.drop (d-o'+a.cells.length)))) else .bad
  | _,_=>.bad
 | _=>.bad
def vr(E:ZH P T)(m:Holds S B σ H){ty p a u v}(F:Θ S B σ p u)(o:Θ S B σ a v):K1 P (Instr.storeAt ty u v) S B H σ (Hy T ty σ p a):=by
 unfold Hy;split
 .rename_i id n i j;split
  .rename_i Q t k l hi g;split
   .rename_i e R;split
    .rename_i s;let ⟨Z,V,I,h⟩:=s;cases F with
     | Ο d w W=>
      rename_i b N;rw[g]at d;cases d;intro K y;let ⟨A,r,C,f⟩:=vt m g W R o h (by omega:j+a.cells.length<=k);let ⟨X,_⟩:=o.cells h;refine Ω.bind' (Ω.pure' ?_);unfold storeVar;refine Ω.bind' (E.size hi ?_);rw[if_neg J];apply Ω.storeCells (G:=H) U ⟨t,N,C⟩ v.cells.toList 0 H A (λx _ D=>r x (by simp at D;omega)) U;exact⟨S,_,_,.Zl,y,f.2.1,f.1,f.2.2,.Zl _⟩
     | Vo v d w=>rw[g]at d;cases d;simp[Row.W3]at w;omega
    exact .bad
   exact .bad
  exact .bad
 .rename_i c L;split
  .rename_i Q id o' l hi g;split
   .rename_i s;let ⟨V,I,h⟩:=s;cases F;let ⟨_,d,w⟩:=BE g;rw[Nat.sub_zero]at d;let ⟨bo,O⟩:=TH m d;obtain⟨N,_,_,rfl,_⟩:=m.row id _ bo d O;have Y:o'+(L-o')=L:=J;intro K y;let ⟨A,r,⟨t,M,C⟩,f⟩:=By m d O o h I;rw[Y]at r f;let ⟨X,_⟩:=o.cells h;refine Ω.bind' (Ω.pure' ?_);unfold storeVar;refine Ω.bind' (E.size hi ?_);rw[if_neg J];apply Ω.storeCells (G:=H) U ⟨t,M,C⟩ v.cells.toList 0 H A (λx _ D=>r x (by simp at D;omega)) U;exact⟨S,_,_,.Zl,y,f.2.1,f.1,f.2.2,.Zl _⟩
   exact .bad
  exact .bad
 exact .bad
end
section
variable{P:Program}{T:ZY}{S:ζ}{B:ZZ}{H:Φ}{σ:Ρ}
def Xd(S:ζ)(B:ZZ)(σ:Ρ)(c:ZP)(k:Nat)(l:μ):Prop:=
 l.length*k<=c.size/\∀(i)(e),l[i]?=some e->e.cells.length=k/\∀(j)(a),e.cells[j]?=some a->∃x,c[i*k+j]?=some x/\Θ S B σ a x/\One x
def Hx{a:Ψ}(h:a.Y8 []=true):a.Y8 σ=true:=by
 cases a<;>first|exact h|(simp[Ψ.Y8]at h)
def KZ{l:μ}(h:l.all (Ψ.Y8 [])=true):l.all (Ψ.Y8 σ)=true:=by
 rw[Xk] at *;exact λa b=>Hx (h a b)
def Xd.put{c k l}(h:Xd S B σ c k l){i j e a v}(t:l[i]?=some e)(K:Θ S B σ a v)(y:a.cells.all (Ψ.Y8 σ)=true)(A:j+a.cells.length<=k) :
  let c':=v.cells.zipIdx.foldl (λcs (x:Value×Nat)=>cs.setIfInBounds (i*k+j+x.2) x.1) c
  c'.size=c.size/\Xd S B σ c' k (l.set i (e.NG j a.cells)):=by
 let ⟨L,M⟩:=K.cells y
 have C:=(ZT.1 t).1
 have N:=(h.2 i e t).1
 have O:=Xk.1 y
 have P:=Ψ.BA (by rw[N];exact A) O
 have Q:∀(vs:List Value)(n)(c:ZP),((vs.zipIdx n).foldl (λcs (x:Value×Nat)=>cs.setIfInBounds (i*k+j+x.2) x.1) c).size=c.size/\
   ∀p,((vs.zipIdx n).foldl (λcs (x:Value×Nat)=>cs.setIfInBounds (i*k+j+x.2) x.1) c)[p]?=if i*k+j+n<=p/\p<i*k+j+n+vs.length/\p<c.size then vs[p-(i*k+j+n)]? else c[p]?:=by
  intro vs
  induction vs with
  | nil=>intro n c;refine⟨rfl,λp=>?_⟩;rw[if_neg (by simp;omega)];rfl
  | cons v vs R=>
   intro n c;let ⟨f,g⟩:=R (n+1) (c.setIfInBounds (i*k+j+n) v);simp[List.zipIdx_cons,List.foldl_cons];refine⟨by rw[f];simp,λp=>?_⟩;rw[g p];simp[Vh,List.length_cons];by_cases D:p=i*k+j+n
   .subst D;rw[if_neg J];by_cases E:i*k+j+n<c.size
    .rw[if_pos ⟨J,J,E⟩,SL E];simp
    rw[if_neg J,Lq (by simp;omega),Lq J]
   by_cases m:i*k+j+(n+1)<=p/\p<i*k+j+(n+1)+vs.length/\p<c.size
   .rw[if_pos m,if_pos ⟨J,J,m.2.2⟩];have:p-(i*k+j+n)=(p-(i*k+j+(n+1)))+1:=J;rw[this,List.getElem?_cons_succ]
   rw[if_neg m,if_neg J,Ut (YX D)]
 let ⟨F,H⟩:=Q v.cells.toList 0 c
 have T:v.cells.zipIdx.foldl (λcs (x:Value×Nat)=>cs.setIfInBounds (i*k+j+x.2) x.1) c=(v.cells.toList.zipIdx 0).foldl (λcs (x:Value×Nat)=>cs.setIfInBounds (i*k+j+x.2) x.1) c:=by
  rw[<-Array.foldl_toList];simp
 intro c';have U:c'=(v.cells.toList.zipIdx 0).foldl (λcs (x:Value×Nat)=>cs.setIfInBounds (i*k+j+x.2) x.1) c:=T;rw[U];have I:v.cells.toList.length=a.cells.length:=by simpa using L
 have Z:i*k+k<=c.size:=by
  have f:(i+1)*k<=l.length*k:=Tk k C
  have g:=h.1;rw[WB]at f;omega
 refine⟨F,by rw[F];simpa using h.1,λo V s=>?_⟩;by_cases u:o=i
 .subst u;rw[Xz C]at s;cases s;rw[P];refine⟨by simp;omega,λb r d=>?_⟩;rw[H,I];by_cases m:j<=b/\b<j+a.cells.length
  .have w:a.cells[b-j]?=some r:=by
    rw[Sc,W5 (by simp;omega)]at d;simp[T5]at d;rw[YT J]at d;have:b-min j e.cells.length=b-j:=J;rw[this]at d;exact d
   let ⟨x,f,g,W⟩:=M _ _ w;rw[if_pos ⟨J,J,J⟩];have:o*k+b-(o*k+j+0)=b-j:=J;rw[this,Xf];exact⟨x,f,g,W⟩
  have w:e.cells[b]?=some r:=by
   by_cases X:b<j
   .rw[Sc,YT (by simp;omega),UK X]at d;exact d
   rw[W5 (by simp;omega)]at d;rw[Vf]at d;have:j+a.cells.length+(b-(e.cells.take j++a.cells).length)=b:=by simp;omega
   rw[this]at d;exact d
  rw[if_neg (λx=>m ⟨J,J⟩)];exact(h.2 o e t).2 b r w
 rw[XJ (YX u)]at s;let ⟨f,g⟩:=h.2 o V s;refine⟨f,λb r d=>?_⟩;have Y:b<k:=by rw[<-f];exact(ZT.1 d).1
 rw[H,I,if_neg (λx=>Bz (lo:=j) Y A u ⟨J,J⟩)];exact g b r d
def Xd.Zf{z a}(p:Θ S B σ a z)(r:a.cells.all (Ψ.Y8 σ)=true){k n m}(b:a.cells.length=k)(s:n*k<=m)(d)(t:d=z.cells) :
  Xd S B σ ((Array.range m).map (d[· % d.size]!)) k (List.replicate n a):=by
 let ⟨u,v⟩:=p.cells r;subst t;refine⟨by simpa using s,λi e hi=>?_⟩;let ⟨f,g⟩:=ZT.1 hi;simp at f g;subst g;refine⟨b,λj c h=>?_⟩;let ⟨x,l,Υ,w⟩:=v j c h;have y:j<k:=by rw[<-b];exact(ZT.1 h).1
 have A:i*k+j<m:=by
  have:(i+1)*k<=n*k:=Tk k f;rw[WB]at this;omega
 refine⟨x,?_,Υ,w⟩;rw[NQ,Array.getElem?_range,if_pos A];simp[Option.map_some];have:(i*k+j) % z.cells.size=j:=by
  rw[u,b,Nat.mul_comm,Nat.mul_add_mod];exact Nat.mod_eq_of_lt y
 rw[this];have o:j<z.cells.size:=J;rw[XV o]at l;cases l;rw[getElem!_pos z.cells j o]
def Xd.later{b B' σ'}(d:ZC S b B B' σ σ'){c k l}(h:Xd S B σ c k l):Xd b B' σ' c k l:=
 ⟨h.1,λi e hi=>⟨(h.2 i e hi).1,λj a f=>by let ⟨x,g,m,n⟩:=(h.2 i e hi).2 j a f;exact⟨x,g,m.later d,n⟩⟩⟩
def Xd.one{a v}(b:Θ S B σ a v)(d:a.cells.all (Ψ.Y8 σ)=true):Xd S B σ v.cells a.cells.length [a]:=by
 let ⟨f,g⟩:=b.cells d;refine⟨by simp[f],λi e hi=>?_⟩
 match i with
 | 0=>
  simp at hi;subst hi;refine⟨U,λj c h=>?_⟩;rw[MN,Vu];exact g j c h
 | i+1=>simp at hi
def Mt(p:Holds S B σ H){c k l}(d:Xd S B σ c k l)(t){K E}
  (h:∀r,H.fresh r->Holds S (B++[some (r,c.size)]) (σ++[.cells t k l]) (H.YF r c t)->Ext S B H S (B++[some (r,c.size)]) (H.YF r c t)->ZC S S B (B++[some (r,c.size)]) σ (σ++[.cells t k l])->K r (H.YF r c t)) :
  Ω P (newObj (.cells c t)) H K E:=by
 refine⟨U,λr f=>?_⟩;have s:∀b,(∀N,some (r,c.size)≠some (b,N))->UY H (H.YF r c t) b:=λb u=>by
  have g:b≠r:=λe=>by subst e;exact u _ U
  exact⟨λm=>by simp[Φ.YF,g],by simp[Φ.YF,g],U⟩
 have v:ZC S S B (B++[some (r,c.size)]) σ (σ++[.cells t k l])->VO S (B++[some (r,c.size)]) (σ++[.cells t k l]) (H.YF r c t) (.cells t k l) (some (r,c.size)):=λw=>by
  have n:=d.later w;refine⟨by simp[Φ.YF],d.1,λm I=>⟨c[m],by simp[Φ.YF]⟩,λi j=>(c[i*k+j]?).getD undef,λi e hi=>⟨(n.2 i e hi).1,λj a y=>?_⟩⟩;let ⟨x,o,Υ,A⟩:=(n.2 i e hi).2 j a y;simp[o];exact⟨by simp[Φ.YF,o],Υ,A⟩
 let ⟨C,D,F⟩:=p.push (λb N e=>by cases e;exact f) s v;exact h r f C D F
def KY(a:Holds S B σ H)(c t){K E}
  (h:∀r,Holds (S.lay r c) B σ (H.YF r c t)->Ext S B H (S.lay r c) B (H.YF r c t)->ZC S (S.lay r c) B B σ σ->K r (H.YF r c t)) :
  Ω P (newObj (.cells c t)) H K E:=by
 refine⟨U,λr b=>?_⟩;let ⟨d,e,f⟩:=a.lay (c:=c) (t:=t) b;exact h r d e f
def Bx{r c a k}(f:ZC S (S.lay r c) B B σ σ)(g:Xd S B σ c k [a]):Θ (S.lay r c) B σ (.Κ a.cells) (.pointer (some ⟨r,0,none⟩)):=by
 have e:=g.later f;refine .Κ r 0 (λj=>(c[j]?).getD undef) (λj x d=>?_) (λj x d=>?_)
 .let ⟨y,b,_⟩:=(e.2 0 a U).2 j x d;rw[MN,Vu]at b;simp[ζ.lay,b]
 let ⟨y,b,Υ,_⟩:=(e.2 0 a U).2 j x d;rw[MN,Vu]at b;simp[b];exact Υ
def Hw{r c k cap l}(ex)(f:ZC S (S.lay r c) B B σ σ)(g:Xd S B σ c k l)(h:l.length<=cap)(m:ex=true->cap=l.length):Θ (S.lay r c) B σ (.sl ex k l) (.slice (some ⟨r,0,none⟩) l.length cap):=by
 have a:=g.later f;refine .sl r 0 cap (λi j=>(c[i*k+j]?).getD undef) m h (λi e hi=>(a.2 i e hi).1) (λi e hi j x b=>?_) (λi e hi j x b=>?_)
 .let ⟨y,d,_⟩:=(a.2 i e hi).2 j x b;simp[ζ.lay,d]
 let ⟨y,d,Υ,_⟩:=(a.2 i e hi).2 j x b;simp[d];exact Υ
end
end Go.TL
