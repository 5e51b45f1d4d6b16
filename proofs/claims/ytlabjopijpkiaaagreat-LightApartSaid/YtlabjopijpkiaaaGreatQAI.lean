import Derived.Test.YtlabjopijpkiaaaGreatQAH
set_option maxHeartbeats 16000000
set_option maxRecDepth 20000
set_option linter.unusedSectionVars false
set_option linter.unusedSimpArgs false
set_option linter.unusedVariables false
namespace Go.TL
open Go.Conc
open Go.ConcM (OsLater)
open Go.ConcN (sumTo upd sumTo_upd upd_ne upd_same sumTo_congr le_sumTo)
def ψ.fresh (G:ψ) (r:Nat):Prop:=(∀o,G.aF r o=none)∧G.row r=none∧G.obj r=none∧∀b,r<b→(∀o,G.aF b o=none)∧G.row b=none∧G.obj b=none
def ψ.ug (G:ψ) (a:Addr) (v:Value):ψ:={G with aF:=fun b o=>if b=a.block∧o=a.off then some (v,true) else G.aF b o}
def ψ.dn (G:ψ) (r:Nat) (c:Array Value) (t:TypeId):ψ:=⟨fun b o=>if b=r then(c[o]?).map (·,true) else G.aF b o,fun b=>if b=r then some (t,c.size) else G.row b,G.obj⟩
def ψ.bD (G:ψ) (r:Nat) (x:Obj):ψ:={G with obj:=fun b=>if b=r then some x else G.obj b}
def One:Value→Prop
 | .agg _|.tuple _=>False
 | _=>True
def ς {α:Type} (P:Program):Sem α→ψ→(α→ψ→Prop)→(Value→ψ→Prop)→Prop
 | .pure a,G,K,_=>K a G
 | .load m a k,G,K,E=>m=.plain∧a.spot=none∧∃v p,G.aF a.block a.off=some (v,p)∧ς P (k v) G K E
 | .store m a v k,G,K,E=>m=.plain∧a.spot=none∧G.owns a.block a.off∧(∃t n,G.row a.block=some (t,n))∧One v∧ς P k (G.ug a v) K E
 | .new (.cells c t dC) k,G,K,E=>dC=(0,0)∧∀r,G.fresh r→ς P (k r) (G.dn r c t) K E
 | .new o k,G,K,E=>∀r,G.fresh r→ς P (k r) (G.bD r o) K E
 | .shape r k,G,K,E=>∃t n,G.row r=some (t,n)∧ς P (k (some (t,n))) G K E
 | .freeze _ _ _,_,_,_=>False
 | .frozen a k,G,K,E=>(∃t n,G.row a.block=some (t,n))∧ς P (k false) G K E
 | .getObj r k,G,K,E=>∃o,G.obj r=some o∧o.isChan=false∧ς P (k o) G K E
 | .setObj r o k,G,K,E=>G.eQ r∧Obj.qW o=false∧o.isChan=false∧ς P k (G.bD r o) K E
 | .choose q k,G,K,E=>if q.forced then ς P (k 0) G K E else ∀n,ς P (k (q.cut n)) G K E
 | .sys _ _,_,_,_=>False
 | .program k,G,K,E=>ς P (k P) G K E
 | .mark m k,G,K,E=>m=.noRoom∧ς P k G K E
 | .halt (.panic v),G,_,E=>E v G
 | .halt _,_,_,_=>False
structure dz (G0:ψ) (w0:World) (G:ψ) (w:World) (es:Array Event):Prop where
 fit:Fits G w
 keeps:fe G0.owns G0.eQ w0 w
 jQ:AJ G0 G w0.heap.size
 fQ:∀e∈es,gT G0 w0.heap.size w.heap.size e
theorem dz.start {G:ψ} {w:World} (h:Fits G w):dz G w G w #[]:=
 ⟨h,fe.refl _ _ _,⟨fun b o v p h=>.inr ⟨v,p,h,id⟩,fun b h=>.inr h⟩,fun e he=>by simp at he⟩
section
variable {G0 G:ψ} {w0 w:World} {es:Array Event}
theorem Fits.bare (h:Fits G w) {b:Nat} (hb:w.heap.size≤b):(∀o,G.aF b o=none)∧G.row b=none∧G.obj b=none:=by
 refine⟨fun o=>?_,?_,?_⟩
 ·cases η:G.aF b o with
  | none=>rfl
  | some x=>obtain⟨c,t,dC,hb,_⟩:=pQ (h.aF _ _ x.1 x.2 η);have:=ff hb;omega
 ·cases η:G.row b with
  | none=>rfl
  | some x=>obtain⟨c,hb,_⟩:=h.row _ x.1 x.2 η;have:=ff hb;omega
 ·cases η:G.obj b with
  | none=>rfl
  | some x=>have:=ff (h.obj _ x η).1;omega
theorem Fits.fresh (h:Fits G w):G.fresh w.heap.size:=
 ⟨(h.bare (Nat.le_refl _)).1,(h.bare (Nat.le_refl _)).2.1,(h.bare (Nat.le_refl _)).2.2,fun _ hb=>h.bare (Nat.le_of_lt hb)⟩
theorem ψ.Fo {H H':ψ} (R:∀b o,H'.aF b o=none→H.aF b o=none) (γ:∀b,H'.row b=none→H.row b=none) (ο:∀b,H'.obj b=none→H.obj b=none) (r:Nat) (h:H'.fresh r):H.fresh r:=
 ⟨fun o=>R _ _ (h.1 o),γ _ h.2.1,ο _ h.2.2.1,fun b hb=>⟨fun o=>R _ _ ((h.2.2.2 b hb).1 o),γ _ (h.2.2.2 b hb).2.1,ο _ (h.2.2.2 b hb).2.2⟩⟩
theorem ψ.Ky {H:ψ} {r:Nat} (κ:H.fresh r) (c:Array Value) (t:TypeId):∀b,(H.dn r c t).fresh b→H.fresh b:=
 ψ.Fo (fun b o h=>by
  by_cases e:b=r
  ·subst e;exact κ.1 o
  ·simpa[ψ.dn,e] using h) (fun b h=>by
  by_cases e:b=r
  ·subst e;exact κ.2.1
  ·simpa[ψ.dn,e] using h) (fun b h=>h)
theorem ψ.Fp {H:ψ} {r:Nat} {x:Obj}:∀b,(H.bD r x).fresh b→H.fresh b:=
 ψ.Fo (fun b o h=>h) (fun b h=>h) (fun b h=>by
  by_cases e:b=r
  ·subst e;simp[ψ.bD] at h
  ·simpa[ψ.bD,e] using h)
theorem gT.mono {n iq Kz:Nat} {e:Event} (h:gT G n iq e) (Η:iq≤Kz):gT G n Kz e:=by
 obtain⟨loc,wr,nT⟩:=e;cases loc with
 | cell a=>exact h.imp (fun x=>⟨x.1,by omega⟩) id
 | obj r=>exact⟨h.1,h.2.imp (fun x=>⟨x.1,by omega⟩) id⟩
 | _=>exact h
theorem dz.read (h:dz G0 w0 G w es) {a:Addr} {v:Value} {p:Bool} (μ:a.spot=none) (η:G.aF a.block a.off=some (v,p)):w.cell? a=some v∧dz G0 w0 G w (es.push ⟨.cell a,false,false⟩):=by
 obtain⟨b,o,sp⟩:=a;simp only at μ η;subst μ;have hv:=h.fit.aF b o v p η;refine⟨hv,h.fit,h.keeps,h.jQ,fun e he=>?_⟩;rcases Array.mem_push.1 he with he|rfl
 ·exact h.fQ e he
 ·rcases h.jQ.aF b o v p η with Η|⟨v0,fg,ae,_⟩
  ·obtain⟨c,t,dC,hb,_⟩:=pQ hv;exact .inl ⟨Η,ff hb⟩
  ·exact .inr ⟨rfl,_,ae⟩
theorem heap_setCell {a:Addr} {v:Value} {c:Array Value} {t:TypeId} {dC:Nat×Nat} (μ:a.spot=none) (hb:w.heap[a.block]?=some (.cells c t dC)):(w.setCell a v).heap=w.heap.setIfInBounds a.block (.cells (c.setIfInBounds a.off v) t dC):=by
 obtain⟨b,o,sp⟩:=a;simp only at μ hb;subst μ;have aE:=ff hb;simp only[World.setCell];apply Array.ext_getElem?;intro j;rw[Array.getElem?_modify];by_cases e:b=j
 ·subst e;rw[Array.getElem?_setIfInBounds_self_of_lt aE,if_pos rfl,hb];simp
 ·rw[Array.getElem?_setIfInBounds_ne e,if_neg e]
theorem dz.write (h:dz G0 w0 G w es) {a:Addr} {v:Value} (μ:a.spot=none) (η:G.owns a.block a.off):(∃u,w.cell? a=some u)∧dz G0 w0 (G.ug a v) (w.setCell a v) (es.push ⟨.cell a,true,false⟩):=by
 obtain⟨b,o,sp⟩:=a;simp only at μ η;subst μ;obtain⟨u,hu⟩:=η;have hv:=h.fit.aF b o u true hu;obtain⟨c,t,dC,hb,RV⟩:=pQ hv;have aE:=ff hb;have aS:=heap_setCell (w:=w) (a:=⟨b,o,none⟩) (v:=v) rfl hb;have cd:(w.setCell ⟨b,o,none⟩ v).heap.size=w.heap.size:=by rw[aS];simp
 have oY:(w.setCell ⟨b,o,none⟩ v).heap[b]?=some (.cells (c.setIfInBounds o v) t dC):=by rw[aS,Array.getElem?_setIfInBounds_self_of_lt aE]
 have oZ:∀j,b≠j→(w.setCell ⟨b,o,none⟩ v).heap[j]?=w.heap[j]?:=fun j ε=>by rw[aS,Array.getElem?_setIfInBounds_ne ε]
 have Β:o<c.size:=(Array.getElem?_eq_some_iff.1 RV).1
 have KA:b<w0.heap.size→G0.owns b o:=fun i'=>by
  rcases h.jQ.aF b o u true hu with Η|⟨v0,fg,ae,χ⟩
  ·omega
  ·exact⟨v0,by rw[ae,χ rfl]⟩
 refine⟨⟨u,hv⟩,⟨fun Φ o' eZ eT aZ=>?_,fun Φ t' iq κ=>?_,fun Φ x δ=>?_⟩,⟨by rw[cd];exact h.keeps.size,fun Φ c' t' KB dv=>?_,fun Φ x dv δ Η=>?_,h.keeps.os,h.keeps.output,h.keeps.tape⟩,⟨fun Φ o' eZ eT aZ=>?_,h.jQ.obj⟩,fun e he=>?_⟩
 ·simp only[ψ.ug] at aZ;by_cases e:Φ=b∧o'=o
  ·obtain⟨rfl,rfl⟩:=e;rw[if_pos ⟨rfl,rfl⟩] at aZ;cases aZ;exact mX oY (by rw[Array.getElem?_setIfInBounds_self_of_lt Β])
  ·rw[if_neg e] at aZ;have:=h.fit.aF Φ o' eZ eT aZ;by_cases Ε:Φ=b
   ·subst Ε;have Δ:o≠o':=fun x=>e ⟨rfl,x.symm⟩;obtain⟨c2,t2,KC,fY,m6⟩:=pQ this;rw[hb] at fY;cases fY;exact mX oY (by rw[Array.getElem?_setIfInBounds_ne Δ];exact m6)
   ·obtain⟨c2,t2,KC,fY,m6⟩:=pQ this;exact mX (by rw[oZ Φ (Ne.symm Ε)];exact fY) m6
 ·obtain⟨c2,fY,dI⟩:=h.fit.row Φ t' iq κ;by_cases Ε:Φ=b
  ·subst Ε;rw[hb] at fY;cases fY;exact⟨_,oY,by simpa using dI⟩
  ·exact⟨c2,by rw[oZ Φ (Ne.symm Ε)];exact fY,dI⟩
 ·obtain⟨fY,m7⟩:=h.fit.obj Φ x δ;have Ε:b≠Φ:=fun e=>by subst e;rw[hb] at fY;cases fY;cases m7
  exact⟨by rw[oZ Φ Ε];exact fY,m7⟩
 ·obtain⟨c2,R,γ,ο⟩:=h.keeps.cells Φ c' t' KB dv;by_cases Ε:Φ=b
  ·subst Ε;rw[hb] at R;cases R;refine⟨_,oY,by simpa using γ,fun o' iX=>?_⟩;have Δ:o≠o':=fun e=>by subst e;exact iX (KA (ff dv))
   rw[Array.getElem?_setIfInBounds_ne Δ];exact ο o' iX
  ·exact⟨c2,by rw[oZ Φ (Ne.symm Ε)];exact R,γ,ο⟩
 ·have R:=h.keeps.me Φ x dv δ Η
  have Ε:b≠Φ:=fun e=>by subst e;rw[hb] at R;cases R;cases δ
  rw[oZ Φ Ε];exact R
 ·simp only[ψ.ug] at aZ;by_cases e:Φ=b∧o'=o
  ·obtain⟨rfl,rfl⟩:=e;rw[if_pos ⟨rfl,rfl⟩] at aZ;cases aZ;rcases h.jQ.aF _ _ _ _ hu with Η|⟨v0,fg,ae,χ⟩
   ·exact .inl Η
   ·exact .inr ⟨v0,fg,ae,χ⟩
  ·rw[if_neg e] at aZ;exact h.jQ.aF Φ o' eZ eT aZ
 ·rw[cd];rcases Array.mem_push.1 he with he|rfl
  ·exact h.fQ e he
  ·rcases Nat.lt_or_ge b w0.heap.size with i'|i'
   ·refine .inr ⟨rfl,?_⟩;exact KA i'
   ·exact .inl ⟨i',aE⟩
theorem yo {x:Obj} {j:Nat} (ε:j<w.heap.size):(w.heap.push x)[j]?=w.heap[j]?:=by
 rw[Array.getElem?_push,if_neg (by omega)]
theorem Bf {x:Obj}:(w.heap.push x)[w.heap.size]?=some x:=by simp
theorem dz.new (h:dz G0 w0 G w es) {x:Obj} {G':ψ} (η:∀b o,b≠w.heap.size→G'.aF b o=G.aF b o) (κ:∀b,b≠w.heap.size→G'.row b=G.row b) (Β:∀b,b≠w.heap.size→G'.obj b=G.obj b)
  (Ρ:Fits {aF:=fun b o=>if b=w.heap.size then G'.aF b o else none,row:=fun b=>if b=w.heap.size then G'.row b else none,obj:=fun b=>if b=w.heap.size then G'.obj b else none} {w with heap:=w.heap.push x}) :
  dz G0 w0 G' {w with heap:=w.heap.push x} es:=by
 have hle:=h.keeps.size;refine⟨⟨fun b o v p hb=>?_,fun b t n hb=>?_,fun b y hb=>?_⟩,⟨by simp;omega,fun b c t dC hb=>?_,fun b y hb Ο Η=>?_,h.keeps.os,h.keeps.output,h.keeps.tape⟩,⟨fun b o v p hb=>?_,fun b ⟨y,hb⟩=>?_⟩,fun e he=>(h.fQ e he).mono (by simp)⟩
 ·by_cases e:b=w.heap.size
  ·exact Ρ.aF b o v p (by simp only[e,if_true];rw[←e];exact hb)
  ·rw[η b o e] at hb;obtain⟨c2,t2,KC,fY,m6⟩:=pQ (h.fit.aF b o v p hb);exact mX (w:={w with heap:=w.heap.push x}) (by show(w.heap.push x)[b]?=_;rw[yo (ff fY)];exact fY) m6
 ·by_cases e:b=w.heap.size
  ·exact Ρ.row b t n (by simp only[e,if_true];rw[←e];exact hb)
  ·rw[κ b e] at hb;obtain⟨c2,fY,dI⟩:=h.fit.row b t n hb;exact⟨c2,by show(w.heap.push x)[b]?=_;rw[yo (ff fY)];exact fY,dI⟩
 ·by_cases e:b=w.heap.size
  ·exact Ρ.obj b y (by simp only[e,if_true];rw[←e];exact hb)
  ·rw[Β b e] at hb;obtain⟨fY,Ο⟩:=h.fit.obj b y hb;exact⟨by show(w.heap.push x)[b]?=_;rw[yo (ff fY)];exact fY,Ο⟩
 ·obtain⟨c2,R,γ,ο⟩:=h.keeps.cells b c t dC hb;exact⟨c2,by show(w.heap.push x)[b]?=_;rw[yo (ff R)];exact R,γ,ο⟩
 ·have R:=h.keeps.me b y hb Ο Η
  show(w.heap.push x)[b]?=_;rw[yo (ff R)];exact R
 ·by_cases e:b=w.heap.size
  ·exact .inl (by omega)
  ·rw[η b o e] at hb;exact h.jQ.aF b o v p hb
 ·by_cases e:b=w.heap.size
  ·exact .inl (by omega)
  ·rw[Β b e] at hb;exact h.jQ.obj b ⟨y,hb⟩
end
section
variable {G0 G:ψ} {w0 w:World} {es:Array Event} {P:Program}
theorem dz.push (h:dz G0 w0 G w es) {e:Event} (he:gT G0 w0.heap.size w.heap.size e):dz G0 w0 G w (es.push e):=
 ⟨h.fit,h.keeps,h.jQ,fun x δ=>(Array.mem_push.1 δ).elim (h.fQ x) fun y=>y▸he⟩
theorem dz.draw (h:dz G0 w0 G w es) (n:Nat):dz G0 w0 G {w with drawn:=n} es:=
 ⟨⟨h.fit.aF,h.fit.row,h.fit.obj⟩,⟨h.keeps.size,h.keeps.cells,h.keeps.me,h.keeps.os,h.keeps.output,h.keeps.tape⟩,h.jQ,h.fQ⟩
theorem dz.row (h:dz G0 w0 G w es) (c:Array Value) (t:TypeId):dz G0 w0 (G.dn w.heap.size c t) {w with heap:=w.heap.push (.cells c t (0,0))} es:=by
 refine h.new (fun b o hb=>by simp[ψ.dn,hb]) (fun b hb=>by simp[ψ.dn,hb]) (fun b hb=>rfl) ⟨fun b o v p hb=>?_,fun b t' n hb=>?_,fun b y hb=>?_⟩
 ·by_cases e:b=w.heap.size
  ·simp[ψ.dn,e] at hb;obtain⟨j9,fY,rfl,rfl⟩:=hb;rw[e];exact mX (w:={w with heap:=w.heap.push (.cells c t (0,0))}) Bf fY
  ·simp[e] at hb
 ·by_cases e:b=w.heap.size
  ·simp[ψ.dn,e] at hb;obtain⟨rfl,rfl⟩:=hb;rw[e];exact⟨c,Bf,rfl⟩
  ·simp[e] at hb
 ·by_cases e:b=w.heap.size
  ·simp only[e,if_true,ψ.dn] at hb;rw[h.fit.fresh.2.2.1] at hb;cases hb
  ·simp[e] at hb
theorem dz.obj (h:dz G0 w0 G w es) {x:Obj} (δ:Obj.qW x=false):dz G0 w0 (G.bD w.heap.size x) {w with heap:=w.heap.push x} es:=by
 refine h.new (fun b o hb=>rfl) (fun b hb=>rfl) (fun b hb=>by simp[ψ.bD,hb]) ⟨fun b o v p hb=>?_,fun b t' n hb=>?_,fun b y hb=>?_⟩
 ·by_cases e:b=w.heap.size
  ·simp only[e,if_true,ψ.bD] at hb;rw[h.fit.fresh.1] at hb;cases hb
  ·simp[e] at hb
 ·by_cases e:b=w.heap.size
  ·simp only[e,if_true,ψ.bD] at hb;rw[h.fit.fresh.2.1] at hb;cases hb
  ·simp[e] at hb
 ·by_cases e:b=w.heap.size
  ·simp[ψ.bD,e] at hb;subst hb;rw[e];exact⟨Bf,δ⟩
  ·simp[e] at hb
theorem dz.setObj (h:dz G0 w0 G w es) {r:Nat} {x:Obj} (κ:G.eQ r) (δ:Obj.qW x=false):(∃y,w.heap[r]?=some y∧Obj.qW y=false)∧dz G0 w0 (G.bD r x) {w with heap:=w.heap.setIfInBounds r x} (es.push ⟨.obj r,true,false⟩):=by
 obtain⟨y,Ο⟩:=κ;obtain⟨hb,Bg⟩:=h.fit.obj r y Ο;have aE:=ff hb;have oY:(w.heap.setIfInBounds r x)[r]?=some x:=Array.getElem?_setIfInBounds_self_of_lt aE;have oZ:∀j,r≠j→(w.heap.setIfInBounds r x)[j]?=w.heap[j]?:=fun j ε=>Array.getElem?_setIfInBounds_ne ε;have Fq:∀b c t dC,w.heap[b]?=some (.cells c t dC)→r≠b:=fun b c t dC η e=>by subst e;rw[hb] at η;cases η;cases Bg
 refine⟨⟨y,hb,Bg⟩,⟨fun b o v p η=>?_,fun b t n η=>?_,fun b z Ν=>?_⟩,⟨by simp;exact h.keeps.size,fun b c t dC η=>?_,fun b z η Ν Η=>?_,h.keeps.os,h.keeps.output,h.keeps.tape⟩,⟨h.jQ.aF,fun b Ν=>?_⟩,fun e he=>?_⟩
 ·obtain⟨c,t,dC,R,γ⟩:=pQ (h.fit.aF b o v p η);exact mX (w:={w with heap:=w.heap.setIfInBounds r x}) (by show(w.heap.setIfInBounds r x)[b]?=_;rw[oZ b (Fq b c t dC R)];exact R) γ
 ·obtain⟨c,R,γ⟩:=h.fit.row b t n η;exact⟨c,by show(w.heap.setIfInBounds r x)[b]?=_;rw[oZ b (Fq b c t _ R)];exact R,γ⟩
 ·by_cases e:b=r
  ·subst e;simp[ψ.bD] at Ν;subst Ν;exact⟨oY,δ⟩
  ·simp[ψ.bD,e] at Ν;obtain⟨R,γ⟩:=h.fit.obj b z Ν;exact⟨by show(w.heap.setIfInBounds r x)[b]?=_;rw[oZ b (Ne.symm e)];exact R,γ⟩
 ·obtain⟨c2,R,γ,ο⟩:=h.keeps.cells b c t dC η;exact⟨c2,by show(w.heap.setIfInBounds r x)[b]?=_;rw[oZ b (Fq b c2 t dC R)];exact R,γ,ο⟩
 ·have R:=h.keeps.me b z η Ν Η
  have e:r≠b:=fun e=>by
   subst e;rcases h.jQ.obj r ⟨y,Ο⟩ with δ|δ
   ·have:=ff η;omega
   ·exact Η δ
  show(w.heap.setIfInBounds r x)[b]?=_;rw[oZ b e];exact R
 ·by_cases e:b=r
  ·subst e;exact h.jQ.obj b ⟨y,Ο⟩
  ·obtain⟨z,Ν⟩:=Ν;simp[ψ.bD,e] at Ν;exact h.jQ.obj b ⟨z,Ν⟩
 ·simp only[Array.size_setIfInBounds];rcases Array.mem_push.1 he with he|rfl
  ·exact h.fQ e he
  ·exact⟨rfl,(h.jQ.obj r ⟨y,Ο⟩).imp (fun δ=>⟨δ,aE⟩) id⟩
theorem ς.sound {α:Type} {K:α→ψ→Prop} {E:Value→ψ→Prop} (s:Sem α):∀{G:ψ} {w:World} {es:Array Event},ς P s G K E→dz G0 w0 G w es→
  ∃G' w' es',dz G0 w0 G' w' es'∧((∃a,s.runT P w es=(.ok a w',es')∧K a G')∨(∃v,s.runT P w es=(.halt (.panic v) w',es')∧E v G')):=by
 induction s with
 | pure a=>intro G w es h hu;exact⟨G,w,es,hu,.inl ⟨a,rfl,h⟩⟩
 | load m a k Γ=>
  intro G w es h hu;obtain⟨rfl,μ,v,p,η,υ⟩:=h;obtain⟨hv,uh⟩:=hu.read μ η;obtain⟨G',w',es',R,γ⟩:=Γ v υ uh;refine⟨G',w',es',R,?_⟩;simp only[Sem.runT,hv];exact γ
 | store m a v k Γ=>
  intro G w es h hu;obtain⟨rfl,μ,η,⟨t,n,bH⟩,Bh,υ⟩:=h;obtain⟨⟨u,hv⟩,uh⟩:=hu.write (v:=v) μ η;obtain⟨G',w',es',R,γ⟩:=Γ υ uh;have KD:w.frozen? a=false:=by
   obtain⟨c,hb,_⟩:=hu.fit.row a.block t n bH;simp[World.frozen?,hb]
  refine⟨G',w',es',R,?_⟩;have e:(Sem.store .plain a v k).runT P w es=k.runT P (w.setCell a v) (es.push ⟨.cell a,true,false⟩):=by
   cases v<;>first|exact Bh.elim|(simp only[Sem.runT,hv,KD];rfl)
  rw[e];exact γ
 | new o k Γ=>
  intro G w es h hu;cases o with
  | cells c t dC=>
   obtain⟨rfl,υ⟩:=h;obtain⟨G',w',es',R,γ⟩:=Γ w.heap.size (υ _ hu.fit.fresh) (hu.row c t);exact⟨G',w',es',R,γ⟩
  | _=>
   obtain⟨G',w',es',R,γ⟩:=Γ w.heap.size (h _ hu.fit.fresh) (hu.obj rfl);exact⟨G',w',es',R,γ⟩
 | shape r k Γ=>
  intro G w es h hu;obtain⟨t,n,κ,υ⟩:=h;have e:w.shape? r=some (t,n):=by
   obtain⟨c,hb,ξ⟩:=hu.fit.row r t n κ;simp[World.shape?,hb,ξ]
  obtain⟨G',w',es',R,γ⟩:=Γ _ υ hu;refine⟨G',w',es',R,?_⟩;simp only[Sem.runT,e];exact γ
 | freeze a n k Γ=>intro G w es h hu;exact h.elim
 | frozen a k Γ=>
  intro G w es h hu;obtain⟨⟨t,n,κ⟩,υ⟩:=h;have e:w.frozen? a=false:=by
   obtain⟨c,hb,_⟩:=hu.fit.row a.block t n κ;simp[World.frozen?,hb]
  obtain⟨G',w',es',R,γ⟩:=Γ _ υ hu;refine⟨G',w',es',R,?_⟩;simp only[Sem.runT,e];exact γ
 | getObj r k Γ=>
  intro G w es h hu;obtain⟨o,Β,n0,υ⟩:=h;obtain⟨hb,bY⟩:=hu.fit.obj r o Β;have aE:=ff hb;have uh:=hu.push (e:=⟨.obj r,false,false⟩) ⟨rfl,(hu.jQ.obj r ⟨o,Β⟩).imp (fun δ=>⟨δ,aE⟩) id⟩;obtain⟨G',w',es',R,γ⟩:=Γ _ υ uh;refine⟨G',w',es',R,?_⟩;have e:(Sem.getObj r k).runT P w es=(k o).runT P w (es.push ⟨.obj r,false,false⟩):=by
   cases o<;>first|(simp only[Sem.runT,hb];first|done|rfl|(rw[n0];done))|(cases bY;done)
  rw[e];exact γ
 | setObj r o k Γ=>
  intro G w es h hu;obtain⟨κ,bY,n0,υ⟩:=h;obtain⟨⟨y,hb,Bg⟩,uh⟩:=hu.setObj κ bY;obtain⟨G',w',es',R,γ⟩:=Γ υ uh;refine⟨G',w',es',R,?_⟩;have e:(Sem.setObj r o k).runT P w es=k.runT P {w with heap:=w.heap.setIfInBounds r o} (es.push ⟨.obj r,true,false⟩):=by
   cases y<;>first|(simp only[Sem.runT,hb,n0];done)|(cases Bg;done)
  rw[e];exact γ
 | choose q k Γ=>
  intro G w es h hu;simp only[ς] at h;by_cases Υ:q.forced=true
  ·rw[if_pos Υ] at h;obtain⟨G',w',es',R,γ⟩:=Γ _ h hu;refine⟨G',w',es',R,?_⟩;simp only[Sem.runT,Υ,if_true];exact γ
  ·rw[if_neg Υ] at h;obtain⟨G',w',es',R,γ⟩:=Γ _ (h (w.tape w.drawn q)) (hu.draw (w.drawn+1));refine⟨G',w',es',R,?_⟩;simp only[Sem.runT,Υ];exact γ
 | sys c k Γ=>intro G w es h hu;exact h.elim
 | program k Γ=>
  intro G w es h hu;obtain⟨G',w',es',R,γ⟩:=Γ P h hu;exact⟨G',w',es',R,γ⟩
 | mark m k Γ=>
  intro G w es h hu;obtain⟨rfl,υ⟩:=h;obtain⟨G',w',es',R,γ⟩:=Γ υ (hu.push (e:=⟨.mark .noRoom,false,true⟩) rfl);exact⟨G',w',es',R,γ⟩
 | halt x=>
  intro G w es h hu;cases x<;>first|exact h.elim|skip
  exact⟨G,w,es,hu,.inr ⟨_,rfl,h⟩⟩
theorem mem_seen {fn:FuncId} {e:Event} (h:e∈seen P fn es):e∈es:=by
 unfold seen at h;obtain⟨l⟩:=es;have key:∀(l:List Event) (q:Bool) (kept:Array Event) (x:Event),x∈(l.foldl (fun(s:Bool×Array Event) e=>match e.loc with
   | .mark (Mark.extern f)=>((P.funcs[f]?).any (·.norace),s.2)
   | _=>(s.1,if s.1&&!e.sync then s.2 else s.2.push e)) (q,kept)).2→x∈kept∨x∈l:=by
  intro l
  induction l with
  | nil=>intro q kept x δ;exact .inl δ
  | cons y l Γ=>
   intro q kept x δ;rw[List.foldl_cons] at δ;rcases Γ _ _ x δ with g8|g8
   ·split at g8
    ·exact .inl g8
    ·simp only at g8;split at g8
     ·exact .inl g8
     ·rcases Array.mem_push.1 g8 with AW|rfl
      ·exact .inl AW
      ·exact .inr (by simp)
   ·exact .inr (by simp[g8])
 simp only[List.foldl_toArray'] at h;rcases key l _ #[] e h with δ|δ
 ·simp at δ
 ·simpa using δ
end
def cf (P:Program) (Q:Value→Prop) (mn:Bool) (y:aR) (ao:Frame) (cs:List Frame) (H:ψ):Prop:=Goes P Q mn (Go.Conc.G ao cs) {y with G:=H}
def gy:Type:=aR→Prop
class bd where
 q:gy→Prop
structure Seq [bd] (x:gy):Prop where
 cls:bd.q x
 rel:∀y,x y→y.rel=false
 aC:∀y,x y→y.aC=fun _=>none
def aJ (P:Program) (Q:Value→Prop) (mn:Bool) (x:gy) (ao:Frame) (cs:List Frame) (H:ψ):Prop:=∀y,x y→cf P Q mn y ao cs H
def ao (b:Frame) (t:Array Value) (k:List Item):Frame:={b with tmps:=t,todo:=k}
section
variable {P:Program} {Q:Value→Prop} {mn:Bool} {x:gy} {cs:List Frame} {H:ψ} {b f:Frame} {t:Array Value} {k:List Item}
theorem cf.own {y:aR} (dQ:y.rel=false) (fu:y.aC=fun _=>none) (h:∀w,Fits H w→∃f' cs' w' es H',stepG P mn (Go.Conc.G f cs) w=.go (Go.Conc.G f' cs') w' es∧dz H w H' w' es∧cf P Q mn y f' cs' H'):cf P Q mn y f cs H:=by
 refine Goes.step (fun κ=>by rw[show({y with G:=H}:aR).rel=y.rel from rfl,dQ] at κ;cases κ) (.inr ⟨⟨rfl,rfl⟩,.inl fun w Ρ hv=>?_⟩);obtain⟨f',cs',w',es,H',R,γ,ο⟩:=h w Ρ;rw[R];refine⟨H',y.aC,⟨rfl,rfl⟩,γ.keeps,γ.fit,fun b c t hb=>?_,γ.jQ,fun b c hb=>.inl hb,fun e he=>?_,fun b c hb=>?_,ο⟩
 ·rw[fu] at hb;cases hb
 ·rw[if_neg (by rw[show({y with G:=H}:aR).rel=y.rel from rfl,dQ];simp)];exact γ.fQ e he
 ·rw[fu] at hb;cases hb
variable [bd]
theorem aJ.own (δ:Seq x) (h:∀w,Fits H w→∃f' cs' w' es H',stepG P mn (Go.Conc.G f cs) w=.go (Go.Conc.G f' cs') w' es∧dz H w H' w' es∧aJ P Q mn x f' cs' H'):aJ P Q mn x f cs H:=
 fun y Ο=>.own (δ.rel y Ο) (δ.aC y Ο) fun w Ρ=>let ⟨f',cs',w',es,H',a,b,c⟩:=h w Ρ;⟨f',cs',w',es,H',a,b,c y Ο⟩
theorem aJ.still (δ:Seq x) {f':Frame} {cs':List Frame} (ξ:∀w,stepG P mn (Go.Conc.G f cs) w=.go (Go.Conc.G f' cs') w #[]) (h:aJ P Q mn x f' cs' H):aJ P Q mn x f cs H:=
 .own δ fun w Ρ=>⟨f',cs',w,#[],H,ξ w,.start Ρ,h⟩
theorem iB (hb:b.mode=.run) (w:World):stepG P mn (Go.Conc.G (ao b t k) cs) w=stepG.exec P mn true (ao b t k) cs none w:=by
 obtain⟨fn,vV,td,RX,sD,kd,ro⟩:=b;simp only at hb;subst hb;rfl
section RY
variable (δ:Seq x) (hb:b.mode=.run)
include δ hb
theorem aJ.to {Ω:List Item} (ξ:∀w,stepG.exec P mn true (ao b t k) cs none w=.go (Go.Conc.G (ao b t Ω) cs) w #[]) (h:aJ P Q mn x (ao b t Ω) cs H):aJ P Q mn x (ao b t k) cs H:=
 .still δ (fun w=>(iB hb w).trans (ξ w)) h
theorem aJ.skip (h:aJ P Q mn x (ao b t k) cs H):aJ P Q mn x (ao b t (.code .skip::k)) cs H:=.to δ hb (fun _=>rfl) h
theorem aJ.inBlock {l:Nat} (h:aJ P Q mn x (ao b t k) cs H):aJ P Q mn x (ao b t (.inBlock l::k)) cs H:=.to δ hb (fun _=>rfl) h
theorem aJ.seq {a c:Code} (h:aJ P Q mn x (ao b t (.code a::.code c::k)) cs H):aJ P Q mn x (ao b t (.code (.seq a c)::k)) cs H:=.to δ hb (fun _=>rfl) h
theorem aJ.block {l:Nat} {c:Code} (h:aJ P Q mn x (ao b t (.code c::.inBlock l::k)) cs H):aJ P Q mn x (ao b t (.code (.block l c)::k)) cs H:=.to δ hb (fun _=>rfl) h
theorem aJ.loop {c:Code} (h:aJ P Q mn x (ao b t (.code c::.inLoop c::k)) cs H):aJ P Q mn x (ao b t (.code (.loop c)::k)) cs H:=.to δ hb (fun _=>rfl) h
theorem aJ.inLoop {c:Code} (h:aJ P Q mn x (ao b t (.code c::.inLoop c::k)) cs H):aJ P Q mn x (ao b t (.inLoop c::k)) cs H:=.to δ hb (fun _=>rfl) h
theorem aJ.region {id:Nat} {ops:Array Oper} (h:aJ P Q mn x (ao b t (.inRegion ops (List.range ops.size)::k)) cs H):aJ P Q mn x (ao b t (.code (.region id ops false)::k)) cs H:=.to δ hb (fun _=>rfl) h
theorem aJ.bB {ops:Array Oper} (h:aJ P Q mn x (ao b t k) cs H):aJ P Q mn x (ao b t (.inRegion ops []::k)) cs H:=.to δ hb (fun _=>rfl) h
theorem aJ.cond {c:Operand} {a e:Code} {v:Bool} (η:(ao b t k).eval c=.bool v) (h:aJ P Q mn x (ao b t (.code (if v then a else e)::k)) cs H):aJ P Q mn x (ao b t (.code (.cond c a e)::k)) cs H:=by
 refine .to δ hb (fun w=>?_) h;have aZ:(ao b t (.code (.cond c a e)::k)).eval c=.bool v:=η;unfold stepG.exec;simp only[ao] at aZ ⊢;rw[aZ];rfl
theorem aJ.exit {l:Nat} {Ω:List Item} (he:exitTo l k=some Ω) (h:aJ P Q mn x (ao b t Ω) cs H):aJ P Q mn x (ao b t (.code (.exit l)::k)) cs H:=by
 refine .to δ hb (fun w=>?_) h;unfold stepG.exec;simp only[ao,he,Option.elim];rfl
theorem aJ.draw {id:Nat} {ops:Array Oper} (h:∀n,aJ P Q mn x (ao b t (.inRegion ops (Region.schedule (P.follows .mixedOrders) ops n)::k)) cs H):aJ P Q mn x (ao b t (.code (.region id ops true)::k)) cs H:=by
 refine .own δ fun w Ρ=>⟨ao b t (.inRegion ops (Region.schedule (P.follows .mixedOrders) ops (w.tape w.drawn (.order b.fn id)))::k),cs,{w with drawn:=w.drawn+1},#[],H,?_,(dz.start Ρ).draw _,h _⟩;rw[iB hb];rfl
theorem aJ.ret (κ:b.roundOf=none) (h:aJ P Q mn x {ao b t (.code .ret::k) with mode:=.returning} cs H):aJ P Q mn x (ao b t (.code .ret::k)) cs H:=by
 refine .still δ (fun w=>?_) h;rw[iB hb];unfold stepG.exec;simp only[ao,κ];rfl
theorem aJ.rb (κ:b.roundOf=none) (h:aJ P Q mn x {ao b t [] with mode:=.returning} cs H):aJ P Q mn x (ao b t []) cs H:=by
 refine .still δ (fun w=>?_) h;rw[iB hb];unfold stepG.exec;simp only[ao,κ];rfl
end RY
end
end Go.TL
namespace Go.TL
open Go.Conc
open Go.ConcM (OsLater)
open Go.ConcN (sumTo upd sumTo_upd upd_ne upd_same sumTo_congr le_sumTo)
variable [bd]
def bk (t:Array Value):Operand→Value
 | .tmp n=>t.getD n undef
 | .const v=>v
 | .global g=>.pointer (some ⟨g,0,none⟩)
 | .func f=>.func (.func f) #[] #[]
theorem yp (b:Frame) (t:Array Value) (k:List Item):(ao b t k).eval=bk t:=by funext o;cases o<;>rfl
def put (o:Oper) (t:Array Value) (v:Value):Array Value:=match o.dst with|some d=>t.setIfInBounds d v|none=>t
def KE (P:Program) (Q:Value→Prop) (mn:Bool) (x:gy) (b:Frame) (t:Array Value) (ops:Array Oper) (i:Nat) (o:Oper) (rest:List Nat) (k:List Item) (cs:List Frame):Next→ψ→Prop
 | .value v,H=>aJ P Q mn x (ao b (put o t v) (.inRegion ops rest::k)) cs H
 | .skip,H=>aJ P Q mn x (ao b (put o t undef) (.inRegion ops rest::k)) cs H
 | .enter f args,H=>aJ P Q mn x (Frame.enter P f args .normal) (ao b t (.inRegion ops (i::rest)::k)::cs) H
 | .round l f vV Bi re,H=>aJ P Q mn x (Frame.round l f vV Bi re .normal) (ao b t (.inRegion ops (i::rest)::k)::cs) H
 | .defer d,H=>aJ P Q mn x (ao {b with defers:=d::b.defers} (put o t undef) (.inRegion ops rest::k)) cs H
 | .recover,H=>b.roundOf=none∧match tryRecover (ao b t (.inRegion ops (i::rest)::k)) cs with
  | some (v,cs')=>aJ P Q mn x (ao b (put o t v) (.inRegion ops rest::k)) cs' H
  | none=>aJ P Q mn x (ao b (put o t .nilIface) (.inRegion ops rest::k)) cs H
 | _,_=>False
section
variable {P:Program} {Q:Value→Prop} {mn:Bool} {x:gy} {cs:List Frame} {H:ψ} {b f:Frame} {t:Array Value} {k:List Item}
theorem dz.sub {G0 G:ψ} {w0 w:World} {es es':Array Event} (h:dz G0 w0 G w es) (ξ:∀e∈es',e∈es):dz G0 w0 G w es':=⟨h.fit,h.keeps,h.jQ,fun e he=>h.fQ e (ξ e he)⟩
theorem hO {b:Frame} {ops:Array Oper} {i:Nat} {o:Oper} {rest:List Nat} {v:Value} (Β:ops[i]?=some o):(ao b t (.inRegion ops (i::rest)::k)).finish v=ao b (put o t v) (.inRegion ops rest::k):=by
 simp only[Frame.finish,ao,Β,Option.bind,put];cases o.dst<;>rfl
theorem aJ.unwanted (δ:Seq x) (hb:b.mode=.run) {ops:Array Oper} {i:Nat} {o:Oper} {rest:List Nat} (Β:ops[i]?=some o) (hw:Region.wanted o (yielded ops t)=false)
  (h:aJ P Q mn x (ao b (put o t undef) (.inRegion ops rest::k)) cs H):aJ P Q mn x (ao b t (.inRegion ops (i::rest)::k)) cs H:=by
 refine .still δ (f':=ao b (put o t undef) (.inRegion ops rest::k)) (cs':=cs) (fun w=>?_) h;rw[iB hb,←hO Β];have tR:((ops[i]?).map (Region.wanted · (yielded ops t))).getD false=false:=by simp[Β,hw]
 unfold stepG.exec;simp only[ao,tR];rfl
theorem aJ.op (δ:Seq x) (hb:b.mode=.run) {ops:Array Oper} {i:Nat} {o:Oper} {rest:List Nat} (Β:ops[i]?=some o) (hw:Region.wanted o (yielded ops t)=true) (hd:b.roundOf=none∨∀c,o.op≠.defer c)
  (h:ς P (execOp (bk t) o) H (KE P Q mn x b t ops i o rest k cs) (fun v H'=>aJ P Q mn x {ao b t (.inRegion ops (i::rest)::k) with mode:=.panicking [{v,recovered:=false}]} cs H')) :
  aJ P Q mn x (ao b t (.inRegion ops (i::rest)::k)) cs H:=by
 refine .own δ fun w Ρ=>?_;obtain⟨H',w',es',hu,hx⟩:=ς.sound (P:=P) (G0:=H) (w0:=w) (execOp (bk t) o) h (dz.start Ρ);have yq:stepG P mn (Go.Conc.G (ao b t (.inRegion ops (i::rest)::k)) cs) w=stepG.apply P true (ao b t (.inRegion ops (i::rest)::k)) cs none (execOp (bk t) o) w:=by
  rw[iB hb];have tR:((ops[i]?).map (Region.wanted · (yielded ops t))).getD false=true:=by simp[Β,hw]
  have he:(ao b t (.inRegion ops (i::rest)::k)).oper?=some o:=by simp[Frame.oper?,ao,Β]
  unfold stepG.exec;simp only[ao,tR,if_true];simp only[ao] at he;unfold stepG.oper;simp only[he];rcases hd with hd|hd
  ·simp only[hd];rw[←yp b t (.inRegion ops (i::rest)::k)];rfl
  ·cases κ:b.roundOf with
   | none=>rw[←yp b t (.inRegion ops (i::rest)::k)];rfl
   | some l=>
    cases Κ:o.op<;>first|exact absurd Κ (hd _)|(simp only;rw[←yp b t (.inRegion ops (i::rest)::k)];rfl)
 rw[yq];generalize fD:(if(ao b t (.inRegion ops (i::rest)::k)).kind==.early then #[] else es')=m8;have ju:∀e∈seen P b.fn m8,e∈es':=fun e he=>by
  have:=mem_seen he;rw[←fD] at this;split at this
  ·simp at this
  ·exact this
 have n2:∀v,(ao b t (.inRegion ops (i::rest)::k)).finish v=ao b (put o t v) (.inRegion ops rest::k):=fun v=>hO Β;rcases hx with⟨fZ,dD,I⟩|⟨v,dD,c9⟩
 ·cases fZ<;>first|exact I.elim|skip
  case value v=>exact⟨_,_,w',seen P b.fn m8,H',by unfold stepG.apply;simp only[dD,if_true];rw[fD,n2];simp[GStep.after,Go.Conc.G,ao],hu.sub ju,I⟩
  case skip=>exact⟨_,_,w',seen P b.fn m8,H',by unfold stepG.apply;simp only[dD,if_true];rw[fD,n2];simp[GStep.after,Go.Conc.G,ao],hu.sub ju,I⟩
  case enter f args=>exact⟨_,_,w',seen P b.fn m8,H',by unfold stepG.apply;simp only[dD,if_true];rw[fD];simp[GStep.after,Go.Conc.G,ao],hu.sub ju,I⟩
  case round l f vV Bi re=>exact⟨_,_,w',seen P b.fn m8,H',by unfold stepG.apply;simp only[dD,if_true];rw[fD];simp[GStep.after,Go.Conc.G,ao],hu.sub ju,I⟩
  case defer d=>exact⟨_,_,w',seen P b.fn m8,H',by unfold stepG.apply;simp only[dD,if_true];rw[fD];simp[GStep.after,Go.Conc.G,Frame.finish,ao,put,Β];cases o.dst<;>rfl,hu.sub ju,I⟩
  case recover=>
   obtain⟨b7,I⟩:=I;cases sE:tryRecover (ao b t (.inRegion ops (i::rest)::k)) cs with
   | none=>
    rw[sE] at I;exact⟨_,_,w',seen P b.fn m8,H',by unfold stepG.apply;simp only[dD,if_true];rw[fD,n2];simp only[ao] at sE ⊢;simp only[b7];rw[b7] at sE;rw[sE];simp[GStep.after,Go.Conc.G],hu.sub ju,I⟩
   | some r=>
    obtain⟨v,cs'⟩:=r;rw[sE] at I;exact⟨_,_,w',seen P b.fn m8,H',by unfold stepG.apply;simp only[dD,if_true];rw[fD];simp only[ao] at sE ⊢;simp only[b7];rw[b7] at sE;rw[sE];simp[GStep.after,Go.Conc.G];(have e:=n2 v;simp only[ao,b7] at e;exact e),hu.sub ju,I⟩
 ·exact⟨_,_,w',seen P b.fn m8,H',by unfold stepG.apply;simp only[dD,if_true];rw[fD];simp[GStep.after,Go.Conc.G,Frame.raise,ao,hb],hu.sub ju,c9⟩
end
section
variable {P:Program} {Q:Value→Prop} {mn:Bool} {x:gy} {cs rest:List Frame} {H:ψ} {b f c:Frame} {t:Array Value} {k:List Item} {fn:Func}
theorem vW (hm:f.mode≠.run) (w:World):stepG P mn (Go.Conc.G f cs) w=unwind P mn f cs none w:=by
 obtain⟨a1,bg,cv,fK,sD,lx,tJ⟩:=f;cases sD with
 | run=>exact absurd rfl hm
 | returning=>rfl
 | panicking ch=>rfl
theorem aJ.back (δ:Seq x) (hm:f.mode=.returning) (hd:f.defers=[]) (υ:f.kind=.normal∨f.kind=.wrapped) (b':P.funcs[f.fn]?=some fn)
  (h:ς P (results fn f.tmps) H (fun v H'=>aJ P Q mn x (c.finish v) rest H') (fun _ _=>False)):aJ P Q mn x f (c::rest) H:=by
 refine .own δ fun w Ρ=>?_;obtain⟨H',w',es',hu,hx⟩:=ς.sound (P:=P) (G0:=H) (w0:=w) (results fn f.tmps) h (dz.start Ρ);rcases hx with⟨v,dD,I⟩|⟨v,dD,c9⟩
 ·refine⟨_,_,w',seen P f.fn es',H',?_,hu.sub fun e he=>mem_seen he,I⟩;rw[vW (by rw[hm];simp)];unfold unwind;simp only[hd,hm,b',dD];unfold doReturn;rcases υ with υ|υ<;>simp[υ,GStep.after,Go.Conc.G]
 ·exact c9.elim
theorem aJ.Fs (δ:Seq x) (hm:f.mode=.returning) (hd:f.defers=[]) (υ:f.kind=.deferred) (b':P.funcs[f.fn]?=some fn)
  (h:ς P (results fn f.tmps) H (fun _ H'=>aJ P Q mn x (match c.mode with
   | .panicking ({recovered:=true,..}::RZ)=>(match RZ.dropWhile (!·.goexit) with|[]=>{c with mode:=.returning}|r=>{c with mode:=.panicking r})
   | _=>c) rest H') (fun _ _=>False)):aJ P Q mn x f (c::rest) H:=by
 refine .own δ fun w Ρ=>?_;obtain⟨H',w',es',hu,hx⟩:=ς.sound (P:=P) (G0:=H) (w0:=w) (results fn f.tmps) h (dz.start Ρ);rcases hx with⟨v,dD,I⟩|⟨v,dD,c9⟩
 ·refine⟨_,_,w',seen P f.fn es',H',?_,hu.sub fun e he=>mem_seen he,I⟩;rw[vW (by rw[hm];simp)];unfold unwind;simp only[hd,hm,b',dD];unfold doReturn;simp only[υ,GStep.after];rw[Array.append_empty];rfl
 ·exact c9.elim
theorem aJ.deferred (δ:Seq x) (hm:f.mode≠.run) {d:Deferred} {ds:List Deferred} (hd:f.defers=d::ds) (η:∀r,d.target≠.collected r) (Η:d.target≠.nil) {g:FuncId} {args:Array Value}
  (κ:∀w,(invoke d.target d.args).runT P w #[]=(.ok (.enter g args) w,#[])) (h:aJ P Q mn x (Frame.enter P g args .deferred) ({f with defers:=ds}::cs) H):aJ P Q mn x f cs H:=by
 refine .still δ (fun w=>?_) h;rw[vW hm];unfold unwind;obtain⟨vX,as9⟩:=d;simp only at η Η κ;have key:callDeferred P {f with defers:=ds} cs none ⟨vX,as9⟩ w=.go (Go.Conc.G (Frame.enter P g args .deferred) ({f with defers:=ds}::cs)) w #[]:=by
  unfold callDeferred;simp only[κ w];cases vX<;>first|exact absurd rfl Η|(simp[GStep.after,seen,Go.Conc.G])
 cases vX with
 | collected r=>exact absurd rfl (η r)
 | fn a b=>simp only[hd];exact key
 | nil=>exact absurd rfl Η
 | builtin a b c d=>simp only[hd];exact key
 | coroexit c=>simp only[hd];exact key
theorem aJ.raised (δ:Seq x) {ch:List PanicEntry} (hm:f.mode=.panicking ch) (hd:f.defers=[]) (R0:f.catches P=false) (h:aJ P Q mn x (c.raise ch) rest H):aJ P Q mn x f (c::rest) H:=by
 refine .still δ (fun w=>?_) h;rw[vW (by rw[hm];simp)];unfold unwind;simp only[hd,hm,R0];rfl
theorem aJ.done (δ:Seq x) (Μ:∀y,x y→∀s,fC (y.tok s)) (sF:∀y,x y→y.deaf=0) (hm:f.mode=.returning) (hd:f.defers=[]) (υ:f.kind=.normal) (b':P.funcs[f.fn]?=some fn) (bb:P.inits.idxOf? f.fn=none) {v:Value}
  (κ:results fn f.tmps=pure v) (Bj:Q v):aJ P Q true x f [] H:=by
 intro y Ο;refine Goes.stop (fun κ=>by rw[show({y with G:=H}:aR).rel=y.rel from rfl,δ.rel y Ο] at κ;cases κ) (.inl ⟨rfl,⟨rfl,rfl⟩,Μ y Ο,sF y Ο,fun w Ρ=>⟨v,#[],?_,fun e he=>by simp at he,Bj⟩⟩);rw[vW (by rw[hm];simp)];unfold unwind;simp only[hd,hm,b',κ];have:(pure v:Sem Value).runT P w #[]=(.ok v w,#[]):=rfl;simp only[this];unfold doReturn;simp[υ,GStep.after,seen,bb]
end
end Go.TL
