import Derived.Test.YtlabjopijpkiaaaGreatEAD
set_option maxHeartbeats 16000000
set_option maxRecDepth 20000
set_option linter.unusedSectionVars false
set_option linter.unusedSimpArgs false
set_option linter.unusedVariables false
namespace Go.TL
open Go.Conc
open Go.ConcM (OsLater)
open Go.ConcN (sumTo upd sumTo_upd upd_ne upd_same sumTo_congr le_sumTo)
def Γ.fresh (G:Γ) (r:Nat):Prop:=(∀o,G.aS r o=none)/\G.row r=none/\G.obj r=none/\∀b,r<b->(∀o,G.aS b o=none)/\G.row b=none/\G.obj b=none
def Γ.wJ (G:Γ) (a:Addr) (v:Value):Γ:={G with aS:=λb o=>if b=a.block/\o=a.off then some (v,true) else G.aS b o}
def Γ.dS (G:Γ) (r:Nat) (c:Array Value) (t:TypeId):Γ:=⟨λb o=>if b=r then(c[o]?).map (·,true) else G.aS b o,λb=>if b=r then some (t,c.size) else G.row b,G.obj⟩
def Γ.bQ (G:Γ) (r:Nat) (x:Obj):Γ:={G with obj:=λb=>if b=r then some x else G.obj b}
def One:Value->Prop
 | .agg _|.tuple _=>False
 | _=>True
def χ {α:Type} (P:Program):Sem α->Γ->(α->Γ->Prop)->(Value->Γ->Prop)->Prop
 | .pure a,G,K,_=>K a G
 | .load m a k,G,K,E=>m=.plain/\a.spot=none/\∃v p,G.aS a.block a.off=some (v,p)/\χ P (k v) G K E
 | .store m a v k,G,K,E=>m=.plain/\a.spot=none/\G.owns a.block a.off/\(∃t n,G.row a.block=some (t,n))/\One v/\χ P k (G.wJ a v) K E
 | .new (.cells c t ep) k,G,K,E=>ep=(0,0)/\∀r,G.fresh r->χ P (k r) (G.dS r c t) K E
 | .new o k,G,K,E=>∀r,G.fresh r->χ P (k r) (G.bQ r o) K E
 | .shape r k,G,K,E=>∃t n,G.row r=some (t,n)/\χ P (k (some (t,n))) G K E
 | .freeze _ _ _,_,_,_=>False
 | .frozen a k,G,K,E=>(∃t n,G.row a.block=some (t,n))/\χ P (k false) G K E
 | .getObj r k,G,K,E=>∃o,G.obj r=some o/\o.isChan=false/\χ P (k o) G K E
 | .setObj r o k,G,K,E=>G.fx r/\Obj.sS o=false/\o.isChan=false/\χ P k (G.bQ r o) K E
 | .choose q k,G,K,E=>if q.forced then χ P (k 0) G K E else ∀n,χ P (k (q.cut n)) G K E
 | .sys _ _,_,_,_=>False
 | .program k,G,K,E=>χ P (k P) G K E
 | .mark m k,G,K,E=>m=.noRoom/\χ P k G K E
 | .halt (.panic v),G,_,E=>E v G
 | .halt _,_,_,_=>False
structure ej (G0:Γ) (w0:World) (G:Γ) (w:World) (es:Array Event):Prop where
 fit:Fits G w
 keeps:fV G0.owns G0.fx w0 w
 lA:CV G0 G w0.heap.size
 gN:∀e∈es,h2 G0 w0.heap.size w.heap.size e
theorem ej.start {G:Γ} {w:World} (h:Fits G w):ej G w G w #[]:=
 ⟨h,fV.refl _ _ _,⟨λb o v p h=>.inr ⟨v,p,h,id⟩,λb h=>.inr h⟩,λe he=>by simp at he⟩
section
variable {G0 G:Γ} {w0 w:World} {es:Array Event}
theorem Fits.bare (h:Fits G w) {b:Nat} (hb:w.heap.size<=b):(∀o,G.aS b o=none)/\G.row b=none/\G.obj b=none:=by
 refine⟨λo=>?_,?_,?_⟩
 ·cases ε:G.aS b o with
  | none=>rfl
  | some x=>obtain⟨c,t,ep,hb,_⟩:=rK (h.aS _ _ x.1 x.2 ε);have:=fW hb;omega
 ·cases ε:G.row b with
  | none=>rfl
  | some x=>obtain⟨c,hb,_⟩:=h.row _ x.1 x.2 ε;have:=fW hb;omega
 ·cases ε:G.obj b with
  | none=>rfl
  | some x=>have:=fW (h.obj _ x ε).1;omega
theorem Fits.fresh (h:Fits G w):G.fresh w.heap.size:=
 ⟨(h.bare (Nat.le_refl _)).1,(h.bare (Nat.le_refl _)).2.1,(h.bare (Nat.le_refl _)).2.2,λ_ hb=>h.bare (Nat.le_of_lt hb)⟩
theorem Γ.HG {H H':Γ} (U:∀b o,H'.aS b o=none->H.aS b o=none) (γ:∀b,H'.row b=none->H.row b=none) (ο:∀b,H'.obj b=none->H.obj b=none) (r:Nat) (h:H'.fresh r):H.fresh r:=
 ⟨λo=>U _ _ (h.1 o),γ _ h.2.1,ο _ h.2.2.1,λb hb=>⟨λo=>U _ _ ((h.2.2.2 b hb).1 o),γ _ (h.2.2.2 b hb).2.1,ο _ (h.2.2.2 b hb).2.2⟩⟩
theorem Γ.M7 {H:Γ} {r:Nat} (μ:H.fresh r) (c:Array Value) (t:TypeId):∀b,(H.dS r c t).fresh b->H.fresh b:=
 Γ.HG (λb o h=>by
  by_cases e:b=r
  ·subst e;exact μ.1 o
  ·simpa[Γ.dS,e] using h) (λb h=>by
  by_cases e:b=r
  ·subst e;exact μ.2.1
  ·simpa[Γ.dS,e] using h) (λb h=>h)
theorem Γ.HH {H:Γ} {r:Nat} {x:Obj}:∀b,(H.bQ r x).fresh b->H.fresh b:=
 Γ.HG (λb o h=>h) (λb h=>h) (λb h=>by
  by_cases e:b=r
  ·subst e;simp[Γ.bQ] at h
  ·simpa[Γ.bQ,e] using h)
theorem h2.mono {n jT M8:Nat} {e:Event} (h:h2 G n jT e) (Θ:jT<=M8):h2 G n M8 e:=by
 obtain⟨loc,wr,pH⟩:=e;cases loc with
 | cell a=>exact h.imp (λx=>⟨x.1,J⟩) id
 | obj r=>exact⟨h.1,h.2.imp (λx=>⟨x.1,J⟩) id⟩
 | _=>exact h
theorem ej.read (h:ej G0 w0 G w es) {a:Addr} {v:Value} {p:Bool} (ν:a.spot=none) (ε:G.aS a.block a.off=some (v,p)):w.cell? a=some v/\ej G0 w0 G w (es.push ⟨.cell a,false,false⟩):=by
 obtain⟨b,o,sp⟩:=a;simp only at ν ε;subst ν;have hv:=h.fit.aS b o v p ε;refine⟨hv,h.fit,h.keeps,h.lA,λe he=>?_⟩;rcases Array.mem_push.1 he with he|rfl
 ·exact h.gN e he
 ·rcases h.lA.aS b o v p ε with Θ|⟨v0,fY,ao,_⟩
  ·obtain⟨c,t,ep,hb,_⟩:=rK hv;exact .inl ⟨Θ,fW hb⟩
  ·exact .inr ⟨rfl,_,ao⟩
theorem heap_setCell {a:Addr} {v:Value} {c:Array Value} {t:TypeId} {ep:Nat×Nat} (ν:a.spot=none) (hb:w.heap[a.block]?=some (.cells c t ep)):(w.setCell a v).heap=w.heap.setIfInBounds a.block (.cells (c.setIfInBounds a.off v) t ep):=by
 obtain⟨b,o,sp⟩:=a;simp only at ν hb;subst ν;have aN:=fW hb;simp only[World.setCell];apply Array.ext_getElem?;intro j;rw[Array.getElem?_modify];by_cases e:b=j
 ·subst e;rw[Array.getElem?_setIfInBounds_self_of_lt aN,if_pos rfl,hb];simp
 ·rw[Array.getElem?_setIfInBounds_ne e,if_neg e]
theorem ej.write (h:ej G0 w0 G w es) {a:Addr} {v:Value} (ν:a.spot=none) (ε:G.owns a.block a.off):(∃u,w.cell? a=some u)/\ej G0 w0 (G.wJ a v) (w.setCell a v) (es.push ⟨.cell a,true,false⟩):=by
 obtain⟨b,o,sp⟩:=a;simp only at ν ε;subst ν;obtain⟨u,hu⟩:=ε;have hv:=h.fit.aS b o u true hu;obtain⟨c,t,ep,hb,U'⟩:=rK hv;have aN:=fW hb;have a5:=heap_setCell (w:=w) (a:=⟨b,o,none⟩) (v:=v) rfl hb;have cA:(w.setCell ⟨b,o,none⟩ v).heap.size=w.heap.size:=by rw[a5];simp
 have qL:(w.setCell ⟨b,o,none⟩ v).heap[b]?=some (.cells (c.setIfInBounds o v) t ep):=by rw[a5,Array.getElem?_setIfInBounds_self_of_lt aN]
 have qM:∀j,b≠j->(w.setCell ⟨b,o,none⟩ v).heap[j]?=w.heap[j]?:=λj ζ=>by rw[a5,Array.getElem?_setIfInBounds_ne ζ]
 have Β:o<c.size:=(Array.getElem?_eq_some_iff.1 U').1
 have M9:b<w0.heap.size->G0.owns b o:=λkA=>by
  rcases h.lA.aS b o u true hu with Θ|⟨v0,fY,ao,ω⟩
  ·omega
  ·exact⟨v0,by rw[ao,ω rfl]⟩
 refine⟨⟨u,hv⟩,⟨λag o' fG fA a2=>?_,λag t' jT μ=>?_,λag x δ=>?_⟩,⟨by rw[cA];exact h.keeps.size,λag c' t' M' ec=>?_,λag x ec δ Θ=>?_,h.keeps.os,h.keeps.output,h.keeps.tape⟩,⟨λag o' fG fA a2=>?_,h.lA.obj⟩,λe he=>?_⟩
 ·simp only[Γ.wJ] at a2;by_cases e:ag=b/\o'=o
  ·obtain⟨rfl,rfl⟩:=e;rw[if_pos ⟨rfl,rfl⟩] at a2;cases a2;exact oN qL (by rw[Array.getElem?_setIfInBounds_self_of_lt Β])
  ·rw[if_neg e] at a2;have:=h.fit.aS ag o' fG fA a2;by_cases Ζ:ag=b
   ·subst Ζ;have Ε:o≠o':=λx=>e ⟨rfl,x.symm⟩;obtain⟨c2,t2,Na,gb,oY⟩:=rK this;rw[hb] at gb;cases gb;exact oN qL (by rw[Array.getElem?_setIfInBounds_ne Ε];exact oY)
   ·obtain⟨c2,t2,Na,gb,oY⟩:=rK this;exact oN (by rw[qM ag (Ne.symm Ζ)];exact gb) oY
 ·obtain⟨c2,gb,de⟩:=h.fit.row ag t' jT μ;by_cases Ζ:ag=b
  ·subst Ζ;rw[hb] at gb;cases gb;exact⟨_,qL,by simpa using de⟩
  ·exact⟨c2,by rw[qM ag (Ne.symm Ζ)];exact gb,de⟩
 ·obtain⟨gb,jF⟩:=h.fit.obj ag x δ;have Ζ:b≠ag:=λe=>by subst e;rw[hb] at gb;cases gb;cases jF
  exact⟨by rw[qM ag Ζ];exact gb,jF⟩
 ·obtain⟨c2,U,γ,ο⟩:=h.keeps.cells ag c' t' M' ec;by_cases Ζ:ag=b
  ·subst Ζ;rw[hb] at U;cases U;refine⟨_,qL,by simpa using γ,λo' kv=>?_⟩;have Ε:o≠o':=λe=>by subst e;exact kv (M9 (fW ec))
   rw[Array.getElem?_setIfInBounds_ne Ε];exact ο o' kv
  ·exact⟨c2,by rw[qM ag (Ne.symm Ζ)];exact U,γ,ο⟩
 ·have U:=h.keeps.n5 ag x ec δ Θ
  have Ζ:b≠ag:=λe=>by subst e;rw[hb] at U;cases U;cases δ
  rw[qM ag Ζ];exact U
 ·simp only[Γ.wJ] at a2;by_cases e:ag=b/\o'=o
  ·obtain⟨rfl,rfl⟩:=e;rw[if_pos ⟨rfl,rfl⟩] at a2;cases a2;rcases h.lA.aS _ _ _ _ hu with Θ|⟨v0,fY,ao,ω⟩
   ·exact .inl Θ
   ·exact .inr ⟨v0,fY,ao,ω⟩
  ·rw[if_neg e] at a2;exact h.lA.aS ag o' fG fA a2
 ·rw[cA];rcases Array.mem_push.1 he with he|rfl
  ·exact h.gN e he
  ·rcases Nat.lt_or_ge b w0.heap.size with kA|kA
   ·refine .inr ⟨rfl,?_⟩;exact M9 kA
   ·exact .inl ⟨kA,aN⟩
theorem Al {x:Obj} {j:Nat} (ζ:j<w.heap.size):(w.heap.push x)[j]?=w.heap[j]?:=by
 rw[Array.getElem?_push,if_neg J]
theorem Dq {x:Obj}:(w.heap.push x)[w.heap.size]?=some x:=η
theorem ej.new (h:ej G0 w0 G w es) {x:Obj} {G':Γ} (ε:∀b o,b≠w.heap.size->G'.aS b o=G.aS b o) (μ:∀b,b≠w.heap.size->G'.row b=G.row b) (Β:∀b,b≠w.heap.size->G'.obj b=G.obj b)
  (Ρ:Fits {aS:=λb o=>if b=w.heap.size then G'.aS b o else none,row:=λb=>if b=w.heap.size then G'.row b else none,obj:=λb=>if b=w.heap.size then G'.obj b else none} {w with heap:=w.heap.push x}) :
  ej G0 w0 G' {w with heap:=w.heap.push x} es:=by
 have hle:=h.keeps.size;refine⟨⟨λb o v p hb=>?_,λb t n hb=>?_,λb y hb=>?_⟩,⟨by simp;omega,λb c t ep hb=>?_,λb y hb Μ Θ=>?_,h.keeps.os,h.keeps.output,h.keeps.tape⟩,⟨λb o v p hb=>?_,λb ⟨y,hb⟩=>?_⟩,λe he=>(h.gN e he).mono η⟩
 ·by_cases e:b=w.heap.size
  ·exact Ρ.aS b o v p (by simp only[e,if_true];rw[<-e];exact hb)
  ·rw[ε b o e] at hb;obtain⟨c2,t2,Na,gb,oY⟩:=rK (h.fit.aS b o v p hb);exact oN (w:={w with heap:=w.heap.push x}) (by show(w.heap.push x)[b]?=_;rw[Al (fW gb)];exact gb) oY
 ·by_cases e:b=w.heap.size
  ·exact Ρ.row b t n (by simp only[e,if_true];rw[<-e];exact hb)
  ·rw[μ b e] at hb;obtain⟨c2,gb,de⟩:=h.fit.row b t n hb;exact⟨c2,by show(w.heap.push x)[b]?=_;rw[Al (fW gb)];exact gb,de⟩
 ·by_cases e:b=w.heap.size
  ·exact Ρ.obj b y (by simp only[e,if_true];rw[<-e];exact hb)
  ·rw[Β b e] at hb;obtain⟨gb,Μ⟩:=h.fit.obj b y hb;exact⟨by show(w.heap.push x)[b]?=_;rw[Al (fW gb)];exact gb,Μ⟩
 ·obtain⟨c2,U,γ,ο⟩:=h.keeps.cells b c t ep hb;exact⟨c2,by show(w.heap.push x)[b]?=_;rw[Al (fW U)];exact U,γ,ο⟩
 ·have U:=h.keeps.n5 b y hb Μ Θ
  show(w.heap.push x)[b]?=_;rw[Al (fW U)];exact U
 ·by_cases e:b=w.heap.size
  ·exact .inl J
  ·rw[ε b o e] at hb;exact h.lA.aS b o v p hb
 ·by_cases e:b=w.heap.size
  ·exact .inl J
  ·rw[Β b e] at hb;exact h.lA.obj b ⟨y,hb⟩
end
section
variable {G0 G:Γ} {w0 w:World} {es:Array Event} {P:Program}
theorem ej.push (h:ej G0 w0 G w es) {e:Event} (he:h2 G0 w0.heap.size w.heap.size e):ej G0 w0 G w (es.push e):=
 ⟨h.fit,h.keeps,h.lA,λx δ=>(Array.mem_push.1 δ).elim (h.gN x) λy=>y▸he⟩
theorem ej.draw (h:ej G0 w0 G w es) (n:Nat):ej G0 w0 G {w with drawn:=n} es:=
 ⟨⟨h.fit.aS,h.fit.row,h.fit.obj⟩,⟨h.keeps.size,h.keeps.cells,h.keeps.n5,h.keeps.os,h.keeps.output,h.keeps.tape⟩,h.lA,h.gN⟩
theorem ej.row (h:ej G0 w0 G w es) (c:Array Value) (t:TypeId):ej G0 w0 (G.dS w.heap.size c t) {w with heap:=w.heap.push (.cells c t (0,0))} es:=by
 refine h.new (λb o hb=>by simp[Γ.dS,hb]) (λb hb=>by simp[Γ.dS,hb]) (λb hb=>rfl) ⟨λb o v p hb=>?_,λb t' n hb=>?_,λb y hb=>?_⟩
 ·by_cases e:b=w.heap.size
  ·simp[Γ.dS,e] at hb;obtain⟨lY,gb,rfl,rfl⟩:=hb;rw[e];exact oN (w:={w with heap:=w.heap.push (.cells c t (0,0))}) Dq gb
  ·simp[e] at hb
 ·by_cases e:b=w.heap.size
  ·simp[Γ.dS,e] at hb;obtain⟨rfl,rfl⟩:=hb;rw[e];exact⟨c,Dq,rfl⟩
  ·simp[e] at hb
 ·by_cases e:b=w.heap.size
  ·simp only[e,if_true,Γ.dS] at hb;rw[h.fit.fresh.2.2.1] at hb;cases hb
  ·simp[e] at hb
theorem ej.obj (h:ej G0 w0 G w es) {x:Obj} (δ:Obj.sS x=false):ej G0 w0 (G.bQ w.heap.size x) {w with heap:=w.heap.push x} es:=by
 refine h.new (λb o hb=>rfl) (λb hb=>rfl) (λb hb=>by simp[Γ.bQ,hb]) ⟨λb o v p hb=>?_,λb t' n hb=>?_,λb y hb=>?_⟩
 ·by_cases e:b=w.heap.size
  ·simp only[e,if_true,Γ.bQ] at hb;rw[h.fit.fresh.1] at hb;cases hb
  ·simp[e] at hb
 ·by_cases e:b=w.heap.size
  ·simp only[e,if_true,Γ.bQ] at hb;rw[h.fit.fresh.2.1] at hb;cases hb
  ·simp[e] at hb
 ·by_cases e:b=w.heap.size
  ·simp[Γ.bQ,e] at hb;subst hb;rw[e];exact⟨Dq,δ⟩
  ·simp[e] at hb
theorem ej.setObj (h:ej G0 w0 G w es) {r:Nat} {x:Obj} (μ:G.fx r) (δ:Obj.sS x=false):(∃y,w.heap[r]?=some y/\Obj.sS y=false)/\ej G0 w0 (G.bQ r x) {w with heap:=w.heap.setIfInBounds r x} (es.push ⟨.obj r,true,false⟩):=by
 obtain⟨y,Μ⟩:=μ;obtain⟨hb,Dr⟩:=h.fit.obj r y Μ;have aN:=fW hb;have qL:(w.heap.setIfInBounds r x)[r]?=some x:=Array.getElem?_setIfInBounds_self_of_lt aN;have qM:∀j,r≠j->(w.heap.setIfInBounds r x)[j]?=w.heap[j]?:=λj ζ=>Array.getElem?_setIfInBounds_ne ζ;have HI:∀b c t ep,w.heap[b]?=some (.cells c t ep)->r≠b:=λb c t ep ε e=>by subst e;rw[hb] at ε;cases ε;cases Dr
 refine⟨⟨y,hb,Dr⟩,⟨λb o v p ε=>?_,λb t n ε=>?_,λb z Ψ=>?_⟩,⟨by simp;exact h.keeps.size,λb c t ep ε=>?_,λb z ε Ψ Θ=>?_,h.keeps.os,h.keeps.output,h.keeps.tape⟩,⟨h.lA.aS,λb Ψ=>?_⟩,λe he=>?_⟩
 ·obtain⟨c,t,ep,U,γ⟩:=rK (h.fit.aS b o v p ε);exact oN (w:={w with heap:=w.heap.setIfInBounds r x}) (by show(w.heap.setIfInBounds r x)[b]?=_;rw[qM b (HI b c t ep U)];exact U) γ
 ·obtain⟨c,U,γ⟩:=h.fit.row b t n ε;exact⟨c,by show(w.heap.setIfInBounds r x)[b]?=_;rw[qM b (HI b c t _ U)];exact U,γ⟩
 ·by_cases e:b=r
  ·subst e;simp[Γ.bQ] at Ψ;subst Ψ;exact⟨qL,δ⟩
  ·simp[Γ.bQ,e] at Ψ;obtain⟨U,γ⟩:=h.fit.obj b z Ψ;exact⟨by show(w.heap.setIfInBounds r x)[b]?=_;rw[qM b (Ne.symm e)];exact U,γ⟩
 ·obtain⟨c2,U,γ,ο⟩:=h.keeps.cells b c t ep ε;exact⟨c2,by show(w.heap.setIfInBounds r x)[b]?=_;rw[qM b (HI b c2 t ep U)];exact U,γ,ο⟩
 ·have U:=h.keeps.n5 b z ε Ψ Θ
  have e:r≠b:=λe=>by
   subst e;rcases h.lA.obj r ⟨y,Μ⟩ with δ|δ
   ·have:=fW ε;omega
   ·exact Θ δ
  show(w.heap.setIfInBounds r x)[b]?=_;rw[qM b e];exact U
 ·by_cases e:b=r
  ·subst e;exact h.lA.obj b ⟨y,Μ⟩
  ·obtain⟨z,Ψ⟩:=Ψ;simp[Γ.bQ,e] at Ψ;exact h.lA.obj b ⟨z,Ψ⟩
 ·simp only[Array.size_setIfInBounds];rcases Array.mem_push.1 he with he|rfl
  ·exact h.gN e he
  ·exact⟨rfl,(h.lA.obj r ⟨y,Μ⟩).imp (λδ=>⟨δ,aN⟩) id⟩
theorem χ.sound {α:Type} {K:α->Γ->Prop} {E:Value->Γ->Prop} (s:Sem α):∀{G:Γ} {w:World} {es:Array Event},χ P s G K E->ej G0 w0 G w es->
  ∃G' w' es',ej G0 w0 G' w' es'/\((∃a,s.runT P w es=(.ok a w',es')/\K a G')\/(∃v,s.runT P w es=(.halt (.panic v) w',es')/\E v G')):=by
 induction s with
 | pure a=>intro G w es h hu;exact⟨G,w,es,hu,.inl ⟨a,rfl,h⟩⟩
 | load m a k Α=>
  intro G w es h hu;obtain⟨rfl,ν,v,p,ε,ψ⟩:=h;obtain⟨hv,wK⟩:=hu.read ν ε;obtain⟨G',w',es',U,γ⟩:=Α v ψ wK;refine⟨G',w',es',U,?_⟩;simp only[Sem.runT,hv];exact γ
 | store m a v k Α=>
  intro G w es h hu;obtain⟨rfl,ν,ε,⟨t,n,bX⟩,Ds,ψ⟩:=h;obtain⟨⟨u,hv⟩,wK⟩:=hu.write (v:=v) ν ε;obtain⟨G',w',es',U,γ⟩:=Α ψ wK;have Nb:w.frozen? a=false:=by
   obtain⟨c,hb,_⟩:=hu.fit.row a.block t n bX;simp[World.frozen?,hb]
  refine⟨G',w',es',U,?_⟩;have e:(Sem.store .plain a v k).runT P w es=k.runT P (w.setCell a v) (es.push ⟨.cell a,true,false⟩):=by
   cases v<;>first|exact Ds.elim|(simp only[Sem.runT,hv,Nb];rfl)
  rw[e];exact γ
 | new o k Α=>
  intro G w es h hu;cases o with
  | cells c t ep=>
   obtain⟨rfl,ψ⟩:=h;obtain⟨G',w',es',U,γ⟩:=Α w.heap.size (ψ _ hu.fit.fresh) (hu.row c t);exact⟨G',w',es',U,γ⟩
  | _=>
   obtain⟨G',w',es',U,γ⟩:=Α w.heap.size (h _ hu.fit.fresh) (hu.obj rfl);exact⟨G',w',es',U,γ⟩
 | shape r k Α=>
  intro G w es h hu;obtain⟨t,n,μ,ψ⟩:=h;have e:w.shape? r=some (t,n):=by
   obtain⟨c,hb,ξ⟩:=hu.fit.row r t n μ;simp[World.shape?,hb,ξ]
  obtain⟨G',w',es',U,γ⟩:=Α _ ψ hu;refine⟨G',w',es',U,?_⟩;simp only[Sem.runT,e];exact γ
 | freeze a n k Α=>intro G w es h hu;exact h.elim
 | frozen a k Α=>
  intro G w es h hu;obtain⟨⟨t,n,μ⟩,ψ⟩:=h;have e:w.frozen? a=false:=by
   obtain⟨c,hb,_⟩:=hu.fit.row a.block t n μ;simp[World.frozen?,hb]
  obtain⟨G',w',es',U,γ⟩:=Α _ ψ hu;refine⟨G',w',es',U,?_⟩;simp only[Sem.runT,e];exact γ
 | getObj r k Α=>
  intro G w es h hu;obtain⟨o,Β,lR,ψ⟩:=h;obtain⟨hb,b3⟩:=hu.fit.obj r o Β;have aN:=fW hb;have wK:=hu.push (e:=⟨.obj r,false,false⟩) ⟨rfl,(hu.lA.obj r ⟨o,Β⟩).imp (λδ=>⟨δ,aN⟩) id⟩;obtain⟨G',w',es',U,γ⟩:=Α _ ψ wK;refine⟨G',w',es',U,?_⟩;have e:(Sem.getObj r k).runT P w es=(k o).runT P w (es.push ⟨.obj r,false,false⟩):=by
   cases o<;>first|(simp only[Sem.runT,hb];first|done|rfl|(rw[lR];done))|(cases b3;done)
  rw[e];exact γ
 | setObj r o k Α=>
  intro G w es h hu;obtain⟨μ,b3,lR,ψ⟩:=h;obtain⟨⟨y,hb,Dr⟩,wK⟩:=hu.setObj μ b3;obtain⟨G',w',es',U,γ⟩:=Α ψ wK;refine⟨G',w',es',U,?_⟩;have e:(Sem.setObj r o k).runT P w es=k.runT P {w with heap:=w.heap.setIfInBounds r o} (es.push ⟨.obj r,true,false⟩):=by
   cases y<;>first|(simp only[Sem.runT,hb,lR];done)|(cases Dr;done)
  rw[e];exact γ
 | choose q k Α=>
  intro G w es h hu;simp only[χ] at h;by_cases Χ:q.forced=true
  ·rw[if_pos Χ] at h;obtain⟨G',w',es',U,γ⟩:=Α _ h hu;refine⟨G',w',es',U,?_⟩;simp only[Sem.runT,Χ,if_true];exact γ
  ·rw[if_neg Χ] at h;obtain⟨G',w',es',U,γ⟩:=Α _ (h (w.tape w.drawn q)) (hu.draw (w.drawn+1));refine⟨G',w',es',U,?_⟩;simp only[Sem.runT,Χ];exact γ
 | sys c k Α=>intro G w es h hu;exact h.elim
 | program k Α=>
  intro G w es h hu;obtain⟨G',w',es',U,γ⟩:=Α P h hu;exact⟨G',w',es',U,γ⟩
 | mark m k Α=>
  intro G w es h hu;obtain⟨rfl,ψ⟩:=h;obtain⟨G',w',es',U,γ⟩:=Α ψ (hu.push (e:=⟨.mark .noRoom,false,true⟩) rfl);exact⟨G',w',es',U,γ⟩
 | halt x=>
  intro G w es h hu;cases x<;>first|exact h.elim|skip
  exact⟨G,w,es,hu,.inr ⟨_,rfl,h⟩⟩
theorem mem_seen {fn:FuncId} {e:Event} (h:e∈seen P fn es):e∈es:=by
 unfold seen at h;obtain⟨l⟩:=es;have key:∀(l:List Event) (q:Bool) (kept:Array Event) (x:Event),x∈(l.foldl (λ(s:Bool×Array Event) e=>match e.loc with
   | .mark (Mark.extern f)=>((P.funcs[f]?).any (·.norace),s.2)
   | _=>(s.1,if s.1&&!e.sync then s.2 else s.2.push e)) (q,kept)).2->x∈kept\/x∈l:=by
  intro l
  induction l with
  | nil=>intro q kept x δ;exact .inl δ
  | cons y l Α=>
   intro q kept x δ;rw[List.foldl_cons] at δ;rcases Α _ _ x δ with iv|iv
   ·split at iv
    ·exact .inl iv
    ·simp only at iv;split at iv
     ·exact .inl iv
     ·rcases Array.mem_push.1 iv with C7|rfl
      ·exact .inl C7
      ·exact .inr η
   ·exact .inr (by simp[iv])
 simp only[List.foldl_toArray'] at h;rcases key l _ #[] e h with δ|δ
 ·simp at δ
 ·simpa using δ
end
def cG (P:Program) (Q:Value->Prop) (mn:Bool) (y:a7) (aD:Frame) (cs:List Frame) (H:Γ):Prop:=Goes P Q mn (Go.Conc.G aD cs) {y with G:=H}
def hz:Type:=a7->Prop
class bq where
 q:hz->Prop
structure Seq [bq] (x:hz):Prop where
 cls:bq.q x
 rel:∀y,x y->y.rel=false
 aR:∀y,x y->y.aR=λ_=>none
def aV (P:Program) (Q:Value->Prop) (mn:Bool) (x:hz) (aD:Frame) (cs:List Frame) (H:Γ):Prop:=∀y,x y->cG P Q mn y aD cs H
def aD (b:Frame) (t:Array Value) (k:List Item):Frame:={b with tmps:=t,todo:=k}
section
variable {P:Program} {Q:Value->Prop} {mn:Bool} {x:hz} {cs:List Frame} {H:Γ} {b f:Frame} {t:Array Value} {k:List Item}
theorem cG.own {y:a7} (eE:y.rel=false) (gn:y.aR=λ_=>none) (h:∀w,Fits H w->∃f' cs' w' es H',stepG P mn (Go.Conc.G f cs) w=.go (Go.Conc.G f' cs') w' es/\ej H w H' w' es/\cG P Q mn y f' cs' H'):cG P Q mn y f cs H:=by
 refine Goes.step (λμ=>by rw[show({y with G:=H}:a7).rel=y.rel from rfl,eE] at μ;cases μ) (.inr ⟨⟨rfl,rfl⟩,.inl λw Ρ hv=>?_⟩);obtain⟨f',cs',w',es,H',U,γ,ο⟩:=h w Ρ;rw[U];refine⟨H',y.aR,⟨rfl,rfl⟩,γ.keeps,γ.fit,λb c t hb=>?_,γ.lA,λb c hb=>.inl hb,λe he=>?_,λb c hb=>?_,ο⟩
 ·rw[gn] at hb;cases hb
 ·rw[if_neg (by rw[show({y with G:=H}:a7).rel=y.rel from rfl,eE];simp)];exact γ.gN e he
 ·rw[gn] at hb;cases hb
variable [bq]
theorem aV.own (δ:Seq x) (h:∀w,Fits H w->∃f' cs' w' es H',stepG P mn (Go.Conc.G f cs) w=.go (Go.Conc.G f' cs') w' es/\ej H w H' w' es/\aV P Q mn x f' cs' H'):aV P Q mn x f cs H:=
 λy Μ=>.own (δ.rel y Μ) (δ.aR y Μ) λw Ρ=>let ⟨f',cs',w',es,H',a,b,c⟩:=h w Ρ;⟨f',cs',w',es,H',a,b,c y Μ⟩
theorem aV.still (δ:Seq x) {f':Frame} {cs':List Frame} (ξ:∀w,stepG P mn (Go.Conc.G f cs) w=.go (Go.Conc.G f' cs') w #[]) (h:aV P Q mn x f' cs' H):aV P Q mn x f cs H:=
 .own δ λw Ρ=>⟨f',cs',w,#[],H,ξ w,.start Ρ,h⟩
theorem jY (hb:b.mode=.run) (w:World):stepG P mn (Go.Conc.G (aD b t k) cs) w=stepG.exec P mn true (aD b t k) cs none w:=by
 obtain⟨fn,yk,td,Va,uV,kd,ro⟩:=b;simp only at hb;subst hb;rfl
section Vb
variable (δ:Seq x) (hb:b.mode=.run)
include δ hb
theorem aV.to {al:List Item} (ξ:∀w,stepG.exec P mn true (aD b t k) cs none w=.go (Go.Conc.G (aD b t al) cs) w #[]) (h:aV P Q mn x (aD b t al) cs H):aV P Q mn x (aD b t k) cs H:=
 .still δ (λw=>(jY hb w).trans (ξ w)) h
theorem aV.skip (h:aV P Q mn x (aD b t k) cs H):aV P Q mn x (aD b t (.code .skip::k)) cs H:=.to δ hb (λ_=>rfl) h
theorem aV.inBlock {l:Nat} (h:aV P Q mn x (aD b t k) cs H):aV P Q mn x (aD b t (.inBlock l::k)) cs H:=.to δ hb (λ_=>rfl) h
theorem aV.seq {a c:Code} (h:aV P Q mn x (aD b t (.code a::.code c::k)) cs H):aV P Q mn x (aD b t (.code (.seq a c)::k)) cs H:=.to δ hb (λ_=>rfl) h
theorem aV.block {l:Nat} {c:Code} (h:aV P Q mn x (aD b t (.code c::.inBlock l::k)) cs H):aV P Q mn x (aD b t (.code (.block l c)::k)) cs H:=.to δ hb (λ_=>rfl) h
theorem aV.loop {c:Code} (h:aV P Q mn x (aD b t (.code c::.inLoop c::k)) cs H):aV P Q mn x (aD b t (.code (.loop c)::k)) cs H:=.to δ hb (λ_=>rfl) h
theorem aV.inLoop {c:Code} (h:aV P Q mn x (aD b t (.code c::.inLoop c::k)) cs H):aV P Q mn x (aD b t (.inLoop c::k)) cs H:=.to δ hb (λ_=>rfl) h
theorem aV.region {id:Nat} {ops:Array Oper} (h:aV P Q mn x (aD b t (.inRegion ops (List.range ops.size)::k)) cs H):aV P Q mn x (aD b t (.code (.region id ops false)::k)) cs H:=.to δ hb (λ_=>rfl) h
theorem aV.bL {ops:Array Oper} (h:aV P Q mn x (aD b t k) cs H):aV P Q mn x (aD b t (.inRegion ops []::k)) cs H:=.to δ hb (λ_=>rfl) h
theorem aV.cond {c:Operand} {a e:Code} {v:Bool} (ε:(aD b t k).eval c=.bool v) (h:aV P Q mn x (aD b t (.code (if v then a else e)::k)) cs H):aV P Q mn x (aD b t (.code (.cond c a e)::k)) cs H:=by
 refine .to δ hb (λw=>?_) h;have a2:(aD b t (.code (.cond c a e)::k)).eval c=.bool v:=ε;unfold stepG.exec;simp only[aD] at a2 ⊢;rw[a2];rfl
theorem aV.exit {l:Nat} {al:List Item} (he:exitTo l k=some al) (h:aV P Q mn x (aD b t al) cs H):aV P Q mn x (aD b t (.code (.exit l)::k)) cs H:=by
 refine .to δ hb (λw=>?_) h;unfold stepG.exec;simp only[aD,he,Option.elim];rfl
theorem aV.draw {id:Nat} {ops:Array Oper} (h:∀n,aV P Q mn x (aD b t (.inRegion ops (Region.schedule (P.follows .mixedOrders) ops n)::k)) cs H):aV P Q mn x (aD b t (.code (.region id ops true)::k)) cs H:=by
 refine .own δ λw Ρ=>⟨aD b t (.inRegion ops (Region.schedule (P.follows .mixedOrders) ops (w.tape w.drawn (.order b.fn id)))::k),cs,{w with drawn:=w.drawn+1},#[],H,?_,(ej.start Ρ).draw _,h _⟩;rw[jY hb];rfl
theorem aV.ret (μ:b.roundOf=none) (h:aV P Q mn x {aD b t (.code .ret::k) with mode:=.returning} cs H):aV P Q mn x (aD b t (.code .ret::k)) cs H:=by
 refine .still δ (λw=>?_) h;rw[jY hb];unfold stepG.exec;simp only[aD,μ];rfl
theorem aV.s' (μ:b.roundOf=none) (h:aV P Q mn x {aD b t [] with mode:=.returning} cs H):aV P Q mn x (aD b t []) cs H:=by
 refine .still δ (λw=>?_) h;rw[jY hb];unfold stepG.exec;simp only[aD,μ];rfl
end Vb
end
end Go.TL
namespace Go.TL
open Go.Conc
open Go.ConcM (OsLater)
open Go.ConcN (sumTo upd sumTo_upd upd_ne upd_same sumTo_congr le_sumTo)
variable [bq]
def bt (t:Array Value):Operand->Value
 | .tmp n=>t.getD n undef
 | .const v=>v
 | .global g=>.pointer (some ⟨g,0,none⟩)
 | .func f=>.func (.func f) #[] #[]
theorem Am (b:Frame) (t:Array Value) (k:List Item):(aD b t k).eval=bt t:=by funext o;cases o<;>rfl
def put (o:Oper) (t:Array Value) (v:Value):Array Value:=match o.dst with|some d=>t.setIfInBounds d v|none=>t
def Nc (P:Program) (Q:Value->Prop) (mn:Bool) (x:hz) (b:Frame) (t:Array Value) (ops:Array Oper) (i:Nat) (o:Oper) (rest:List Nat) (k:List Item) (cs:List Frame):Next->Γ->Prop
 | .value v,H=>aV P Q mn x (aD b (put o t v) (.inRegion ops rest::k)) cs H
 | .skip,H=>aV P Q mn x (aD b (put o t undef) (.inRegion ops rest::k)) cs H
 | .enter f args,H=>aV P Q mn x (Frame.enter P f args .normal) (aD b t (.inRegion ops (i::rest)::k)::cs) H
 | .round l f yk Dt ta,H=>aV P Q mn x (Frame.round l f yk Dt ta .normal) (aD b t (.inRegion ops (i::rest)::k)::cs) H
 | .defer d,H=>aV P Q mn x (aD {b with defers:=d::b.defers} (put o t undef) (.inRegion ops rest::k)) cs H
 | .recover,H=>b.roundOf=none/\match tryRecover (aD b t (.inRegion ops (i::rest)::k)) cs with
  | some (v,cs')=>aV P Q mn x (aD b (put o t v) (.inRegion ops rest::k)) cs' H
  | none=>aV P Q mn x (aD b (put o t .nilIface) (.inRegion ops rest::k)) cs H
 | _,_=>False
section
variable {P:Program} {Q:Value->Prop} {mn:Bool} {x:hz} {cs:List Frame} {H:Γ} {b f:Frame} {t:Array Value} {k:List Item}
theorem ej.sub {G0 G:Γ} {w0 w:World} {es es':Array Event} (h:ej G0 w0 G w es) (ξ:∀e∈es',e∈es):ej G0 w0 G w es':=⟨h.fit,h.keeps,h.lA,λe he=>h.gN e (ξ e he)⟩
theorem jl {b:Frame} {ops:Array Oper} {i:Nat} {o:Oper} {rest:List Nat} {v:Value} (Β:ops[i]?=some o):(aD b t (.inRegion ops (i::rest)::k)).finish v=aD b (put o t v) (.inRegion ops rest::k):=by
 simp only[Frame.finish,aD,Β,Option.bind,put];cases o.dst<;>rfl
theorem aV.unwanted (δ:Seq x) (hb:b.mode=.run) {ops:Array Oper} {i:Nat} {o:Oper} {rest:List Nat} (Β:ops[i]?=some o) (hw:Region.wanted o (yielded ops t)=false)
  (h:aV P Q mn x (aD b (put o t undef) (.inRegion ops rest::k)) cs H):aV P Q mn x (aD b t (.inRegion ops (i::rest)::k)) cs H:=by
 refine .still δ (f':=aD b (put o t undef) (.inRegion ops rest::k)) (cs':=cs) (λw=>?_) h;rw[jY hb,<-jl Β];have wv:((ops[i]?).map (Region.wanted · (yielded ops t))).getD false=false:=by simp[Β,hw]
 unfold stepG.exec;simp only[aD,wv];rfl
theorem aV.op (δ:Seq x) (hb:b.mode=.run) {ops:Array Oper} {i:Nat} {o:Oper} {rest:List Nat} (Β:ops[i]?=some o) (hw:Region.wanted o (yielded ops t)=true) (hd:b.roundOf=none\/∀c,o.op≠.defer c)
  (h:χ P (execOp (bt t) o) H (Nc P Q mn x b t ops i o rest k cs) (λv H'=>aV P Q mn x {aD b t (.inRegion ops (i::rest)::k) with mode:=.panicking [{v,recovered:=false}]} cs H')) :
  aV P Q mn x (aD b t (.inRegion ops (i::rest)::k)) cs H:=by
 refine .own δ λw Ρ=>?_;obtain⟨H',w',es',hu,hR⟩:=χ.sound (P:=P) (G0:=H) (w0:=w) (execOp (bt t) o) h (ej.start Ρ);have An:stepG P mn (Go.Conc.G (aD b t (.inRegion ops (i::rest)::k)) cs) w=stepG.apply P true (aD b t (.inRegion ops (i::rest)::k)) cs none (execOp (bt t) o) w:=by
  rw[jY hb];have wv:((ops[i]?).map (Region.wanted · (yielded ops t))).getD false=true:=by simp[Β,hw]
  have he:(aD b t (.inRegion ops (i::rest)::k)).oper?=some o:=by simp[Frame.oper?,aD,Β]
  unfold stepG.exec;simp only[aD,wv,if_true];simp only[aD] at he;unfold stepG.oper;simp only[he];rcases hd with hd|hd
  ·simp only[hd];rw[<-Am b t (.inRegion ops (i::rest)::k)];rfl
  ·cases μ:b.roundOf with
   | none=>rw[<-Am b t (.inRegion ops (i::rest)::k)];rfl
   | some l=>
    cases Τ:o.op<;>first|exact absurd Τ (hd _)|(simp only;rw[<-Am b t (.inRegion ops (i::rest)::k)];rfl)
 rw[An];generalize gC:(if(aD b t (.inRegion ops (i::rest)::k)).kind==.early then #[] else es')=oZ;have kZ:∀e∈seen P b.fn oZ,e∈es':=λe he=>by
  have:=mem_seen he;rw[<-gC] at this;split at this
  ·simp at this
  ·exact this
 have pP:∀v,(aD b t (.inRegion ops (i::rest)::k)).finish v=aD b (put o t v) (.inRegion ops rest::k):=λv=>jl Β;rcases hR with⟨ee,er,κ⟩|⟨v,er,dF⟩
 ·cases ee<;>first|exact κ.elim|skip
  case value v=>exact⟨_,_,w',seen P b.fn oZ,H',by unfold stepG.apply;simp only[er,if_true];rw[gC,pP];simp[GStep.after,Go.Conc.G,aD],hu.sub kZ,κ⟩
  case skip=>exact⟨_,_,w',seen P b.fn oZ,H',by unfold stepG.apply;simp only[er,if_true];rw[gC,pP];simp[GStep.after,Go.Conc.G,aD],hu.sub kZ,κ⟩
  case enter f args=>exact⟨_,_,w',seen P b.fn oZ,H',by unfold stepG.apply;simp only[er,if_true];rw[gC];simp[GStep.after,Go.Conc.G,aD],hu.sub kZ,κ⟩
  case round l f yk Dt ta=>exact⟨_,_,w',seen P b.fn oZ,H',by unfold stepG.apply;simp only[er,if_true];rw[gC];simp[GStep.after,Go.Conc.G,aD],hu.sub kZ,κ⟩
  case defer d=>exact⟨_,_,w',seen P b.fn oZ,H',by unfold stepG.apply;simp only[er,if_true];rw[gC];simp[GStep.after,Go.Conc.G,Frame.finish,aD,put,Β];cases o.dst<;>rfl,hu.sub kZ,κ⟩
  case recover=>
   obtain⟨cv,κ⟩:=κ;cases uW:tryRecover (aD b t (.inRegion ops (i::rest)::k)) cs with
   | none=>
    rw[uW] at κ;exact⟨_,_,w',seen P b.fn oZ,H',by unfold stepG.apply;simp only[er,if_true];rw[gC,pP];simp only[aD] at uW ⊢;simp only[cv];rw[cv] at uW;rw[uW];simp[GStep.after,Go.Conc.G],hu.sub kZ,κ⟩
   | some r=>
    obtain⟨v,cs'⟩:=r;rw[uW] at κ;exact⟨_,_,w',seen P b.fn oZ,H',by unfold stepG.apply;simp only[er,if_true];rw[gC];simp only[aD] at uW ⊢;simp only[cv];rw[cv] at uW;rw[uW];simp[GStep.after,Go.Conc.G];(have e:=pP v;simp only[aD,cv] at e;exact e),hu.sub kZ,κ⟩
 ·exact⟨_,_,w',seen P b.fn oZ,H',by unfold stepG.apply;simp only[er,if_true];rw[gC];simp[GStep.after,Go.Conc.G,Frame.raise,aD,hb],hu.sub kZ,dF⟩
end
section
variable {P:Program} {Q:Value->Prop} {mn:Bool} {x:hz} {cs rest:List Frame} {H:Γ} {b f c:Frame} {t:Array Value} {k:List Item} {fn:Func}
theorem yl (hm:f.mode≠.run) (w:World):stepG P mn (Go.Conc.G f cs) w=unwind P mn f cs none w:=by
 obtain⟨a1,bb,cP,gJ,uV,nh,wc⟩:=f;cases uV with
 | run=>exact absurd rfl hm
 | returning=>rfl
 | panicking ch=>rfl
theorem aV.back (δ:Seq x) (hm:f.mode=.returning) (hd:f.defers=[]) (ψ:f.kind=.normal\/f.kind=.wrapped) (bR:P.funcs[f.fn]?=some fn)
  (h:χ P (results fn f.tmps) H (λv H'=>aV P Q mn x (c.finish v) rest H') (λ_ _=>False)):aV P Q mn x f (c::rest) H:=by
 refine .own δ λw Ρ=>?_;obtain⟨H',w',es',hu,hR⟩:=χ.sound (P:=P) (G0:=H) (w0:=w) (results fn f.tmps) h (ej.start Ρ);rcases hR with⟨v,er,κ⟩|⟨v,er,dF⟩
 ·refine⟨_,_,w',seen P f.fn es',H',?_,hu.sub λe he=>mem_seen he,κ⟩;rw[yl (by rw[hm];simp)];unfold unwind;simp only[hd,hm,bR,er];unfold doReturn;rcases ψ with ψ|ψ<;>simp[ψ,GStep.after,Go.Conc.G]
 ·exact dF.elim
theorem aV.HJ (δ:Seq x) (hm:f.mode=.returning) (hd:f.defers=[]) (ψ:f.kind=.deferred) (bR:P.funcs[f.fn]?=some fn)
  (h:χ P (results fn f.tmps) H (λ_ H'=>aV P Q mn x (match c.mode with
   | .panicking ({recovered:=true,..}::Vd)=>(match Vd.dropWhile (!·.goexit) with|[]=>{c with mode:=.returning}|r=>{c with mode:=.panicking r})
   | _=>c) rest H') (λ_ _=>False)):aV P Q mn x f (c::rest) H:=by
 refine .own δ λw Ρ=>?_;obtain⟨H',w',es',hu,hR⟩:=χ.sound (P:=P) (G0:=H) (w0:=w) (results fn f.tmps) h (ej.start Ρ);rcases hR with⟨v,er,κ⟩|⟨v,er,dF⟩
 ·refine⟨_,_,w',seen P f.fn es',H',?_,hu.sub λe he=>mem_seen he,κ⟩;rw[yl (by rw[hm];simp)];unfold unwind;simp only[hd,hm,bR,er];unfold doReturn;simp only[ψ,GStep.after];rw[Array.append_empty];rfl
 ·exact dF.elim
theorem aV.deferred (δ:Seq x) (hm:f.mode≠.run) {d:Deferred} {ds:List Deferred} (hd:f.defers=d::ds) (ε:∀r,d.target≠.collected r) (Θ:d.target≠.nil) {g:FuncId} {args:Array Value}
  (μ:∀w,(invoke d.target d.args).runT P w #[]=(.ok (.enter g args) w,#[])) (h:aV P Q mn x (Frame.enter P g args .deferred) ({f with defers:=ds}::cs) H):aV P Q mn x f cs H:=by
 refine .still δ (λw=>?_) h;rw[yl hm];unfold unwind;obtain⟨ym,as9⟩:=d;simp only at ε Θ μ;have key:callDeferred P {f with defers:=ds} cs none ⟨ym,as9⟩ w=.go (Go.Conc.G (Frame.enter P g args .deferred) ({f with defers:=ds}::cs)) w #[]:=by
  unfold callDeferred;simp only[μ w];cases ym<;>first|exact absurd rfl Θ|(simp[GStep.after,seen,Go.Conc.G])
 cases ym with
 | collected r=>exact absurd rfl (ε r)
 | fn a b=>simp only[hd];exact key
 | nil=>exact absurd rfl Θ
 | builtin a b c d=>simp only[hd];exact key
 | coroexit c=>simp only[hd];exact key
theorem aV.raised (δ:Seq x) {ch:List PanicEntry} (hm:f.mode=.panicking ch) (hd:f.defers=[]) (Ve:f.catches P=false) (h:aV P Q mn x (c.raise ch) rest H):aV P Q mn x f (c::rest) H:=by
 refine .still δ (λw=>?_) h;rw[yl (by rw[hm];simp)];unfold unwind;simp only[hd,hm,Ve];rfl
theorem aV.done (δ:Seq x) (Υ:∀y,x y->∀s,gB (y.tok s)) (uX:∀y,x y->y.deaf=0) (hm:f.mode=.returning) (hd:f.defers=[]) (ψ:f.kind=.normal) (bR:P.funcs[f.fn]?=some fn) (bd:P.inits.idxOf? f.fn=none) {v:Value}
  (μ:results fn f.tmps=pure v) (Vf:Q v):aV P Q true x f [] H:=by
 intro y Μ;refine Goes.stop (λμ=>by rw[show({y with G:=H}:a7).rel=y.rel from rfl,δ.rel y Μ] at μ;cases μ) (.inl ⟨rfl,⟨rfl,rfl⟩,Υ y Μ,uX y Μ,λw Ρ=>⟨v,#[],?_,λe he=>by simp at he,Vf⟩⟩);rw[yl (by rw[hm];simp)];unfold unwind;simp only[hd,hm,bR,μ];have:(pure v:Sem Value).runT P w #[]=(.ok v w,#[]):=rfl;simp only[this];unfold doReturn;simp[ψ,GStep.after,seen,bd]
end
end Go.TL
namespace Go.TL
open Go.Conc
inductive θ where
 | z (v:Value)
 | au (cells:List θ)
 | sl (ex:Bool) (k:Nat) (l:List θ)
 | a3 (l:List θ)
 | bj (l:List θ)
 | ak (id n i j:Nat)
 | ms (id n i len:Nat)
 | fn (f:Fn) (first captured:List θ)
 | gp (t:TypeId) (a:θ)
 | mp (id:Nat)
 | it (id:Nat)
 | cz
 deriving Inhabited
abbrev am:=List θ
def θ.cells:θ->am
 | .a3 l=>l
 | a=>[a]
inductive Row where
 | cells (t:TypeId) (k:Nat) (l:am)
 | map (es:List (θ×θ))
 | iter (m:Nat) (left:List (θ×θ)) (cur:Option (θ×θ))
 | dead
 deriving Inhabited
abbrev ac:=List Row
def Row.hT (r:Row) (n:Nat):Prop:=match r with|.cells _ _ l=>n<l.length|_=>True
abbrev a0:=List (Option (Nat×Nat))
abbrev aO:=Nat->Nat->Option Value
inductive aA (S:aO) (B:a0) (σ:ac):θ->Value->Prop where
 | z (v:Value):aA S B σ (.z v) v
 | au {cells:am} (b o:Nat) (w:Nat->Value):(∀(j:Nat) (a:θ),cells[j]?=some a->S b (o+j)=some (w j))->(∀(j:Nat) (a:θ),cells[j]?=some a->aA S B σ a (w j))->aA S B σ (.au cells) (.pointer (some ⟨b,o,none⟩))
 | iT {ex:Bool} {k:Nat} (base:Option Addr) (cap:Nat):(ex=true->cap=0)->aA S B σ (.sl ex k []) (.slice base 0 cap)
 | sl {ex:Bool} {k:Nat} {l:am} (b o cap:Nat) (w:Nat->Nat->Value):(ex=true->cap=l.length)->l.length<=cap->(∀(i:Nat) (e:θ),l[i]?=some e->e.cells.length=k)->
   (∀(i:Nat) (e:θ),l[i]?=some e->∀(j:Nat) (c:θ),e.cells[j]?=some c->S b (o+i*k+j)=some (w i j))->(∀(i:Nat) (e:θ),l[i]?=some e->∀(j:Nat) (c:θ),e.cells[j]?=some c->aA S B σ c (w i j))->aA S B σ (.sl ex k l) (.slice (some ⟨b,o,none⟩) l.length cap)
 | a3 {l:am} (vs:Array Value):l.length=vs.size->(∀(i:Nat) (a:θ) (v:Value),l[i]?=some a->vs[i]?=some v->aA S B σ a v)->aA S B σ (.a3 l) (.agg vs)
 | bj {l:am} (vs:Array Value):l.length=vs.size->(∀(i:Nat) (a:θ) (v:Value),l[i]?=some a->vs[i]?=some v->aA S B σ a v)->aA S B σ (.bj l) (.tuple vs)
 | ak {id n i j k:Nat} {t:TypeId} {l:am} {b N:Nat}:σ[id]?=some (.cells t k l)->l.length=n->B[id]?=some (some (b,N))->aA S B σ (.ak id n i j) (.pointer (some ⟨b,i*k+j,none⟩))
 | kB {id n i j:Nat} {r:Row} (v:Value):σ[id]?=some r->r.hT n->aA S B σ (.ak id n i j) v
 | ms {id n i len:Nat} {t:TypeId} {k:Nat} {l:am} {bo:Option (Nat×Nat)} {base:Option Addr} (cap:Nat):σ[id]?=some (.cells t k l)->l.length=n->B[id]?=some bo->i+len<=n->len<=cap->
   (cap=0\/∃b N,bo=some (b,N)/\base=some ⟨b,i*k,none⟩/\(i+cap)*k<=N)->aA S B σ (.ms id n i len) (.slice base len cap)
 | jZ {id n i len:Nat} {r:Row} (v:Value):σ[id]?=some r->r.hT n->aA S B σ (.ms id n i len) v
 | fn {f:Fn} {dr cs:am} (vs ws:Array Value):dr.length=vs.size->cs.length=ws.size->(∀(i:Nat) (a:θ) (v:Value),dr[i]?=some a->vs[i]?=some v->aA S B σ a v)->(∀(i:Nat) (a:θ) (v:Value),cs[i]?=some a->ws[i]?=some v->aA S B σ a v)->aA S B σ (.fn f dr cs) (.func f vs ws)
 | gp {t:TypeId} {a:θ} (v:Value):aA S B σ a v->aA S B σ (.gp t a) (.iface t v)
 | mp {id:Nat} {es:List (θ×θ)} {b N:Nat}:σ[id]?=some (.map es)->B[id]?=some (some (b,N))->aA S B σ (.mp id) (.map (some b))
 | mF {id:Nat} (v:Value):σ[id]?=some .dead->aA S B σ (.mp id) v
 | it {id m:Nat} {left:List (θ×θ)} {cur:Option (θ×θ)} {b N:Nat}:σ[id]?=some (.iter m left cur)->B[id]?=some (some (b,N))->aA S B σ (.it id) (.pointer (some ⟨b,0,none⟩))
 | oe {id:Nat} (v:Value):σ[id]?=some .dead->aA S B σ (.it id) v
 | cz (v:Value):aA S B σ .cz v
def Row.to (r r':Row) (b ag:Option (Option (Nat×Nat))):Prop:=
 match r with
 | .cells t k l=>(∃dp,r'=.cells t k dp/\dp.length=l.length/\ag=b)\/∀n,n<=l.length->r'.hT n
 | .map _=>(∃es',r'=.map es'/\ag=b)\/r'=.dead
 | .iter m _ _=>(∃HK HL,r'=.iter m HK HL/\ag=b)\/r'=.dead
 | .dead=>r'=.dead
structure b8 (S aJ:aO) (B B':a0) (σ σ':ac):Prop where
 dy:∀b o v,S b o=some v->aJ b o=some v
 rows:∀(id:Nat) (r:Row),σ[id]?=some r->∃r':Row,σ'[id]?=some r'/\r.to r' B[id]? B'[id]?
theorem Row.tc (r:Row) (b:Option (Option (Nat×Nat))):r.to r b b:=by
 cases r with
 | cells t k l=>exact .inl ⟨l,rfl,rfl,rfl⟩
 | map es=>exact .inl ⟨es,rfl,rfl⟩
 | iter m l c=>exact .inl ⟨l,c,rfl,rfl⟩
 | dead=>rfl
theorem b8.refl (S:aO) (B:a0) (σ:ac):b8 S S B B σ σ:=⟨λ_ _ _ h=>h,λ_ r h=>⟨r,h,r.tc _⟩⟩
theorem Row.HM {r r':Row} {b ag:Option (Option (Nat×Nat))} {n:Nat} (h:r.to r' b ag) (Θ:r.hT n):r'.hT n:=by
 cases r with
 | cells t k l=>
  rcases h with⟨dp,rfl,U,_⟩|h
  ·simp only[Row.hT] at Θ ⊢;omega
  ·exact h n (Nat.le_of_lt Θ)
 | map es=>rcases h with⟨es',rfl,_⟩|rfl<;>trivial
 | iter m l c=>rcases h with⟨dp,c',rfl,_⟩|rfl<;>trivial
 | dead=>cases h;trivial
theorem Row.Vg {r r' Du:Row} {b ag Nd:Option (Option (Nat×Nat))} (h:r.to r' b ag) (k:r'.to Du ag Nd):r.to Du b Nd:=by
 cases r with
 | cells t e l=>
  rcases h with⟨dp,rfl,U,rfl⟩|h
  ·rcases k with⟨Vh,rfl,γ,rfl⟩|k
   ·exact .inl ⟨Vh,rfl,γ.trans U,rfl⟩
   ·exact .inr λn Θ=>k n J
  ·exact .inr λn Θ=>Row.HM k (h n Θ)
 | map es=>
  rcases h with⟨es',rfl,rfl⟩|rfl
  ·exact k
  ·cases k;exact .inr rfl
 | iter m l c=>
  rcases h with⟨dp,c',rfl,rfl⟩|rfl
  ·exact k
  ·cases k;exact .inr rfl
 | dead=>cases h;exact k
theorem b8.trans {S aJ Ao:aO} {B B' Ap:a0} {σ σ' Aq:ac} (h:b8 S aJ B B' σ σ') (k:b8 aJ Ao B' Ap σ' Aq):b8 S Ao B Ap σ Aq:=
 ⟨λb o v x=>k.dy b o v (h.dy b o v x),λid r μ=>by
  obtain⟨r',U,γ⟩:=h.rows id r μ;obtain⟨Du,ο,Ι⟩:=k.rows id r' U;exact⟨Du,ο,Row.Vg γ Ι⟩⟩
theorem aA.later {S aJ:aO} {B B':a0} {σ σ':ac} (π:b8 S aJ B B' σ σ') {a:θ} {v:Value} (h:aA S B σ a v):aA aJ B' σ' a v:=by
 induction h with
 | z v=>exact .z v
 | au b o w U _ Α=>exact .au b o w (λj a ζ=>π.dy _ _ _ (U j a ζ)) Α
 | iT base cap h=>exact .iT base cap h
 | sl b o cap w U γ ο Ι _ Α=>exact .sl b o cap w U γ ο (λi e hi j c ζ=>π.dy _ _ _ (Ι i e hi j c ζ)) Α
 | a3 vs U _ Α=>exact .a3 vs U Α
 | bj vs U _ Α=>exact .bj vs U Α
 | ak U γ ο=>
  obtain⟨r',Ζ,Ε⟩:=π.rows _ _ U;rcases Ε with⟨dp,rfl,a8,cR⟩|Ε
  ·exact .ak Ζ (a8.trans γ) (by rw[cR];exact ο)
  ·exact .kB _ Ζ (Ε _ J)
 | kB v U γ=>
  obtain⟨r',Ζ,Ε⟩:=π.rows _ _ U;exact .kB _ Ζ (Row.HM Ε γ)
 | ms cap U γ ο Ι ax bf=>
  obtain⟨r',Ζ,Ε⟩:=π.rows _ _ U;rcases Ε with⟨dp,rfl,a8,cR⟩|Ε
  ·exact .ms cap Ζ (a8.trans γ) (by rw[cR];exact ο) Ι ax bf
  ·exact .jZ _ Ζ (Ε _ J)
 | jZ v U γ=>
  obtain⟨r',Ζ,Ε⟩:=π.rows _ _ U;exact .jZ _ Ζ (Row.HM Ε γ)
 | fn vs ws U γ _ _ te nz=>exact .fn vs ws U γ te nz
 | gp v _ Α=>exact .gp v Α
 | mp U γ=>
  obtain⟨r',Ζ,Ε⟩:=π.rows _ _ U;rcases Ε with⟨es',rfl,cR⟩|rfl
  ·exact .mp Ζ (by rw[cR];exact γ)
  ·exact .mF _ Ζ
 | mF v U=>
  obtain⟨r',Ζ,Ε⟩:=π.rows _ _ U;cases Ε;exact .mF _ Ζ
 | it U γ=>
  obtain⟨r',Ζ,Ε⟩:=π.rows _ _ U;rcases Ε with⟨dp,c',rfl,cR⟩|rfl
  ·exact .it Ζ (by rw[cR];exact γ)
  ·exact .oe _ Ζ
 | oe v U=>
  obtain⟨r',Ζ,Ε⟩:=π.rows _ _ U;cases Ε;exact .oe _ Ζ
 | cz v=>exact .cz v
def tf (S:aO) (B:a0) (σ:ac) (es:List (θ×θ)) (xs:Array MapEntry) (clock:Nat):Prop:=
 es.length=xs.size/\(∀(i:Nat) (e:θ×θ) (y:MapEntry),es[i]?=some e->xs[i]?=some y->aA S B σ e.1 y.key/\aA S B σ e.2 y.val/\y.born<clock)/\
 ∀(i j:Nat) (y z:MapEntry),xs[i]?=some y->xs[j]?=some z->i<j->y.born<z.born
def Dv (S:aO) (B:a0) (σ:ac) (left:List (θ×θ)) (cur:Option (θ×θ)) (xs:Array MapEntry) (clock:Nat) (seen:Array Nat):Prop:=
 (∃cQ:List MapEntry,cQ=xs.toList.filter (λe=>!seen.contains e.born)/\left.length=cQ.length/\∀(i:Nat) (e:θ×θ) (y:MapEntry),left[i]?=some e->cQ[i]?=some y->aA S B σ e.1 y.key/\aA S B σ e.2 y.val)/\
 (∀y∈xs,y.born<clock)/\
 ∀e,cur=some e->∃HN y,seen.back?=some HN/\xs.find? (·.born==HN)=some y/\aA S B σ e.1 y.key/\aA S B σ e.2 y.val
def kC (S:aO) (B:a0) (σ:ac) (H:Γ) (r:Row) (bo:Option (Nat×Nat)):Prop:=
 match r with
 | .cells t k l=>match bo with
  | none=>l=[]
  | some (b,N)=>H.row b=some (t,N)/\l.length*k<=N/\(∀o,o<N->∃w,H.aS b o=some (w,true))/\
   ∃w:Nat->Nat->Value,∀(i:Nat) (e:θ),l[i]?=some e->e.cells.length=k/\∀(j:Nat) (a:θ),e.cells[j]?=some a->H.aS b (i*k+j)=some (w i j,true)/\aA S B σ a (w i j)/\One (w i j)
 | .map es=>∃b N xs clock,bo=some (b,N)/\H.obj b=some (.map xs clock)/\tf S B σ es xs clock
 | .iter m left cur=>∃b N a4 lB xs clock seen,bo=some (b,N)/\B[m]?=some (some (a4,lB))/\(∃es,σ[m]?=some (.map es))/\H.obj b=some (.mapIter (some a4) clock seen clock)/\H.obj a4=some (.map xs clock)/\Dv S B σ left cur xs clock seen
 | .dead=>True
def Row.live (r:Row):Prop:=match r with|.dead=>False|_=>True
structure Holds (S:aO) (B:a0) (σ:ac) (H:Γ):Prop where
 dy:∀b o v,S b o=some v->∃p,H.aS b o=some (v,p)
 len:B.length=σ.length
 row:∀(id:Nat) (r:Row) (bo:Option (Nat×Nat)),σ[id]?=some r->B[id]?=some bo->kC S B σ H r bo
 inj:∀(i j:Nat) (eF cp:Row) (b gO gP:Nat),i≠j->σ[i]?=some eF->σ[j]?=some cp->eF.live->cp.live->B[i]?=some (some (b,gO))->B[j]?=some (some (b,gP))->False
 sep:∀(id:Nat) (r:Row) (b N:Nat),σ[id]?=some r->r.live->B[id]?=some (some (b,N))->∀o,S b o=none
def a0.has (B:a0) (b:Nat):Prop:=∃N,some (b,N)∈B
def og (fJ:aO) (et H:Γ) (b:Nat):Prop:=
 (∀o,H.aS b o=et.aS b o\/∃v p,fJ b o=some v/\et.aS b o=some (v,p)/\H.aS b o=some (v,false))/\H.row b=et.row b/\H.obj b=et.obj b
theorem og.of {fJ:aO} {et H:Γ} {b:Nat} (h:(∀o,H.aS b o=et.aS b o)/\H.row b=et.row b/\H.obj b=et.obj b):og fJ et H b:=⟨λo=>.inl (h.1 o),h.2⟩
structure Ext (fJ:aO) (eV:a0) (et:Γ) (S:aO) (B:a0) (H:Γ):Prop where
 dy:∀b o v,fJ b o=some v->S b o=some v
 gl:∀b,¬eV.has b->¬et.fresh b->og fJ et H b
 blocks:∀b,B.has b->eV.has b\/et.fresh b
 r7:∀b o v,S b o=some v->fJ b o=some v\/eV.has b\/et.fresh b
 grow:∀b,H.fresh b->et.fresh b
theorem Ext.refl (S:aO) (B:a0) (H:Γ):Ext S B H S B H:=⟨λ_ _ _ h=>h,λ_ _ _=>og.of ⟨λ_=>rfl,rfl,rfl⟩,λ_ h=>.inl h,λ_ _ _ h=>.inl h,λ_ h=>h⟩
theorem Ext.trans {fJ bS c8:aO} {eV b1 e3:a0} {et H1 bN:Γ} (h:Ext fJ eV et bS b1 H1) (k:Ext bS b1 H1 c8 e3 bN):Ext fJ eV et c8 e3 bN:=by
 refine⟨λb o v x=>k.dy b o v (h.dy b o v x),λb hb Ρ=>?_,λb hb=>?_,λb o v hv=>?_,λb x=>h.grow b (k.grow b x)⟩
 ·have Ζ:=h.gl b hb Ρ
  have Dw:¬H1.fresh b:=λx=>Ρ (h.grow b x)
  have lY:¬b1.has b:=λx=>(h.blocks b x).elim hb Ρ
  have Ε:=k.gl b lY Dw;refine⟨λo=>?_,Ε.2.1.trans Ζ.2.1,Ε.2.2.trans Ζ.2.2⟩;rcases Ε.1 o with x|⟨v,p,o0,h9,r8⟩<;>rcases Ζ.1 o with y|⟨u,q,lC,tg,HO⟩
  ·exact .inl (x.trans y)
  ·exact .inr ⟨u,q,lC,tg,x.trans HO⟩
  ·rcases h.r7 b o v o0 with z|z|z
   ·exact .inr ⟨v,p,z,by rw[<-y];exact h9,r8⟩
   ·exact absurd z hb
   ·exact absurd z Ρ
  ·have e:=h.dy b o u lC
   have:v=u:=by rw[o0] at e;exact Option.some.inj e
   subst this;exact .inr ⟨v,q,lC,tg,r8⟩
 ·rcases k.blocks b hb with x|x
  ·exact h.blocks b x
  ·exact .inr (h.grow b x)
 ·rcases k.r7 b o v hv with x|x|x
  ·exact h.r7 b o v x
  ·exact .inr (h.blocks b x)
  ·exact .inr (.inr (h.grow b x))
abbrev ab:=List (Nat×θ)
abbrev aq:=θ->ab->ac->Prop
abbrev be:=List Item->ab->ac->Prop
def a':ab->Nat->θ
 | [],_=>.cz
 |(j,a)::r,i=>if j=i then a else a' r i
def dB (S:aO) (B:a0) (σ:ac) (env:ab) (t:Array Value):Prop:=∀i,aA S B σ (a' env i) (t.getD i undef)
theorem dB.later {S aJ:aO} {B B':a0} {σ σ':ac} {env:ab} {t:Array Value} (h:dB S B σ env t) (π:b8 S aJ B B' σ σ'):dB aJ B' σ' env t:=λi=>(h i).later π
theorem dB.put {S:aO} {B:a0} {σ:ac} {env:ab} {t:Array Value} (h:dB S B σ env t) {d:Nat} (hd:d<t.size) {a:θ} {v:Value} (ν:aA S B σ a v):dB S B σ ((d,a)::env) (t.setIfInBounds d v):=by
 intro i;simp only[a'];split
 ·rename_i e;subst e;simpa[Array.getD_eq_getD_getElem?,hd] using ν
 ·rename_i e;have:=h i;rw[Array.getD_eq_getD_getElem?] at this ⊢
  rwa [Array.getElem?_setIfInBounds_ne e]
theorem Nf {S:aO} {B:a0} {σ:ac} {H:Γ} (Δ:Holds S B σ H) {id:Nat} {r:Row} (h:σ[id]?=some r):∃bo,B[id]?=some bo:=by
 have:id<B.length:=by rw[Δ.len];exact(b0.1 h).1
 exact⟨_,a6 this⟩
def mG:TypeDesc->Bool
 | .struct _|.array _ _=>true
 | _=>false
section
variable {P:Program} {α β:Type} {G:Γ} {E:Value->Γ->Prop}
theorem χ.mono {K K':α->Γ->Prop} {E':Value->Γ->Prop} (κ:∀a G,K a G->K' a G) (dF:∀v G,E v G->E' v G) (s:Sem α):∀{G:Γ},χ P s G K E->χ P s G K' E':=by
 induction s with
 | pure a=>intro G h;exact κ _ _ h
 | load m a k Α=>intro G ⟨U,γ,v,p,ο,Ι⟩;exact⟨U,γ,v,p,ο,Α v Ι⟩
 | store m a v k Α=>intro G ⟨U,γ,ο,Ι,ax,bf⟩;exact⟨U,γ,ο,Ι,ax,Α bf⟩
 | new o k Α=>
  intro G h;cases o with
  | cells c t ep=>exact⟨h.1,λr μ=>Α r (h.2 r μ)⟩
  | _=>exact λr μ=>Α r (h r μ)
 | shape r k Α=>intro G ⟨t,n,U,γ⟩;exact⟨t,n,U,Α _ γ⟩
 | freeze a n k Α=>intro G h;exact h.elim
 | frozen a k Α=>intro G ⟨U,γ⟩;exact⟨U,Α _ γ⟩
 | getObj r k Α=>intro G ⟨o,U,γ,ο⟩;exact⟨o,U,γ,Α _ ο⟩
 | setObj r o k Α=>intro G ⟨U,γ,ο,Ι⟩;exact⟨U,γ,ο,Α Ι⟩
 | choose q k Α=>
  intro G h;simp only[χ] at h ⊢;split
  ·rw[if_pos ‹_›] at h;exact Α _ h
  ·rw[if_neg ‹_›] at h;exact λn=>Α _ (h n)
 | sys c k Α=>intro G h;exact h.elim
 | program k Α=>intro G h;exact Α P h
 | mark m k Α=>intro G ⟨U,γ⟩;exact⟨U,Α γ⟩
 | halt x=>
  intro G h;cases x<;>first|exact h.elim|exact dF _ _ h
theorem χ.bind {f:α->Sem β} {K:β->Γ->Prop} (s:Sem α):∀{G:Γ},χ P s G (λa G'=>χ P (f a) G' K E) E->χ P (s.bind f) G K E:=by
 induction s with
 | pure a=>intro G h;exact h
 | load m a k Α=>intro G ⟨U,γ,v,p,ο,Ι⟩;exact⟨U,γ,v,p,ο,Α v Ι⟩
 | store m a v k Α=>intro G ⟨U,γ,ο,Ι,ax,bf⟩;exact⟨U,γ,ο,Ι,ax,Α bf⟩
 | new o k Α=>
  intro G h;cases o with
  | cells c t ep=>exact⟨h.1,λr μ=>Α r (h.2 r μ)⟩
  | _=>exact λr μ=>Α r (h r μ)
 | shape r k Α=>intro G ⟨t,n,U,γ⟩;exact⟨t,n,U,Α _ γ⟩
 | freeze a n k Α=>intro G h;exact h.elim
 | frozen a k Α=>intro G ⟨U,γ⟩;exact⟨U,Α _ γ⟩
 | getObj r k Α=>intro G ⟨o,U,γ,ο⟩;exact⟨o,U,γ,Α _ ο⟩
 | setObj r o k Α=>intro G ⟨U,γ,ο,Ι⟩;exact⟨U,γ,ο,Α Ι⟩
 | choose q k Α=>
  intro G h;simp only[χ] at h;simp only[Sem.bind,χ];split
  ·rw[if_pos ‹_›] at h;exact Α _ h
  ·rw[if_neg ‹_›] at h;exact λn=>Α _ (h n)
 | sys c k Α=>intro G h;exact h.elim
 | program k Α=>intro G h;exact Α P h
 | mark m k Α=>intro G ⟨U,γ⟩;exact⟨U,Α γ⟩
 | halt x=>
  intro G h;cases x<;>first|exact h.elim|exact h
theorem χ.bind' {f:α->Sem β} {K:β->Γ->Prop} {s:Sem α} (h:χ P s G (λa G'=>χ P (f a) G' K E) E):χ P (s >>= f) G K E:=χ.bind s h
theorem χ.pure' {a:α} {K:α->Γ->Prop} (h:K a G):χ P (pure a) G K E:=h
theorem χ.underlying {t:TypeId} {d:TypeDesc} {K:TypeDesc->Γ->Prop} (hd:P.underlying t=some d) (h:K d G):χ P (Go.underlying t) G K E:=by
 unfold Go.underlying;refine χ.bind' ?_;show χ P (match P.underlying t with|some d=>pure d|none=>_) G K E;rw[hd];exact h
theorem χ.typeInfo {t:TypeId} {i:TypeInfo} {K:TypeInfo->Γ->Prop} (hi:P.info? t=some i) (h:K i G):χ P (Go.typeInfo t) G K E:=by
 unfold Go.typeInfo;refine χ.bind' ?_;show χ P (match P.info? t with|some i=>pure i|none=>_) G K E;have:P.info? t=some i:=hi;rw[this];exact h
theorem χ.sizeOf {t:TypeId} {i:TypeInfo} {K:Nat->Γ->Prop} (hi:P.info? t=some i) (h:K i.size G):χ P (Go.sizeOf t) G K E:=by
 unfold Go.sizeOf;exact χ.bind' (χ.typeInfo hi (χ.pure' h))
theorem χ.isAgg {t:TypeId} {d:TypeDesc} {K:Bool->Γ->Prop} (hd:P.underlying t=some d) (h:K (mG d) G):χ P (Go.isAgg t) G K E:=by
 unfold Go.isAgg;refine χ.bind' (χ.underlying hd ?_);cases d<;>exact h
theorem χ.zeroValue {t:TypeId} {i:TypeInfo} {v:Value} {K:Value->Γ->Prop} (hi:P.info? t=some i) (Ψ:i.zero=some v) (h:K v G):χ P (Go.zeroValue t) G K E:=by
 unfold Go.zeroValue;refine χ.bind' (χ.typeInfo hi ?_);rw[Ψ];exact h
theorem χ.Vi {a:Addr} (w:Nat->Value) {K:Array Value->Γ->Prop}:∀(n i:Nat) (acc:Array Value),a.spot=none->(∀j,i<=j->j<i+n->∃p,G.aS a.block (a.off+j)=some (w j,p))->K (acc++((List.range n).map λj=>w (i+j)).toArray) G->χ P (loadCellsFrom a i n acc) G K E:=by
 intro n
 induction n with
 | zero=>intro i acc _ _ h;simp at h;exact h
 | succ n Α=>
  intro i acc ν ε h;unfold loadCellsFrom;refine χ.bind' ?_;obtain⟨p,ω⟩:=ε i (Nat.le_refl _) J;have Ζ:(a.add i).spot=none:=by unfold Addr.add;split<;>simp[ν]
  have Ε:(a.add i).block=a.block:=by unfold Addr.add;split<;>rfl
  have a8:(a.add i).off=a.off+i:=by unfold Addr.add;split<;>simp_all
  refine⟨rfl,Ζ,w i,p,by rw[Ε,a8];exact ω,?_⟩;refine Α (i+1) (acc.push (w i)) ν (λj U γ=>ε j J J) ?_;have:acc.push (w i)++((List.range n).map λj=>w (i+1+j)).toArray=acc++((List.range (n+1)).map λj=>w (i+j)).toArray:=by
   rw[List.range_succ_eq_map];apply Array.ext';simp[Function.comp_def,Nat.add_assoc,Nat.add_comm 1]
  rw[this];exact h
theorem χ.loadCells {a:Addr} (w:Nat->Value) {n:Nat} {K:Array Value->Γ->Prop} (ν:a.spot=none) (ε:∀j,j<n->∃p,G.aS a.block (a.off+j)=some (w j,p)) (h:K ((List.range n).map w).toArray G):χ P (Go.loadCells a n) G K E:=by
 unfold Go.loadCells;exact χ.Vi w n 0 #[] ν (λj _ ζ=>ε j J) (by simpa using h)
def Γ.h' (G:Γ) (b o:Nat) (vs:List Value):Γ:={G with aS:=λag o'=>if ag=b/\o<=o'/\o'<o+vs.length then some ((vs[o'-o]?).getD undef,true) else G.aS ag o'}
theorem Γ.HP {H:Γ} {b o:Nat} {vs:List Value}:∀r,(H.h' b o vs).fresh r->H.fresh r:=
 Γ.HG (λag o' h=>by
  simp only[Γ.h'] at h;split at h
  ·cases h
  ·exact h) (λ_ h=>h) (λ_ h=>h)
theorem χ.storeCells {a:Addr} {K:Unit->Γ->Prop} (ν:a.spot=none) (bX:∃t n,G.row a.block=some (t,n)):∀(vs:List Value) (i:Nat) (G':Γ),(∀v∈vs,One v)->(∀j,i<=j->j<i+vs.length->G'.owns a.block (a.off+j))->(G'.row=G.row)->K () (G'.h' a.block (a.off+i) vs)->χ P (Go.storeCells a vs i) G' K E:=by
 intro vs
 induction vs with
 | nil=>
  intro i G' _ _ _ h;have:G'.h' a.block (a.off+i) []=G':=by
   unfold Γ.h';have:∀ag o',¬(ag=a.block/\a.off+i<=o'/\o'<a.off+i+([]:List Value).length):=λag o' h=>by simp at h;omega
   simp only[this,if_false]
  rw[this] at h;exact h
 | cons v vs Α=>
  intro i G' Ds gE μ h;unfold Go.storeCells;refine χ.bind' ?_;have Ζ:(a.add i).spot=none:=by unfold Addr.add;split<;>simp[ν]
  have Ε:(a.add i).block=a.block:=by unfold Addr.add;split<;>rfl
  have a8:(a.add i).off=a.off+i:=by unfold Addr.add;split<;>simp_all
  refine⟨rfl,Ζ,by rw[Ε,a8];exact gE i (Nat.le_refl _) η,by rw[Ε,μ];exact bX,Ds v η,?_⟩;refine Α (i+1) _ (λv hv=>Ds v (by simp[hv])) (λj U γ=>?_) μ ?_
  ·obtain⟨u,hu⟩:=gE j J (by simp;omega);refine⟨u,?_⟩;simp only[Γ.wJ,Ε,a8];rw[if_neg J];exact hu
  ·have:(G'.wJ (a.add i) v).h' a.block (a.off+(i+1)) vs=G'.h' a.block (a.off+i) (v::vs):=by
    unfold Γ.h' Γ.wJ;simp only[Ε,a8];congr 1
    funext ag o'
    by_cases hb:ag=a.block
    ·subst hb;by_cases U:o'=a.off+i
     ·subst U;rw[if_neg J,if_pos ⟨rfl,rfl⟩,if_pos ⟨rfl,J,η⟩];simp
     ·by_cases γ:a.off+(i+1)<=o'/\o'<a.off+(i+1)+vs.length
      ·rw[if_pos ⟨rfl,γ⟩,if_pos ⟨rfl,J,by simp;omega⟩];have:o'-(a.off+i)=(o'-(a.off+(i+1)))+1:=J;rw[this,List.getElem?_cons_succ]
      ·rw[if_neg (by intro x;exact γ x.2),if_neg (by intro x;exact U x.2),if_neg (by intro x;simp at x;omega)]
    ·rw[if_neg (λx=>hb x.1),if_neg (λx=>hb x.1),if_neg (λx=>hb x.1)]
   rw[this];exact h
end
def lD (H H':Γ) (b:Nat):Prop:=(∀o,H'.aS b o=H.aS b o)/\H'.row b=H.row b/\H'.obj b=H.obj b
theorem og.th {fJ:aO} {et H:Γ} {b:Nat} (h:og fJ et H b) (Θ:∀o,fJ b o=none):lD et H b:=
 ⟨λo=>(h.1 o).elim id λ⟨v,p,U,_⟩=>(by rw[Θ o] at U;cases U),h.2⟩
section
variable {S aJ:aO} {B B':a0} {σ σ':ac} {H H':Γ}
theorem tf.later (π:b8 S aJ B B' σ σ') {es:List (θ×θ)} {xs:Array MapEntry} {clock:Nat} (h:tf S B σ es xs clock):tf aJ B' σ' es xs clock:=
 ⟨h.1,λi e y U γ=>⟨(h.2.1 i e y U γ).1.later π,(h.2.1 i e y U γ).2.1.later π,(h.2.1 i e y U γ).2.2⟩,h.2.2⟩
theorem Dv.later (π:b8 S aJ B B' σ σ') {left:List (θ×θ)} {cur:Option (θ×θ)} {xs:Array MapEntry} {clock:Nat} {seen:Array Nat} (h:Dv S B σ left cur xs clock seen):Dv aJ B' σ' left cur xs clock seen:=by
 obtain⟨⟨cQ,U,γ,ο⟩,Ι,ax⟩:=h;refine⟨⟨cQ,U,γ,λi e y a b=>⟨(ο i e y a b).1.later π,(ο i e y a b).2.later π⟩⟩,Ι,λe he=>?_⟩;obtain⟨st,y,a,b,c,d⟩:=ax e he;exact⟨st,y,a,b,c.later π,d.later π⟩
theorem kC.later (π:b8 S aJ B B' σ σ') {r:Row} {bo:Option (Nat×Nat)} (h:kC S B σ H r bo) (ν:∀b N,bo=some (b,N)->lD H H' b)
  (dJ:∀m left cur,r=.iter m left cur->σ'[m]?=σ[m]?/\B'[m]?=B[m]?/\∀b N,B[m]?=some (some (b,N))->lD H H' b):kC aJ B' σ' H' r bo:=by
 cases r with
 | cells t k l=>
  cases bo with
  | none=>exact h
  | some x=>
   obtain⟨b,N⟩:=x;obtain⟨a1,bb,_⟩:=ν b N rfl;obtain⟨U,γ,ο,w,Ι⟩:=h;refine⟨by rw[bb];exact U,γ,λo Β=>by rw[a1];exact ο o Β,w,λi e hi=>⟨(Ι i e hi).1,λj a ζ=>?_⟩⟩;obtain⟨c1,c2,c3⟩:=(Ι i e hi).2 j a ζ;exact⟨by rw[a1];exact c1,c2.later π,c3⟩
 | map es=>
  obtain⟨b,N,xs,clock,rfl,U,γ⟩:=h;exact⟨b,N,xs,clock,rfl,by rw[(ν b N rfl).2.2];exact U,γ.later π⟩
 | iter m left cur=>
  obtain⟨b,N,a4,lB,xs,clock,seen,rfl,U,γ,ο,Ι,ax⟩:=h;obtain⟨i1,i2,i3⟩:=dJ m left cur rfl;exact⟨b,N,a4,lB,xs,clock,seen,rfl,by rw[i2];exact U,by rw[i1];exact γ,by rw[(ν b N rfl).2.2];exact ο,by rw[(i3 a4 lB U).2.2];exact Ι,ax.later π⟩
 | dead=>trivial
theorem pQ {id:Nat} {b N:Nat} (h:B[id]?=some (some (b,N))):B.has b:=⟨N,cy h⟩
theorem Holds.o1 (Δ:Holds S B σ H) {id b N:Nat} {r:Row} (μ:σ[id]?=some r) (π:r.live) (hb:B[id]?=some (some (b,N))):¬H.fresh b:=λΡ=>by
 have h:=Δ.row id r _ μ hb;cases r with
 | cells t k l=>have:=h.1;rw[Ρ.2.1] at this;cases this
 | map es=>
  obtain⟨ag,fp,xs,clock,e,U,_⟩:=h;cases e;rw[Ρ.2.2.1] at U;cases U
 | iter m left cur=>
  obtain⟨ag,fp,a4,lB,xs,clock,seen,e,_,_,U,_⟩:=h;cases e;rw[Ρ.2.2.1] at U;cases U
 | dead=>exact π
theorem Vj {id:Nat} {r r':Row} {bo bo':Option (Nat×Nat)} (μ:σ[id]?=some r) (hb:B[id]?=some bo) (yn:r.to r' (some bo) (some bo')):b8 S S B (B.set id bo') σ (σ.set id r'):=by
 have cb:id<σ.length:=(b0.1 μ).1
 have pR:id<B.length:=(b0.1 hb).1;refine⟨λ_ _ _ h=>h,λj cp ζ=>?_⟩;by_cases e:id=j
 ·subst e;rw[μ] at ζ;cases ζ;refine⟨r',by rw[List.getElem?_set_self cb],?_⟩;rw[hb,List.getElem?_set_self pR];exact yn
 ·exact⟨cp,by rw[List.getElem?_set_ne e];exact ζ,by rw[List.getElem?_set_ne e];exact cp.tc _⟩
theorem Holds.yo (Δ:Holds S B σ H) {id:Nat} {r r':Row} {bo bo':Option (Nat×Nat)} (μ:σ[id]?=some r) (fr:r.live) (hb:B[id]?=some bo) (yn:r.to r' (some bo) (some bo'))
  (gE:∀b fp,bo'=some (b,fp)->(∃N,bo=some (b,N))\/H.fresh b) (cD:∀b,(∀N,bo≠some (b,N))->(∀N,bo'≠some (b,N))->lD H H' b) (uS:∀b,H'.fresh b->H.fresh b)
  (dJ:∀(j:Nat) left cur,σ[j]?≠some (Row.iter id left cur)) (bX:b8 S S B (B.set id bo') σ (σ.set id r')->kC S (B.set id bo') (σ.set id r') H' r' bo') :
  Holds S (B.set id bo') (σ.set id r') H'/\Ext S B H S (B.set id bo') H'/\b8 S S B (B.set id bo') σ (σ.set id r'):=by
 have π:=Vj (S:=S) μ hb yn
 have cb:id<σ.length:=(b0.1 μ).1
 have pR:id<B.length:=(b0.1 hb).1
 have other:∀(j:Nat) (cp:Row) (b N:Nat),j≠id->σ[j]?=some cp->cp.live->B[j]?=some (some (b,N))->lD H H' b:=λj cp b N ζ Ar ek cT=>by
  refine cD b (λfp e=>?_) (λfp e=>?_)
  ·exact Δ.inj j id cp r b N fp ζ Ar μ ek fr cT (by rw[hb,e])
  ·rcases gE b fp e with⟨mH,γ⟩|γ
   ·exact Δ.inj j id cp r b N mH ζ Ar μ ek fr cT (by rw[hb,γ])
   ·exact Δ.o1 Ar ek cT γ
 refine⟨⟨λb o v hv=>?_,by simp[Δ.len],λj cp uY ζ cT=>?_,λi j eF cp b gO gP fP hi ζ g5 ek g6 cT=>?_,λj cp b N ζ ek cT o=>?_⟩,⟨λ_ _ _ h=>h,λb kA Ρ=>?_,λb kA=>?_,λb o v hv=>.inl hv,uS⟩,π⟩
 ·have ao:=Δ.dy b o v hv
  have Θ:∀N,bo≠some (b,N):=λN e=>by
   have:=Δ.sep id r b N μ fr (by rw[hb,e]) o;rw[hv] at this;cases this
  have r9:∀N,bo'≠some (b,N):=λN e=>by
   rcases gE b N e with⟨mH,γ⟩|γ
   ·exact Θ mH γ
   ·obtain⟨p,ω⟩:=ao;rw[γ.1 o] at ω;cases ω
  rw[(cD b Θ r9).1];exact ao
 ·by_cases e:id=j
  ·subst e;rw[List.getElem?_set_self cb] at ζ;rw[List.getElem?_set_self pR] at cT;cases ζ;cases cT;exact bX π
  ·rw[List.getElem?_set_ne e] at ζ cT;by_cases ek:cp.live
   ·refine(Δ.row j cp uY ζ cT).later π (λb N jE=>other j cp b N (Ne.symm e) ζ ek (by rw[cT,jE])) λm left cur fK=>?_;subst fK;have hm:id≠m:=λx=>by subst x;exact dJ j left cur ζ
    refine⟨by rw[List.getElem?_set_ne hm],by rw[List.getElem?_set_ne hm],λb N ti=>?_⟩;obtain⟨_,_,a4,lB,xs,clock,seen,_,U,⟨es,γ⟩,_⟩:=Δ.row j _ uY ζ cT;exact other m _ b N (Ne.symm hm) γ trivial ti
   ·cases cp<;>first|exact absurd trivial ek|trivial
 ·have key:∀(i:Nat) (eF:Row) (N:Nat),(σ.set id r')[i]?=some eF->eF.live->(B.set id bo')[i]?=some (some (b,N))->i≠id->(σ[i]?=some eF/\B[i]?=some (some (b,N))):=λi eF N U _ ο bx=>by
   rw[List.getElem?_set_ne (Ne.symm bx)] at U ο;exact⟨U,ο⟩
  have As:∀(i:Nat) (eF:Row) (N fp:Nat),i≠id->σ[i]?=some eF->eF.live->B[i]?=some (some (b,N))->bo'=some (b,fp)->False:=λi eF N fp bx U γ ο Ι=>by
   rcases gE b fp Ι with⟨mH,ax⟩|ax
   ·exact Δ.inj i id eF r b N mH bx U μ γ fr ο (by rw[hb,ax])
   ·exact Δ.o1 U γ ο ax
  by_cases yd:i=id
  ·subst yd;rw[List.getElem?_set_self pR] at g6;obtain⟨U,γ⟩:=key j cp gP ζ ek cT (Ne.symm fP);exact As j cp gP gO (Ne.symm fP) U ek γ (by simpa using g6)
  ·obtain⟨U,γ⟩:=key i eF gO hi g5 g6 yd;by_cases k0:j=id
   ·subst k0;rw[List.getElem?_set_self pR] at cT;exact As i eF gO gP fP U g5 γ (by simpa using cT)
   ·obtain⟨ο,Ι⟩:=key j cp gP ζ ek cT k0;exact Δ.inj i j eF cp b gO gP fP U ο g5 ek γ Ι
 ·by_cases e:id=j
  ·subst e;rw[List.getElem?_set_self pR] at cT;have Vk:bo'=some (b,N):=by simpa using cT
   rcases gE b N Vk with⟨mH,γ⟩|γ
   ·exact Δ.sep id r b mH μ fr (by rw[hb,γ]) o
   ·cases hv:S b o with
    | none=>rfl
    | some v=>obtain⟨p,ω⟩:=Δ.dy b o v hv;rw[γ.1 o] at ω;cases ω
  ·rw[List.getElem?_set_ne e] at ζ cT;exact Δ.sep j cp b N ζ ek cT o
 ·refine og.of (cD b (λN e=>kA (pQ (id:=id) (N:=N) (by rw[hb,e]))) λN e=>?_);rcases gE b N e with⟨mH,γ⟩|γ
  ·exact kA (pQ (id:=id) (N:=mH) (by rw[hb,γ]))
  ·exact Ρ γ
 ·obtain⟨N,cK⟩:=kA;obtain⟨j,ζ⟩:=List.getElem?_of_mem cK;by_cases e:id=j
  ·subst e;rw[List.getElem?_set_self pR] at ζ;rcases gE b N (by simpa using ζ) with⟨mH,γ⟩|γ
   ·exact .inl (pQ (id:=id) (N:=mH) (by rw[hb,γ]))
   ·exact .inr γ
  ·rw[List.getElem?_set_ne e] at ζ;exact .inl (pQ ζ)
theorem Vl {r:Row} {bo:Option (Nat×Nat)} (hlen:B.length=σ.length):b8 S S B (B++[bo]) σ (σ++[r]):=by
 refine⟨λ_ _ _ h=>h,λj cp ζ=>?_⟩;have aN:=(b0.1 ζ).1;exact⟨cp,by rw[dM aN];exact ζ,by rw[dM J];exact cp.tc _⟩
theorem Holds.push (Δ:Holds S B σ H) {r:Row} {bo:Option (Nat×Nat)} (gE:∀b N,bo=some (b,N)->H.fresh b) (cD:∀b,(∀N,bo≠some (b,N))->lD H H' b)
  (bX:b8 S S B (B++[bo]) σ (σ++[r])->kC S (B++[bo]) (σ++[r]) H' r bo) :
  Holds S (B++[bo]) (σ++[r]) H'/\Ext S B H S (B++[bo]) H'/\b8 S S B (B++[bo]) σ (σ++[r]):=by
 have π:=Vl (S:=S) (r:=r) (bo:=bo) Δ.len
 have hlen:=Δ.len
 have uS:∀b,H'.fresh b->H.fresh b:=by
  have key:∀b,((∀o,H'.aS b o=none)->∀o,H.aS b o=none)/\(H'.row b=none->H.row b=none)/\(H'.obj b=none->H.obj b=none):=λb=>by
   by_cases e:∀N,bo≠some (b,N)
   ·obtain⟨a1,bb,cP⟩:=cD b e;exact⟨λh o=>by rw[<-a1 o];exact h o,λh=>by rw[<-bb];exact h,λh=>by rw[<-cP];exact h⟩
   ·obtain⟨N,cK⟩:=Classical.not_forall.1 e;have Ρ:=gE b N (Classical.not_not.1 cK);exact⟨λ_=>Ρ.1,λ_=>Ρ.2.1,λ_=>Ρ.2.2.1⟩
  exact λb hb=>⟨(key b).1 hb.1,(key b).2.1 hb.2.1,(key b).2.2 hb.2.2.1,λag aN=>⟨(key ag).1 (hb.2.2.2 ag aN).1,(key ag).2.1 (hb.2.2.2 ag aN).2.1,(key ag).2.2 (hb.2.2.2 ag aN).2.2⟩⟩
 have other:∀(j:Nat) (cp:Row) (b N:Nat),σ[j]?=some cp->cp.live->B[j]?=some (some (b,N))->lD H H' b:=λj cp b N Ar ek cT=>
  cD b λfp e=>Δ.o1 Ar ek cT (gE b fp e)
 have old:∀{α:Type} (l:List α) (x:α) (j:Nat) (y:α),(l++[x])[j]?=some y->(j<l.length/\l[j]?=some y)\/(j=l.length/\x=y):=λl x j y h=>by
  by_cases ζ:j<l.length
  ·rw[dM ζ] at h;exact .inl ⟨ζ,h⟩
  ·rw[gA J] at h;have:j-l.length=0:=by
    have:=(b0.1 h).1;simp at this;omega
   rw[this] at h;simp at h;exact .inr ⟨J,h⟩
 refine⟨⟨λb o v hv=>?_,by simp[hlen],λj cp uY ζ cT=>?_,λi j eF cp b gO gP fP hi ζ g5 ek g6 cT=>?_,λj cp b N ζ ek cT o=>?_⟩,⟨λ_ _ _ h=>h,λb kA Ρ=>?_,λb kA=>?_,λb o v hv=>.inl hv,uS⟩,π⟩
 ·obtain⟨p,ω⟩:=Δ.dy b o v hv;rw[(cD b λN e=>by have:=(gE b N e).1 o;rw[ω] at this;cases this).1];exact⟨p,ω⟩
 ·rcases old σ r j cp ζ with⟨U,γ⟩|⟨U,rfl⟩
  ·rw[dM J] at cT;by_cases ek:cp.live
   ·refine(Δ.row j cp uY γ cT).later π (λb N jE=>other j cp b N γ ek (by rw[cT,jE])) λm left cur fK=>?_;subst fK;obtain⟨_,_,a4,lB,xs,clock,seen,_,Ζ,⟨es,Ε⟩,_⟩:=Δ.row j _ uY γ cT;have hm:=(b0.1 Ε).1;exact⟨by rw[dM hm],by rw[dM J],λb N ti=>other m _ b N Ε trivial ti⟩
   ·cases cp<;>first|exact absurd trivial ek|trivial
  ·rw[U,<-hlen] at cT;simp at cT;subst cT;exact bX π
 ·rcases old σ r i eF hi with⟨U,γ⟩|⟨U,rfl⟩<;>rcases old σ r j cp ζ with⟨ο,Ι⟩|⟨ο,rfl⟩
  ·rw[dM J] at g6 cT;exact Δ.inj i j eF cp b gO gP fP γ Ι g5 ek g6 cT
  ·rw[dM J] at g6;rw[ο,<-hlen] at cT;simp at cT;exact Δ.o1 γ g5 g6 (gE b gP cT)
  ·rw[dM J] at cT;rw[U,<-hlen] at g6;simp at g6;exact Δ.o1 Ι ek cT (gE b gO g6)
  ·omega
 ·rcases old σ r j cp ζ with⟨U,γ⟩|⟨U,rfl⟩
  ·rw[dM J] at cT;exact Δ.sep j cp b N γ ek cT o
  ·rw[U,<-hlen] at cT;simp at cT;cases hv:S b o with
   | none=>rfl
   | some v=>obtain⟨p,ω⟩:=Δ.dy b o v hv;rw[(gE b N cT).1 o] at ω;cases ω
 ·exact og.of (cD b λN e=>Ρ (gE b N e))
 ·obtain⟨N,cK⟩:=kA;rcases List.mem_append.1 cK with h|h
  ·exact .inl ⟨N,h⟩
  ·simp at h;exact .inr (gE b N h.symm)
def aO.lay (S:aO) (r:Nat) (c:Array Value):aO:=λb o=>if b=r then c[o]? else S b o
theorem Holds.lay (Δ:Holds S B σ H) {r:Nat} {c:Array Value} {t:TypeId} (Ρ:H.fresh r) :
  Holds (S.lay r c) B σ (H.dS r c t)/\Ext S B H (S.lay r c) B (H.dS r c t)/\b8 S (S.lay r c) B B σ σ:=by
 have Θ:∀o,S r o=none:=λo=>by
  cases hv:S r o with
  | none=>rfl
  | some v=>obtain⟨p,ω⟩:=Δ.dy r o v hv;rw[Ρ.1 o] at ω;cases ω
 have cD:∀b o v,S b o=some v->S.lay r c b o=some v:=λb o v h=>by
  unfold aO.lay;rw[if_neg (λe=>by subst e;rw[Θ] at h;cases h)];exact h
 have π:b8 S (S.lay r c) B B σ σ:=⟨cD,λ_ cp h=>⟨cp,h,cp.tc _⟩⟩
 have a3:∀b,b≠r->lD H (H.dS r c t) b:=λb hb=>⟨λo=>by simp[Γ.dS,hb],by simp[Γ.dS,hb],rfl⟩;refine⟨⟨λb o v hv=>?_,Δ.len,λj cp uY ζ cT=>?_,Δ.inj,λj cp b N ζ ek cT o=>?_⟩,⟨cD,λb _ pS=>og.of (a3 b λe=>pS (e▸Ρ)),λb hb=>.inl hb,λb o v hv=>?_,Γ.M7 Ρ c t⟩,π⟩
 ·unfold aO.lay at hv;split at hv
  ·rename_i e;subst e;exact⟨true,by simp[Γ.dS,hv]⟩
  ·rename_i e;rw[(a3 b e).1];exact Δ.dy b o v hv
 ·by_cases ek:cp.live
  ·have Dx:∀(j:Nat) (cp:Row) (b N:Nat),σ[j]?=some cp->cp.live->B[j]?=some (some (b,N))->b≠r:=λj cp b N U γ ο e=>Δ.o1 U γ ο (e▸Ρ);refine(Δ.row j cp uY ζ cT).later π (λb N jE=>a3 b (Dx j cp b N ζ ek (by rw[cT,jE]))) λm left cur fK=>?_;subst fK;obtain⟨_,_,a4,lB,xs,clock,seen,_,Ζ,⟨es,Ε⟩,_⟩:=Δ.row j _ uY ζ cT;exact⟨rfl,rfl,λb N ti=>a3 b (Dx m _ b N Ε trivial ti)⟩
  ·cases cp<;>first|exact absurd trivial ek|trivial
 ·unfold aO.lay;rw[if_neg (λe:b=r=>Δ.o1 ζ ek cT (e▸Ρ))];exact Δ.sep j cp b N ζ ek cT o
 ·unfold aO.lay at hv;split at hv
  ·rename_i e;subst e;exact .inr (.inr Ρ)
  ·exact .inl hv
end
def Au:Value->θ
 | .slice none 0 0=>.sl true 0 []
 | v=>.z v
def ia:Value->θ
 | .agg vs=>.a3 (vs.toList.map Au)
 | v=>Au v
def aT (env:ab):Operand->θ
 | .tmp n=>a' env n
 | .const v=>ia v
 | .global _=>.cz
 | .func f=>.fn (.func f) [] []
theorem Ng {S:aO} {B:a0} {σ:ac} (v:Value):aA S B σ (Au v) v:=by
 unfold Au;split
 ·exact .iT none 0 λ_=>rfl
 ·exact .z v
theorem qN {S:aO} {B:a0} {σ:ac} (v:Value):aA S B σ (ia v) v:=by
 unfold ia;split
 ·rename_i vs;refine .a3 vs η λi a w U γ=>?_;rw[List.getElem?_map,Array.getElem?_toList,γ] at U;cases U;exact Ng w
 ·exact Ng _
theorem mI {S:aO} {B:a0} {σ:ac} {env:ab} {t:Array Value} (h:dB S B σ env t) (o:Operand):aA S B σ (aT env o) (bt t o):=by
 cases o with
 | tmp n=>exact h n
 | const v=>exact qN v
 | global g=>exact .cz _
 | func f=>exact .fn #[] #[] rfl rfl (λi a v hi=>by simp at hi) (λi a v hi=>by simp at hi)
inductive c5 where
 | ok (a:θ) (σ:ac)
 | b' (p:Prop) (r:c5)
 | all (n:Nat) (f:Nat->c5)
 | bad
def c5.holds (K:θ->ac->Prop):c5->Prop
 | .ok a σ=>K a σ
 | .b' p r=>p/\r.holds K
 | .all n f=>∀i,i<n->(f i).holds K
 | .bad=>False
def Nh:Next->Option Value
 | .value v=>some v
 | .skip=>some undef
 | _=>none
def jG:TypeDesc->Bool
 | .int _|.string|.bool=>true
 | _=>false
def HQ (P:Program) (t:TypeId):Option (List (TypeDesc×Nat))->Prop
 | none=>True
 | some items=>P.eqGuardType P.depth t=false/\items.map (·.2)=List.range items.length/\
  ((∃dr,P.underlying t=some (.struct dr)/\P.stoodInHeld t=false/\items=dr.toList.map (λf=>((P.underlying f.type).getD .invalid,f.offset))/\∀f∈dr.toList,f.name≠ "_" /\ ∃d,P.underlying f.type=some d/\jG d=true)\/
   ∃n e d f,P.underlying t=some (.array n e)/\P.underlying e=some d/\jG d=true/\P.info? e=some f/\f.size=1/\items=(List.range n).map λi=>(d,i))
structure iU where
 size:Nat
 bM:TypeDesc
 zero:Value
 bytes:Nat
 eqs:Option (List (TypeDesc×Nat))
def iU.agg (i:iU):Bool:=mG i.bM
abbrev bk:=TypeId->Option iU
def bU (P:Program) (T:bk):Prop:=∀t i,T t=some i->(P.underlying t=some i.bM/\HQ P t i.eqs)/\∃f,P.info? t=some f/\f.size=i.size/\f.zero=some i.zero/\f.bytes=i.bytes
def jH (S:aO) (B:a0) (H:Γ) (σ:ac) (K:θ->ac->Prop) (v:Value) (H':Γ):Prop:=
 ∃aJ B' σ' a,K a σ'/\Ext S B H aJ B' H'/\Holds aJ B' σ' H'/\b8 S aJ B B' σ σ'/\aA aJ B' σ' a v
def cW (P:Program) (s:Sem Value) (S:aO) (B:a0) (H:Γ) (σ:ac) (r:c5):Prop:=
 ∀K:θ->ac->Prop,r.holds K->χ P s H (jH S B H σ K) (λ_ _=>False)
def Does (P:Program) (s:Sem Next) (S:aO) (B:a0) (H:Γ) (σ:ac) (r:c5):Prop:=
 ∀K:θ->ac->Prop,r.holds K->χ P s H (λee H'=>∃v,Nh ee=some v/\jH S B H σ K v H') (λ_ _=>False)
section
variable {P:Program} {T:bk} {S:aO} {B:a0} {H:Γ} {σ:ac} {env:ab} {t:Array Value}
theorem cW.next {s:Sem Value} {r:c5} (h:cW P s S B H σ r):Does P (do pure (.value (<-s))) S B H σ r:=λK κ=>
 χ.bind' (χ.mono (λv G hb=>χ.pure' ⟨v,rfl,hb⟩) (λ_ _ h=>h) _ (h K κ))
theorem jH.same {K:θ->ac->Prop} {a:θ} {v:Value} (Δ:Holds S B σ H) (κ:K a σ) (ν:aA S B σ a v):jH S B H σ K v H:=⟨S,B,σ,a,κ,.refl _ _ _,Δ,.refl _ _ _,ν⟩
theorem cW.pure {a:θ} {v:Value} (Δ:Holds S B σ H) (ν:aA S B σ a v):cW P (pure v) S B H σ (.ok a σ):=λK κ=>
 χ.pure' (.same Δ κ ν)
theorem cW.bad {s:Sem Value}:cW P s S B H σ .bad:=λK κ=>κ.elim
theorem cW.b' {s:Sem Value} {p:Prop} {r:c5} (h:p->cW P s S B H σ r):cW P s S B H σ (.b' p r):=λK κ=>h κ.1 K κ.2
theorem Does.val {a:θ} {v:Value} (Δ:Holds S B σ H) (ν:aA S B σ a v):Does P (pure (.value v)) S B H σ (.ok a σ):=λK κ=>
 χ.pure' ⟨v,rfl,.same Δ κ ν⟩
theorem Does.bad {s:Sem Next}:Does P s S B H σ .bad:=λK κ=>κ.elim
theorem bU.size (Ν:bU P T) {ty:TypeId} {i:iU} (h:T ty=some i) {G:Γ} {K:Nat->Γ->Prop} {E:Value->Γ->Prop} (ψ:K i.size G):χ P (sizeOf ty) G K E:=by
 obtain⟨_,f,U,γ,_⟩:=Ν ty i h;exact χ.sizeOf U (by rw[γ];exact ψ)
theorem bU.bM (Ν:bU P T) {ty:TypeId} {i:iU} (h:T ty=some i) {G:Γ} {K:TypeDesc->Γ->Prop} {E:Value->Γ->Prop} (ψ:K i.bM G):χ P (underlying ty) G K E:=
 χ.underlying (Ν ty i h).1.1 ψ
theorem bU.agg (Ν:bU P T) {ty:TypeId} {i:iU} (h:T ty=some i) {G:Γ} {K:Bool->Γ->Prop} {E:Value->Γ->Prop} (ψ:K i.agg G):χ P (isAgg ty) G K E:=
 χ.isAgg (Ν ty i h).1.1 ψ
theorem bU.zero (Ν:bU P T) {ty:TypeId} {i:iU} (h:T ty=some i) {G:Γ} {K:Value->Γ->Prop} {E:Value->Γ->Prop} (ψ:K i.zero G):χ P (zeroValue ty) G K E:=by
 obtain⟨_,f,U,_,ο,_⟩:=Ν ty i h;exact χ.zeroValue U ο ψ
theorem bU.info (Ν:bU P T) {ty:TypeId} {i:iU} (h:T ty=some i) {G:Γ} {K:TypeInfo->Γ->Prop} {E:Value->Γ->Prop} (ψ:∀f:TypeInfo,f.bytes=i.bytes->K f G):χ P (typeInfo ty) G K E:=by
 obtain⟨_,f,U,_,_,Ι⟩:=Ν ty i h;exact χ.typeInfo U (ψ f Ι)
end
inductive cB where
 | ok (a:θ)
 | b' (p:Prop) (r:cB)
 | bad
def cB.dC (σ:ac):cB->c5
 | .ok a=>.ok a σ
 | .b' p r=>.b' p (r.dC σ)
 | .bad=>.bad
section
variable {P:Program} {T:bk} {S:aO} {B:a0} {H:Γ} {σ:ac} {env:ab} {t:Array Value}
def eG (k:IntKind) (a b:Int):Int:=k.wrap (BitVec.ofInt k.bits a&&&BitVec.ofInt k.bits b).toNat
def fB (k:IntKind) (a b:Int):Int:=k.wrap (BitVec.ofInt k.bits a|||BitVec.ofInt k.bits b).toNat
def Av (k:IntKind) (a b:Int):Int:=k.wrap (BitVec.ofInt k.bits a^^^BitVec.ofInt k.bits b).toNat
def eP (k:IntKind) (a b:Int):Int:=k.wrap (BitVec.ofInt k.bits a&&&~~~BitVec.ofInt k.bits b).toNat
def Dy (a b:ByteArray):Bool:=Op.bytesLess a.toList b.toList
def tj (a b:ByteArray):Bool:=Op.bytesLess a.toList b.toList||a.toList==b.toList
def tk (op:BinOp) (x y:Value):cB:=
 match op,x,y with
 | .shl,.int k a,.int _ b=>.b' (0<=b) (.ok (.z (.int k (k.wrap (a*2 ^ (min b.toNat k.bits))))))
 | .shr,.int k a,.int _ b=>.b' (0<=b) (.ok (.z (.int k (a.fdiv (2 ^ (min b.toNat k.bits))))))
 | .add,.int k a,.int al b=>if k=al then .ok (.z (.int k (k.wrap (a+b)))) else .bad
 | .sub,.int k a,.int al b=>if k=al then .ok (.z (.int k (k.wrap (a-b)))) else .bad
 | .mul,.int k a,.int al b=>if k=al then .ok (.z (.int k (k.wrap (a*b)))) else .bad
 | .quo,.int k a,.int al b=>if k=al then .b' (b≠0) (.ok (.z (.int k (k.wrap (a.tdiv b))))) else .bad
 | .rem,.int k a,.int al b=>if k=al then .b' (b≠0) (.ok (.z (.int k (a.tmod b)))) else .bad
 | .and,.int k a,.int al b=>if k=al then .ok (.z (.int k (eG k a b))) else .bad
 | .or,.int k a,.int al b=>if k=al then .ok (.z (.int k (fB k a b))) else .bad
 | .xor,.int k a,.int al b=>if k=al then .ok (.z (.int k (Av k a b))) else .bad
 | .andNot,.int k a,.int al b=>if k=al then .ok (.z (.int k (eP k a b))) else .bad
 | .eql,.int k a,.int al b=>if k=al then .ok (.z (.bool (a==b))) else .bad
 | .neq,.int k a,.int al b=>if k=al then .ok (.z (.bool (a != b))) else .bad
 | .lss,.int k a,.int al b=>if k=al then .ok (.z (.bool (decide (a<b)))) else .bad
 | .leq,.int k a,.int al b=>if k=al then .ok (.z (.bool (decide (a<=b)))) else .bad
 | .gtr,.int k a,.int al b=>if k=al then .ok (.z (.bool (decide (a > b)))) else .bad
 | .geq,.int k a,.int al b=>if k=al then .ok (.z (.bool (decide (a>=b)))) else .bad
 | .add,.string a,.string b=>.b' (((a.size+b.size:Nat):Int)<=IntKind.i64.max) (.ok (.z (.string (a++b))))
 | .eql,.string a,.string b=>.ok (.z (.bool (a.toList==b.toList)))
 | .neq,.string a,.string b=>.ok (.z (.bool !(a.toList==b.toList)))
 | .lss,.string a,.string b=>.ok (.z (.bool (Dy a b)))
 | .leq,.string a,.string b=>.ok (.z (.bool (tj a b)))
 | .gtr,.string a,.string b=>.ok (.z (.bool (!(tj a b))))
 | .geq,.string a,.string b=>.ok (.z (.bool (!(Dy a b))))
 | _,_,_=>.bad
theorem Vm (Δ:Holds S B σ H) (op:BinOp) (ty:TypeId) (p q:Operand) (x y:Value):cW P (do eqGuard op ty p q x y;binOp op ty x y) S B H σ ((tk op x y).dC σ):=by
 unfold tk;split
 case h_25=>exact .bad
 case h_1=>
  refine .b' λh=>?_;have dh:¬(_:Int)<0:=Int.not_lt.2 h;simp only[eqGuard,binOp,Op.shift,dh,if_false];exact .pure Δ (.z _)
 case h_2=>
  refine .b' λh=>?_;have dh:¬(_:Int)<0:=Int.not_lt.2 h;simp only[eqGuard,binOp,Op.shift,dh,if_false];exact .pure Δ (.z _)
 case h_6=>
  split
  ·rename_i e;subst e;exact .b' λh=>by simp only[eqGuard,binOp,Op.intDiv,h,if_false,ne_eq,not_true_eq_false];exact .pure Δ (.z _)
  ·exact .bad
 case h_7=>
  split
  ·rename_i e;subst e;exact .b' λh=>by simp only[eqGuard,binOp,Op.intDiv,h,if_false,ne_eq,not_true_eq_false];exact .pure Δ (.z _)
  ·exact .bad
 case h_18=>
  refine .b' λh=>?_;have dh:¬((_:Int) > IntKind.i64.max):=Int.not_lt.2 h;simp only[eqGuard,binOp,Op.stringOp,dh,if_false];exact .pure Δ (.z _)
 all_goals first
  | exact .pure Δ (.z _)
  |(split
    ·rename_i e;subst e;simp only[eqGuard,binOp,Op.intArith,Op.intBits,Op.intCmp,ne_eq,not_true_eq_false,if_false];exact .pure Δ (.z _)
    ·exact .bad)
def yp (op:UnOp):θ->cB
 | .z (.bool b)=>match op with|.not=>.ok (.z (.bool !b))|_=>.bad
 | .z (.int k n)=>match op with|.neg=>.ok (.z (.int k (k.wrap (0-n))))|_=>.bad
 | _=>.bad
theorem Vn (Δ:Holds S B σ H) (op:UnOp) {a:θ} {v:Value} (ν:aA S B σ a v):cW P (Op.unary op v) S B H σ ((yp op a).dC σ):=by
 unfold yp;split
 ·cases ν;split
  ·exact .pure Δ (.z _)
  ·exact .bad
 ·cases ν;split
  ·exact .pure Δ (.z _)
  ·exact .bad
 ·exact .bad
def Dz (i:Nat):θ->cB
 | .bj l=>match l[i]? with|some a=>.ok a|none=>.bad
 | .z (.tuple vs)=>match vs[i]? with|some v=>.ok (ia v)|none=>.bad
 | _=>.bad
theorem Vo (Δ:Holds S B σ H) (i:Nat) {a:θ} {v:Value} (ν:aA S B σ a v):cW P (Instr.extract v i) S B H σ ((Dz i a).dC σ):=by
 unfold Dz;split
 ·rename_i l;cases ν with
  | bj vs U γ=>
   cases π:l[i]? with
   | none=>exact .bad
   | some a=>
    have aN:i<vs.size:=by rw[<-U];exact(b0.1 π).1
    have hv:vs[i]?=some vs[i]:=fw aN;simp only[Instr.extract,hv];exact .pure Δ (γ i a _ π hv)
 ·rename_i vs;cases ν;cases hv:vs[i]? with
  | none=>exact .bad
  | some v=>simp only[Instr.extract,hv];exact .pure Δ (qN v)
 ·exact .bad
def DC (T:bk) (ty:TypeId) (a:θ):cB:=match T ty with
 | some i=>match i.bM with|.interface _=>.bad|_=>.ok (.gp ty a)
 | none=>.bad
theorem Vp (Ν:bU P T) (Δ:Holds S B σ H) (ty:TypeId) {a:θ} {v:Value} (ν:aA S B σ a v):cW P (Instr.makeInterface ty v) S B H σ ((DC T ty a).dC σ):=by
 unfold DC;cases hi:T ty with
 | none=>exact .bad
 | some i=>
  intro K κ;unfold Instr.makeInterface;refine χ.bind' (Ν.bM hi ?_);cases hu:i.bM<;>simp only[hu,cB.dC,c5.holds] at κ<;>first|exact κ.elim|exact χ.pure' (.same Δ κ (.gp v ν))
def wL (T:bk) (ty:TypeId) (ok:Bool) (a:θ):cB:=match T ty with
 | some i=>match i.bM with
  | .interface _=>.bad
  | _=>match a with
   | .gp t x=>if t=ty then .ok (if ok then .bj [x,.z (.bool true)] else x) else if ok then .ok (.bj [ia i.zero,.z (.bool false)]) else .bad
   | .z .nilIface=>if ok then .ok (.bj [ia i.zero,.z (.bool false)]) else .bad
   | _=>.bad
 | none=>.bad
theorem yq {a b:θ} {v w:Value} (h:aA S B σ a v) (k:aA S B σ b w):aA S B σ (.bj [a,b]) (.tuple #[v,w]):=by
 refine .bj _ rfl λi cj fG U γ=>?_
 match i with
 | 0=>simp at U γ;subst U;subst γ;exact h
 | 1=>simp at U γ;subst U;subst γ;exact k
 | i+2=>simp at U
theorem Vq (Ν:bU P T) (Δ:Holds S B σ H) (Vr ty:TypeId) (ok:Bool) {a:θ} {v:Value} (ν:aA S B σ a v):cW P (Instr.typeAssert v Vr ty ok) S B H σ ((wL T ty ok a).dC σ):=by
 unfold wL;cases hi:T ty with
 | none=>exact .bad
 | some i=>
  simp only;by_cases bd:∃w,i.bM=.interface w
  ·obtain⟨w,hw⟩:=bd;rw[hw];exact .bad
  have e:∀r:cB,(match i.bM with|.interface _=>cB.bad|_=>r)=r:=λr=>by
   cases hu:i.bM<;>first|rfl|exact absurd ⟨_,hu⟩ bd
  rw[e];clear e;split
  ·rename_i t x;cases ν with
   | gp w δ=>
    split
    ·rename_i e;subst e;intro K κ;unfold Instr.typeAssert;refine χ.bind' (Ν.bM hi ?_);generalize i.bM=d at bd ⊢;cases d<;>first
      | exact absurd ⟨_,rfl⟩ bd
      |(simp only[if_true]
        cases ok
        ·exact χ.pure' (.same Δ κ δ)
        ·exact χ.pure' (.same Δ κ (yq δ (.z _))))
    ·rename_i bx;split
     ·rename_i ea;subst ea;intro K κ;unfold Instr.typeAssert;refine χ.bind' (Ν.bM hi ?_);generalize i.bM=d at bd ⊢;cases d<;>first
       | exact absurd ⟨_,rfl⟩ bd
       |(simp only[bx,if_false,if_true]
         exact χ.bind' (Ν.zero hi (χ.pure' (.same Δ κ (yq (qN _) (.z _))))))
     ·exact .bad
  ·cases ν;split
   ·rename_i ea;subst ea;intro K κ;unfold Instr.typeAssert;refine χ.bind' (Ν.bM hi ?_);generalize i.bM=d at bd ⊢;cases d<;>first
     | exact absurd ⟨_,rfl⟩ bd
     |(simp only[if_true]
       exact χ.bind' (Ν.zero hi (χ.pure' (.same Δ κ (yq (qN _) (.z _))))))
   ·exact .bad
  ·exact .bad
end
section
variable {P:Program} {T:bk} {S:aO} {B:a0} {H:Γ} {σ:ac}
def sa (i:iU) (l:am):cB:=
 if i.agg then(if i.size<=l.length then .ok (.a3 (l.take i.size)) else .bad)
 else match l with
  | a::_=>.ok a
  | []=>.bad
def DD (T:bk) (ty:TypeId):θ->cB
 | .au cells=>match T ty with|some i=>sa i cells|none=>.bad
 | _=>.bad
def o2 (T:bk) (ty:TypeId) (σ:ac):θ->c5
 | .ak id n i j=>match T ty,σ[id]? with
  | some lX,some (.cells _ _ l)=>if l.length=n then match l[i]? with
   | some e=>(sa lX (e.cells.drop j)).dC σ
   | none=>.bad else .bad
  | _,_=>.bad
 | _=>.bad
theorem DF (Ν:bU P T) (Δ:Holds S B σ H) {ty:TypeId} {i:iU} (hi:T ty=some i) {b o:Nat} {l:am} (w:Nat->Value) (ε:∀(j:Nat) (a:θ),l[j]?=some a->∃p,H.aS b (o+j)=some (w j,p)) (μ:∀(j:Nat) (a:θ),l[j]?=some a->aA S B σ a (w j)) :
  cW P (loadVar ty ⟨b,o,none⟩) S B H σ ((sa i l).dC σ):=by
 intro K κ;unfold sa at κ;unfold loadVar;refine χ.bind' (Ν.agg hi ?_);cases Aw:i.agg with
 | true=>
  rw[Aw] at κ;simp only[if_true] at κ ⊢;split at κ
  ·rename_i hle;refine χ.bind' (Ν.size hi (χ.bind' (χ.loadCells w rfl (λj ζ=>?_) ?_)))
   ·have:l[j]?=some l[j]:=a6 J;exact ε j _ this
   ·refine χ.pure' (.same Δ κ (.a3 _ (by simp;omega) λj a v U γ=>?_));have ζ:j<i.size:=by have:=(b0.1 U).1;simp at this;omega
    rw[List.getElem?_take_of_lt ζ] at U;simp[ζ] at γ;subst γ;exact μ j a U
  ·exact κ.elim
 | false=>
  rw[Aw] at κ;simp only[Bool.false_eq_true,if_false] at κ ⊢;cases l with
  | nil=>exact κ.elim
  | cons a l=>
   obtain⟨p,ω⟩:=ε 0 a rfl;exact⟨rfl,rfl,w 0,p,ω,jH.same Δ κ (μ 0 a rfl)⟩
theorem Vs (Ν:bU P T) (Δ:Holds S B σ H) {ty:TypeId} {a:θ} {v:Value} (ν:aA S B σ a v):cW P (Instr.loadAt ty v) S B H σ ((DD T ty a).dC σ):=by
 unfold DD;split
 ·rename_i cells;cases hi:T ty with
  | none=>exact .bad
  | some i=>
   cases ν with
   | au b o w U γ=>exact DF Ν Δ hi w (λj a ζ=>Δ.dy _ _ _ (U j a ζ)) γ
 ·exact .bad
theorem Ni (Δ:Holds S B σ H) {id k i b N:Nat} {t:TypeId} {l:am} {e:θ} (π:σ[id]?=some (.cells t k l)) (hb:B[id]?=some (some (b,N))) (he:l[i]?=some e) :
  e.cells.length=k/\∃w:Nat->Value,∀(j:Nat) (a:θ),e.cells[j]?=some a->H.aS b (i*k+j)=some (w j,true)/\aA S B σ a (w j)/\One (w j):=by
 obtain⟨_,_,_,w,hw⟩:=Δ.row id _ _ π hb;exact⟨(hw i e he).1,w i,(hw i e he).2⟩
theorem Vt (Ν:bU P T) (Δ:Holds S B σ H) {ty:TypeId} {a:θ} {v:Value} (ν:aA S B σ a v):cW P (Instr.loadAt ty v) S B H σ (o2 T ty σ a):=by
 unfold o2;split
 ·rename_i id n i j;split
  ·rename_i lX t k l hi π;split
   ·rename_i Θ;cases he:l[i]? with
    | none=>exact .bad
    | some e=>
     cases ν with
     | ak U γ ο=>
      rw[π] at U;cases U;obtain⟨ψ,w,hw⟩:=Ni Δ π ο he;refine DF Ν Δ hi (λx=>w (j+x)) (λx a δ=>⟨true,?_⟩) (λx a δ=>?_)
      ·rw[List.getElem?_drop] at δ;rw[Nat.add_assoc];exact(hw _ a δ).1
      ·rw[List.getElem?_drop] at δ;exact(hw _ a δ).2.1
     | kB v U γ=>rw[π] at U;cases U;simp only[Row.hT] at γ;omega
   ·exact .bad
  ·exact .bad
 ·exact .bad
def gQ (T:bk) (ty:TypeId) (f:Nat):Option (Nat×TypeId):=match T ty with
 | some i=>match i.bM with
  | .struct dr=>match dr[f]? with
   | some x=>match T x.type with
    | some bz=>if bz.size=0 then none else some (x.offset,x.type)
    | none=>none
   | none=>none
  | _=>none
 | none=>none
def DG (T:bk) (ty:TypeId) (f:Nat):θ->cB
 | .au cells=>match gQ T ty f with|some (o,_)=>.ok (.au (cells.drop o))|none=>.bad
 | .z (.pointer (some ⟨b,o',none⟩))=>match gQ T ty f with|some (o,_)=>.ok (.z (.pointer (some ⟨b,o'+o,none⟩)))|none=>.bad
 | _=>.bad
def o3 (T:bk) (ty:TypeId) (f:Nat) (σ:ac):θ->c5
 | .ak id n i j=>match gQ T ty f,σ[id]? with
  | some (o,_),some (.cells _ _ l)=>if l.length=n then .ok (.ak id n i (j+o)) σ else .bad
  | _,_=>.bad
 | _=>.bad
theorem uZ (b o n:Nat):(⟨b,o,none⟩:Addr).add n=⟨b,o+n,none⟩:=by
 unfold Addr.add;split
 ·simp_all
 ·rfl
theorem Nj {cells:am} {b o:Nat} (h:aA S B σ (.au cells) (.pointer (some ⟨b,o,none⟩))) (n:Nat):aA S B σ (.au (cells.drop n)) (.pointer (some ⟨b,o+n,none⟩)):=by
 cases h with
 | au b o w U γ=>
  refine .au b (o+n) (λj=>w (n+j)) (λj a ζ=>?_) (λj a ζ=>?_)
  ·rw[List.getElem?_drop] at ζ;rw[Nat.add_assoc];exact U _ a ζ
  ·rw[List.getElem?_drop] at ζ;exact γ _ a ζ
theorem HR (Ν:bU P T) {ty:TypeId} {f o:Nat} {Ax:TypeId} (Ρ:gQ T ty f=some (o,Ax)) {b o':Nat} {K:Value->Γ->Prop} {E:Value->Γ->Prop} (h:K (.pointer (some ⟨b,o'+o,none⟩)) H) :
  χ P (Instr.fieldAt ty (.pointer (some ⟨b,o',none⟩)) f) H K E:=by
 unfold gQ at Ρ;split at Ρ<;>try cases Ρ
 rename_i i hi;split at Ρ<;>try cases Ρ
 rename_i dr hu;split at Ρ<;>try cases Ρ
 rename_i x δ;split at Ρ<;>try cases Ρ
 rename_i bz k2;split at Ρ<;>try cases Ρ
 rename_i gF;unfold Instr.fieldAt;refine χ.bind' (Ν.bM hi ?_);rw[hu];simp only[δ];refine χ.bind' ?_;unfold fieldPlace;refine χ.bind' (χ.bind' (Ν.size k2 ?_));rw[if_neg gF,uZ];exact χ.pure' (χ.pure' h)
theorem Vu (Ν:bU P T) (Δ:Holds S B σ H) {ty:TypeId} {f:Nat} {a:θ} {v:Value} (ν:aA S B σ a v):cW P (Instr.fieldAt ty v f) S B H σ ((DG T ty f a).dC σ):=by
 unfold DG;split
 ·rename_i cells;cases Ρ:gQ T ty f with
  | none=>exact .bad
  | some x=>
   obtain⟨o,Ax⟩:=x;cases ν with
   | au b o' w U γ=>exact λK κ=>HR Ν Ρ (jH.same Δ κ (Nj (.au b o' w U γ) o))
 ·rename_i b o';cases Ρ:gQ T ty f with
  | none=>exact .bad
  | some x=>
   obtain⟨o,Ax⟩:=x;cases ν;exact λK κ=>HR Ν Ρ (jH.same Δ κ (.z _))
 ·exact .bad
theorem Vv (Ν:bU P T) (Δ:Holds S B σ H) {ty:TypeId} {f:Nat} {a:θ} {v:Value} (ν:aA S B σ a v):cW P (Instr.fieldAt ty v f) S B H σ (o3 T ty f σ a):=by
 unfold o3;split
 ·rename_i id n i j;split
  ·rename_i o Ax t k l Ρ π;split
   ·rename_i Θ;cases ν with
    | ak U γ ο=>
     rw[π] at U;cases U;refine λK κ=>HR Ν Ρ (jH.same Δ κ ?_);rw[Nat.add_assoc];exact .ak π Θ ο
    | kB v U γ=>rw[π] at U;cases U;simp only[Row.hT] at γ;omega
   ·exact .bad
  ·exact .bad
 ·exact .bad
theorem sb {ex:Bool} {k:Nat} {l:am} {v:Value} (h:aA S B σ (.sl ex k l) v):∃base cap,v=.slice base l.length cap/\l.length<=cap/\(ex=true->cap=l.length)/\(l≠[]->∃(b o:Nat) (w:Nat->Nat->Value),base=some ⟨b,o,none⟩/\(∀(i:Nat) (e:θ),l[i]?=some e->e.cells.length=k)/\
  (∀(i:Nat) (e:θ),l[i]?=some e->∀(j:Nat) (c:θ),e.cells[j]?=some c->S b (o+i*k+j)=some (w i j))/\(∀(i:Nat) (e:θ),l[i]?=some e->∀(j:Nat) (c:θ),e.cells[j]?=some c->aA S B σ c (w i j))):=by
 cases h with
 | iT base cap h=>exact⟨base,cap,rfl,Nat.zero_le _,h,λx=>absurd rfl x⟩
 | sl b o cap w U γ ο Ι ax=>exact⟨_,cap,rfl,γ,U,λ_=>⟨b,o,w,rfl,ο,Ι,ax⟩⟩
theorem Vw {ex:Bool} {k:Nat} {l:am} {base:Option Addr} {len cap i:Nat} {e:θ} (h:aA S B σ (.sl ex k l) (.slice base len cap)) (he:l[i]?=some e):∃b o,base=some ⟨b,o,none⟩/\aA S B σ (.au e.cells) (.pointer (some ⟨b,o+i*k,none⟩)):=by
 obtain⟨Vx,HS,hv,_,_,U⟩:=sb h;cases hv;obtain⟨b,o,w,rfl,γ,ο,Ι⟩:=U (by rintro rfl;simp at he);exact⟨b,o,rfl,.au b (o+i*k) (w i) (ο i e he) (Ι i e he)⟩
def iV (T:bk) (ty:TypeId):Option (TypeId×Nat×Option Nat):=match T ty with
 | some i=>match i.bM with
  | .slice e=>match T e with|some b6=>some (e,b6.size,none)|none=>none
  | .array n e=>match T e with|some b6=>some (e,b6.size,some n)|none=>none
  | _=>none
 | none=>none
theorem DH {ty e:TypeId} {k:Nat} (h:iV T ty=some (e,k,none)):∃i b6,T ty=some i/\i.bM=.slice e/\T e=some b6/\b6.size=k:=by
 unfold iV at h;split at h
 ·rename_i i hi;split at h
  ·rename_i aP hu;split at h
   ·rename_i b6 he;cases h;exact⟨i,b6,hi,hu,he,rfl⟩
   ·cases h
  ·split at h<;>cases h
  ·cases h
 ·cases h
theorem Vy {ty e:TypeId} {k n:Nat} (h:iV T ty=some (e,k,some n)):∃i b6,T ty=some i/\i.bM=.array n e/\T e=some b6/\b6.size=k:=by
 unfold iV at h;split at h
 ·rename_i i hi;split at h
  ·split at h<;>cases h
  ·rename_i aP jT hu;split at h
   ·rename_i b6 he;cases h;exact⟨i,b6,hi,hu,he,rfl⟩
   ·cases h
  ·cases h
 ·cases h
def DI (T:bk) (ty:TypeId) (a bz:θ):cB:=
 match iV T ty,bz with
 | some (_,qO,none),.z (.int _ n)=>match a with
  | .sl _ k l=>if k=qO then .b' (0<=n/\n<l.length) (.ok (.au (l.getD n.toNat .cz).cells)) else .bad
  | _=>.bad
 | some (_,qO,some m),.z (.int _ n)=>match a with
  | .au cells=>.b' (0<=n/\n<m) (.ok (.au (cells.drop (n.toNat*qO))))
  | _=>.bad
 | _,_=>.bad
def o4 (T:bk) (ty:TypeId) (σ:ac) (a bz:θ):c5:=
 match iV T ty,bz with
 | some (_,qO,none),.z (.int _ n)=>match a with
  | .ms id m i len=>match σ[id]? with
   | some (.cells _ k l)=>if k=qO/\l.length=m then .b' (0<=n/\n<len) (.ok (.ak id m (i+n.toNat) 0) σ) else .bad
   | _=>.bad
  | _=>.bad
 | some (_,qO,some len),.z (.int _ n)=>match a with
  | .ak id m i j=>match σ[id]? with
   | some (.cells _ _ l)=>if l.length=m then .b' (0<=n/\n<len) (.ok (.ak id m i (j+n.toNat*qO)) σ) else .bad
   | _=>.bad
  | _=>.bad
 | _,_=>.bad
theorem Nk (Ν:bU P T) {ty e:TypeId} {k:Nat} (he:iV T ty=some (e,k,none)) {b o len cap:Nat} {kk:IntKind} {n:Int} (Θ:0<=n/\n<len) {K:Value->Γ->Prop} {E:Value->Γ->Prop}
  (h:K (.pointer (some ⟨b,o+n.toNat*k,none⟩)) H):χ P (Instr.indexAt ty (.slice (some ⟨b,o,none⟩) len cap) (.int kk n)) H K E:=by
 obtain⟨i,b6,hi,hu,HT,rfl⟩:=DH he;unfold Instr.indexAt;refine χ.bind' ?_;refine χ.bind' (Ν.bM hi ?_);rw[hu];refine χ.bind' (χ.pure' ?_);refine χ.bind' (Ν.bM hi ?_);rw[hu];simp only[Θ,and_self,if_true];refine χ.bind' (Ν.size HT ?_);rw[uZ];exact h
theorem Nl (Ν:bU P T) {ty e:TypeId} {k m:Nat} (he:iV T ty=some (e,k,some m)) {b o:Nat} {kk:IntKind} {n:Int} (Θ:0<=n/\n<m) {K:Value->Γ->Prop} {E:Value->Γ->Prop}
  (h:K (.pointer (some ⟨b,o+n.toNat*k,none⟩)) H):χ P (Instr.indexAt ty (.pointer (some ⟨b,o,none⟩)) (.int kk n)) H K E:=by
 obtain⟨i,b6,hi,hu,HT,rfl⟩:=Vy he;unfold Instr.indexAt;refine χ.bind' ?_;refine χ.bind' (Ν.bM hi ?_);rw[hu];refine χ.bind' (χ.bind' (χ.pure' ?_));refine χ.bind' (Ν.bM hi ?_);rw[hu];simp only[Θ,and_self,if_true];refine χ.bind' (Ν.size HT ?_);rw[uZ];exact h
theorem Vz (Ν:bU P T) (Δ:Holds S B σ H) {ty:TypeId} {a bz:θ} {v w:Value} (ν:aA S B σ a v) (δ:aA S B σ bz w):cW P (Instr.indexAt ty v w) S B H σ ((DI T ty a bz).dC σ):=by
 unfold DI;split
 ·rename_i e qO kk n he;cases δ;split
  ·rename_i ex k l;split
   ·rename_i ψ;subst ψ;refine .b' λΘ=>?_;obtain⟨base,cap,rfl,_⟩:=sb ν;have aN:n.toNat<l.length:=J;have oh:l[n.toNat]?=some l[n.toNat]:=a6 aN;obtain⟨b,o,rfl,μ⟩:=Vw ν oh;refine λK κ=>Nk Ν he Θ (jH.same Δ κ ?_);rw[List.getD_eq_getElem?_getD,oh];exact μ
   ·exact .bad
  ·exact .bad
 ·rename_i e qO m kk n he;cases δ;split
  ·rename_i cells;refine .b' λΘ=>?_;cases ν with
   | au b o w U γ=>exact λK κ=>Nl Ν he Θ (jH.same Δ κ (Nj (.au b o w U γ) _))
  ·exact .bad
 ·exact .bad
theorem VA (Ν:bU P T) (Δ:Holds S B σ H) {ty:TypeId} {a bz:θ} {v w:Value} (ν:aA S B σ a v) (δ:aA S B σ bz w):cW P (Instr.indexAt ty v w) S B H σ (o4 T ty σ a bz):=by
 unfold o4;split
 ·rename_i e qO kk n he;cases δ;split
  ·rename_i id m i len;split
   ·rename_i t k l π;split
    ·rename_i ψ;obtain⟨rfl,hm⟩:=ψ;refine .b' λΘ=>?_;cases ν with
     | ms cap U γ ο Ι ax bf=>
      rw[π] at U;cases U;rcases bf with bf|⟨b,N,rfl,rfl,bf⟩
      ·omega
      ·refine λK κ=>Nk Ν he Θ (jH.same Δ κ ?_);have:i*k+n.toNat*k=(i+n.toNat)*k+0:=by rw[Nat.add_mul];rfl
       rw[this];exact .ak π hm ο
     | jZ v U γ=>rw[π] at U;cases U;simp only[Row.hT] at γ;omega
    ·exact .bad
   ·exact .bad
  ·exact .bad
 ·rename_i e qO len kk n he;cases δ;split
  ·rename_i id m i j;split
   ·rename_i t k l π;split
    ·rename_i hm;refine .b' λΘ=>?_;cases ν with
     | ak U γ ο=>
      rw[π] at U;cases U;refine λK κ=>Nl Ν he Θ (jH.same Δ κ ?_);rw[Nat.add_assoc];exact .ak π hm ο
     | kB v U γ=>rw[π] at U;cases U;simp only[Row.hT] at γ;omega
    ·exact .bad
   ·exact .bad
  ·exact .bad
 ·exact .bad
end
def θ.bl (σ:ac):θ->Bool
 | .z v=>match v with|.agg _|.tuple _=>false|_=>true
 | .a3 _|.bj _|.cz=>false
 | .ak id n _ _|.ms id n _ _=>match σ[id]? with|some (.cells _ _ l)=>decide (l.length<=n)|_=>false
 | .mp id=>match σ[id]? with|some (.map _)=>true|_=>false
 | .it id=>match σ[id]? with|some (.iter ..)=>true|_=>false
 | _=>true
def θ.tl:θ->Nat->am->θ
 | .a3 l,j,cs=>.a3 (l.take j++cs++l.drop (j+cs.length))
 | _,0,[c]=>c
 | e,_,_=>e
theorem θ.HU {σ:ac} {a:θ} (h:a.bl σ=true):a.cells=[a]:=by
 cases a<;>first|rfl|cases h
theorem θ.Nm {σ:ac} {e:θ} {j:Nat} {cs:am} (hle:j+cs.length<=e.cells.length) (ea:∀c∈cs,θ.bl σ c=true):(e.tl j cs).cells=e.cells.take j++cs++e.cells.drop (j+cs.length):=by
 by_cases he:∃l,e=.a3 l
 ·obtain⟨l,rfl⟩:=he;rfl
 ·have U:e.cells=[e]:=by cases e<;>first|rfl|exact absurd ⟨_,rfl⟩ he
  rw[U] at hle ⊢;cases cs with
  | nil=>
   have:e.tl j []=e:=by cases e<;>cases j<;>first|rfl|exact absurd ⟨_,rfl⟩ he
   rw[this,U]
   match j with
   | 0=>rfl
   | j+1=>simp
  | cons c cs=>
   simp at hle;have ζ:j=0:=J;have gR:cs=[]:=by cases cs<;>simp at hle ⊢;omega
   subst ζ;subst gR;have:e.tl 0 [c]=c:=by cases e<;>first|rfl|exact absurd ⟨_,rfl⟩ he
   rw[this,θ.HU (ea c η)];simp
section
variable {P:Program} {T:bk} {S:aO} {B:a0} {H:Γ} {σ:ac}
theorem aA.Ay {a:θ} {v:Value} (h:aA S B σ a v) (Β:a.bl σ=true):One v:=by
 cases h with
 | z v=>cases v<;>first|trivial|cases Β
 | kB v U γ=>
  simp only[θ.bl,U] at Β;split at Β
  ·rename_i e;cases e;simp only[Row.hT] at γ;simp at Β;omega
  ·cases Β
 | jZ v U γ=>
  simp only[θ.bl,U] at Β;split at Β
  ·rename_i e;cases e;simp only[Row.hT] at γ;simp at Β;omega
  ·cases Β
 | mF v U=>simp[θ.bl,U] at Β
 | oe v U=>simp[θ.bl,U] at Β
 | a3|bj|cz=>cases Β
 | _=>trivial
theorem One.cells {v:Value} (h:One v):v.cells=#[v]:=by cases v<;>first|rfl|exact h.elim
theorem aA.cells {a:θ} {v:Value} (h:aA S B σ a v) (ν:a.cells.all (θ.bl σ)=true):v.cells.size=a.cells.length/\∀(j:Nat) (c:θ),a.cells[j]?=some c->∃x,v.cells[j]?=some x/\aA S B σ c x/\One x:=by
 have single:a.cells=[a]->v.cells.size=a.cells.length/\∀(j:Nat) (c:θ),a.cells[j]?=some c->∃x,v.cells[j]?=some x/\aA S B σ c x/\One x:=λe=>by
  rw[e] at ν ⊢;simp at ν;have Β:=h.Ay ν;rw[Β.cells];refine⟨rfl,λj c ζ=>?_⟩
  match j with
  | 0=>simp at ζ;subst ζ;exact⟨v,rfl,h,Β⟩
  | j+1=>simp at ζ
 cases h with
 | a3 vs U γ=>
  refine⟨U.symm,λj c ζ=>?_⟩;have aN:j<vs.size:=by rw[<-U];exact(b0.1 ζ).1
  have hv:vs[j]?=some vs[j]:=fw aN
  have μ:=γ j c _ ζ hv;exact⟨_,hv,μ,μ.Ay (List.all_eq_true.1 ν c (cy ζ))⟩
 | _=>exact single rfl
theorem DJ (Δ:Holds S B σ H) {id k:Nat} {t:TypeId} {l:am} (h:σ[id]?=some (.cells t k l)):∀(j:Nat) left cur,σ[j]?≠some (Row.iter id left cur):=λj left cur ζ=>by
 obtain⟨bo,hb⟩:=Nf Δ ζ;obtain⟨_,_,_,_,_,_,_,_,_,⟨es,γ⟩,_⟩:=Δ.row j _ bo ζ hb;rw[h] at γ;cases γ
theorem Nn {i e4 k bP lo hi:Nat} (ζ:bP<k) (pT:hi<=k) (h:e4≠i):¬(i*k+lo<=e4*k+bP/\e4*k+bP<i*k+hi):=by
 rintro⟨U,γ⟩;rcases Nat.lt_or_gt_of_ne h with h|h
 ·have:(e4+1)*k<=i*k:=Nat.mul_le_mul_right k h;rw[Nat.add_mul] at this;omega
 ·have:(i+1)*k<=e4*k:=Nat.mul_le_mul_right k h;rw[Nat.add_mul] at this;omega
def yr (P:Program) (s:Sem Unit) (S:aO) (B:a0) (H:Γ) (σ:ac) (r:c5):Prop:=
 ∀K:θ->ac->Prop,r.holds K->χ P s H (λ_ H'=>jH S B H σ K undef H') (λ_ _=>False)
theorem yr.next {s:Sem Unit} {r:c5} (h:yr P s S B H σ r):Does P (do s;pure .skip) S B H σ r:=λK κ=>
 χ.bind' (χ.mono (λ_ G hb=>χ.pure' ⟨undef,rfl,hb⟩) (λ_ _ h=>h) _ (h K κ))
theorem yr.bad {s:Sem Unit}:yr P s S B H σ .bad:=λK κ=>κ.elim
theorem VB (Δ:Holds S B σ H) {id k i j b N:Nat} {t:TypeId} {l:am} {e a:θ} {v:Value} (π:σ[id]?=some (.cells t k l)) (hb:B[id]?=some (some (b,N))) (he:l[i]?=some e) (ν:aA S B σ a v) (ea:a.cells.all (θ.bl σ)=true)
  (ζ:j+a.cells.length<=k) :
  (∀x∈v.cells.toList,One x)/\(∀x,x<a.cells.length->H.owns b (i*k+j+x))/\H.row b=some (t,N)/\
  (let σ':=σ.set id (.cells t k (l.set i (e.tl j a.cells)));Holds S (B.set id (some (b,N))) σ' (H.h' b (i*k+j) v.cells.toList)/\Ext S B H S (B.set id (some (b,N))) (H.h' b (i*k+j) v.cells.toList)/\b8 S S B (B.set id (some (b,N))) σ σ'):=by
 obtain⟨cA,gR⟩:=ν.cells ea;have hlen:v.cells.toList.length=a.cells.length:=by simpa using cA
 obtain⟨bX,cK,gE,w,hw⟩:=Δ.row id _ _ π hb;have hA:i<l.length:=(b0.1 he).1;have ys:(i+1)*k<=N:=Nat.le_trans (Nat.mul_le_mul_right k hA) cK;have kξ:i*k+k<=N:=by rw[Nat.add_mul] at ys;omega
 have HV:=(hw i e he).1
 have HW:∀c∈a.cells,θ.bl σ c=true:=List.all_eq_true.1 ea
 have ca:=θ.Nm (σ:=σ) (e:=e) (j:=j) (cs:=a.cells) (by rw[HV];exact ζ) HW;refine⟨λx δ=>?_,λx δ=>?_,bX,?_⟩
 ·obtain⟨y,Μ⟩:=List.getElem?_of_mem δ;have aN:y<a.cells.length:=by rw[<-hlen];exact(b0.1 Μ).1
  obtain⟨dw,U,_,γ⟩:=gR y _ (a6 aN);rw[Array.getElem?_toList] at Μ;rw[Μ] at U;cases U;exact γ
 ·obtain⟨u,hu⟩:=gE (i*k+j+x) J;exact⟨u,hu⟩
 ·refine Δ.yo (r':=.cells t k (l.set i (e.tl j a.cells))) (bo':=some (b,N)) π trivial hb (.inl ⟨_,rfl,η,rfl⟩) (λag fp aP=>.inl ⟨fp,aP⟩) (λag U _=>?_) Γ.HP (DJ Δ π) (λlQ=>?_)
  ·have bx:ag≠b:=λaP=>by subst aP;exact U N rfl
   exact⟨λo=>by simp[Γ.h',bx],rfl,rfl⟩
  ·refine⟨bX,by simpa using cK,λo Β=>?_,λe4 bP=>if e4=i/\j<=bP/\bP<j+a.cells.length then(v.cells[bP-j]?).getD undef else w e4 bP,λe4 aP aH=>?_⟩
   ·simp only[Γ.h'];split
    ·exact⟨_,rfl⟩
    ·exact gE o Β
   ·by_cases u1:e4=i
    ·subst u1;rw[List.getElem?_set_self hA] at aH;cases aH;rw[ca];refine⟨by simp;omega,λbP c ε=>?_⟩;by_cases bd:j<=bP/\bP<j+a.cells.length
     ·have a2:a.cells[bP-j]?=some c:=by
       rw[List.append_assoc,gA (by simp;omega)] at ε;simp only[List.length_take] at ε;rw[dM J] at ε;have:bP-min j e.cells.length=bP-j:=J;rw[this] at ε;exact ε
      obtain⟨x,U,γ,ο⟩:=gR _ _ a2;simp only[bd,and_self,if_true,U,Option.getD_some];refine⟨?_,γ.later lQ,ο⟩;simp only[Γ.h',hlen];rw[if_pos ⟨trivial,J,J⟩];have:e4*k+bP-(e4*k+j)=bP-j:=J;rw[this,Array.getElem?_toList,U];rfl
     ·have a2:e.cells[bP]?=some c:=by
       by_cases hB:bP<j
       ·rw[List.append_assoc,dM (by simp;omega),List.getElem?_take_of_lt hB] at ε;exact ε
       ·rw[gA (by simp;omega)] at ε;rw[List.getElem?_drop] at ε;have:j+a.cells.length+(bP-(e.cells.take j++a.cells).length)=bP:=by simp;omega
        rw[this] at ε;exact ε
      simp only[bd,and_false,if_false];obtain⟨U,γ,ο⟩:=(hw e4 e he).2 bP c a2;refine⟨?_,γ.later lQ,ο⟩;simp only[Γ.h',hlen];rw[if_neg (λx=>bd ⟨J,J⟩)];exact U
    ·rw[List.getElem?_set_ne (Ne.symm u1)] at aH;obtain⟨U,γ⟩:=hw e4 aP aH;refine⟨U,λbP c ε=>?_⟩;obtain⟨ο,Ι,ax⟩:=γ bP c ε;have pU:bP<k:=by rw[<-U];exact(b0.1 ε).1
     simp only[u1,false_and,if_false];refine⟨?_,Ι.later lQ,ax⟩;simp only[Γ.h',hlen];rw[if_neg (λx=>Nn (lo:=j) (hi:=j+a.cells.length) pU ζ u1 ⟨x.2.1,J⟩)];exact ο
def DK (T:bk) (ty:TypeId) (σ:ac) (p a:θ):c5:=match p with
 | .ak id n i j=>match T ty,σ[id]? with
  | some lX,some (.cells t k l)=>match l[i]? with
   | some e=>if l.length=n/\a.cells.length=lX.size/\j+lX.size<=k/\a.cells.all (θ.bl σ)=true then .ok .cz (σ.set id (.cells t k (l.set i (e.tl j a.cells)))) else .bad
   | none=>.bad
  | _,_=>.bad
 | _=>.bad
theorem VC (Ν:bU P T) (Δ:Holds S B σ H) {ty:TypeId} {p a:θ} {u v:Value} (ω:aA S B σ p u) (ν:aA S B σ a v):yr P (Instr.storeAt ty u v) S B H σ (DK T ty σ p a):=by
 unfold DK;split
 ·rename_i id n i j;split
  ·rename_i lX t k l hi π;split
   ·rename_i e he;split
    ·rename_i ε;obtain⟨Θ,cA,pU,ea⟩:=ε;cases ω with
     | ak U γ ο=>
      rename_i b N;rw[π] at U;cases U;intro K κ;obtain⟨c1,c2,c3,c4⟩:=VB Δ π ο he ν ea (by omega:j+a.cells.length<=k);obtain⟨HX,_⟩:=ν.cells ea;refine χ.bind' (χ.pure' ?_);unfold storeVar;refine χ.bind' (Ν.size hi ?_);rw[if_neg J];refine χ.storeCells (G:=H) rfl ⟨t,N,c3⟩ v.cells.toList 0 H c1 (λx _ δ=>c2 x (by simp at δ;omega)) rfl ?_;exact⟨S,_,_,.cz,κ,c4.2.1,c4.1,c4.2.2,.cz _⟩
     | kB v U γ=>rw[π] at U;cases U;simp only[Row.hT] at γ;omega
    ·exact .bad
   ·exact .bad
  ·exact .bad
 ·exact .bad
end
section
variable {P:Program} {T:bk} {S:aO} {B:a0} {H:Γ} {σ:ac}
def gq (S:aO) (B:a0) (σ:ac) (c:Array Value) (k:Nat) (l:am):Prop:=
 l.length*k<=c.size/\∀(i:Nat) (e:θ),l[i]?=some e->e.cells.length=k/\∀(j:Nat) (a:θ),e.cells[j]?=some a->∃x,c[i*k+j]?=some x/\aA S B σ a x/\One x
theorem DL {a:θ} (h:a.bl []=true):a.bl σ=true:=by
 cases a<;>first|exact h|(simp[θ.bl] at h)
theorem yt {l:am} (h:l.all (θ.bl [])=true):l.all (θ.bl σ)=true:=by
 rw[List.all_eq_true] at *;exact λa ν=>DL (h a ν)
theorem gq.put {c:Array Value} {k:Nat} {l:am} (h:gq S B σ c k l) {i j:Nat} {e a:θ} {v:Value} (he:l[i]?=some e) (ν:aA S B σ a v) (ea:a.cells.all (θ.bl σ)=true) (ζ:j+a.cells.length<=k) :
  let c':=v.cells.zipIdx.foldl (λcs (x:Value×Nat)=>cs.setIfInBounds (i*k+j+x.2) x.1) c
  c'.size=c.size/\gq S B σ c' k (l.set i (e.tl j a.cells)):=by
 obtain⟨cA,gR⟩:=ν.cells ea;have hA:i<l.length:=(b0.1 he).1;have HV:=(h.2 i e he).1;have HW:∀c∈a.cells,θ.bl σ c=true:=List.all_eq_true.1 ea;have ca:=θ.Nm (σ:=σ) (e:=e) (j:=j) (cs:=a.cells) (by rw[HV];exact ζ) HW;have key:∀(vs:List Value) (n:Nat) (c:Array Value),((vs.zipIdx n).foldl (λcs (x:Value×Nat)=>cs.setIfInBounds (i*k+j+x.2) x.1) c).size=c.size/\
   ∀p,((vs.zipIdx n).foldl (λcs (x:Value×Nat)=>cs.setIfInBounds (i*k+j+x.2) x.1) c)[p]?=if i*k+j+n<=p/\p<i*k+j+n+vs.length/\p<c.size then vs[p-(i*k+j+n)]? else c[p]?:=by
  intro vs
  induction vs with
  | nil=>intro n c;refine⟨rfl,λp=>?_⟩;rw[if_neg (by simp;omega)];rfl
  | cons v vs Α=>
   intro n c;obtain⟨U,γ⟩:=Α (n+1) (c.setIfInBounds (i*k+j+n) v);simp only[List.zipIdx_cons,List.foldl_cons];refine⟨by rw[U];simp,λp=>?_⟩;rw[γ p];simp only[Array.size_setIfInBounds,List.length_cons];by_cases ω:p=i*k+j+n
   ·subst ω;rw[if_neg J];by_cases aN:i*k+j+n<c.size
    ·rw[if_pos ⟨J,J,aN⟩,Array.getElem?_setIfInBounds_self_of_lt aN];simp
    ·rw[if_neg J,Array.getElem?_eq_none (by simp;omega),Array.getElem?_eq_none J]
   ·by_cases bd:i*k+j+(n+1)<=p/\p<i*k+j+(n+1)+vs.length/\p<c.size
    ·rw[if_pos bd,if_pos ⟨J,J,bd.2.2⟩];have:p-(i*k+j+n)=(p-(i*k+j+(n+1)))+1:=J;rw[this,List.getElem?_cons_succ]
    ·rw[if_neg bd,if_neg J,Array.getElem?_setIfInBounds_ne (Ne.symm ω)]
 obtain⟨k1,bT⟩:=key v.cells.toList 0 c;have cu:v.cells.zipIdx.foldl (λcs (x:Value×Nat)=>cs.setIfInBounds (i*k+j+x.2) x.1) c=(v.cells.toList.zipIdx 0).foldl (λcs (x:Value×Nat)=>cs.setIfInBounds (i*k+j+x.2) x.1) c:=by
  rw[<-Array.foldl_toList];simp
 intro c';have a2:c'=(v.cells.toList.zipIdx 0).foldl (λcs (x:Value×Nat)=>cs.setIfInBounds (i*k+j+x.2) x.1) c:=cu;rw[a2];have hlen:v.cells.toList.length=a.cells.length:=by simpa using cA
 have ys:i*k+k<=c.size:=by
  have U:(i+1)*k<=l.length*k:=Nat.mul_le_mul_right k hA
  have γ:=h.1;rw[Nat.add_mul] at U;omega
 refine⟨k1,by rw[k1];simpa using h.1,λe4 aP aH=>?_⟩;by_cases u1:e4=i
 ·subst u1;rw[List.getElem?_set_self hA] at aH;cases aH;rw[ca];refine⟨by simp;omega,λbP c2 ε=>?_⟩;rw[bT,hlen];by_cases bd:j<=bP/\bP<j+a.cells.length
  ·have HY:a.cells[bP-j]?=some c2:=by
    rw[List.append_assoc,gA (by simp;omega)] at ε;simp only[List.length_take] at ε;rw[dM J] at ε;have:bP-min j e.cells.length=bP-j:=J;rw[this] at ε;exact ε
   obtain⟨x,U,γ,ο⟩:=gR _ _ HY;rw[if_pos ⟨J,J,J⟩];have:e4*k+bP-(e4*k+j+0)=bP-j:=J;rw[this,Array.getElem?_toList];exact⟨x,U,γ,ο⟩
  ·have HY:e.cells[bP]?=some c2:=by
    by_cases hB:bP<j
    ·rw[List.append_assoc,dM (by simp;omega),List.getElem?_take_of_lt hB] at ε;exact ε
    ·rw[gA (by simp;omega)] at ε;rw[List.getElem?_drop] at ε;have:j+a.cells.length+(bP-(e.cells.take j++a.cells).length)=bP:=by simp;omega
     rw[this] at ε;exact ε
   rw[if_neg (λx=>bd ⟨J,J⟩)];exact(h.2 e4 e he).2 bP c2 HY
 ·rw[List.getElem?_set_ne (Ne.symm u1)] at aH;obtain⟨U,γ⟩:=h.2 e4 aP aH;refine⟨U,λbP c2 ε=>?_⟩;have pU:bP<k:=by rw[<-U];exact(b0.1 ε).1
  rw[bT,hlen,if_neg (λx=>Nn (lo:=j) (hi:=j+a.cells.length) pU ζ u1 ⟨J,J⟩)];exact γ bP c2 ε
theorem gq.Np {z:Value} {a:θ} (ν:aA S B σ a z) (ea:a.cells.all (θ.bl σ)=true) {k n m:Nat} (ψ:a.cells.length=k) (hm:n*k<=m) (gG:Array Value) (Ψ:gG=z.cells) :
  gq S B σ ((Array.range m).map (gG[· % gG.size]!)) k (List.replicate n a):=by
 obtain⟨cA,gR⟩:=ν.cells ea;subst Ψ;refine⟨by simpa using hm,λi e hi=>?_⟩;obtain⟨U,γ⟩:=b0.1 hi;simp at U γ;subst γ;refine⟨ψ,λj c ε=>?_⟩;obtain⟨x,Ζ,Ε,a8⟩:=gR j c ε;have ζ:j<k:=by rw[<-ψ];exact(b0.1 ε).1
 have aN:i*k+j<m:=by
  have:(i+1)*k<=n*k:=Nat.mul_le_mul_right k U;rw[Nat.add_mul] at this;omega
 refine⟨x,?_,Ε,a8⟩;rw[Array.getElem?_map,Array.getElem?_range,if_pos aN];simp only[Option.map_some];have:(i*k+j) % z.cells.size=j:=by
  rw[cA,ψ,Nat.mul_comm,Nat.mul_add_mod];exact Nat.mod_eq_of_lt ζ
 rw[this];have aI:j<z.cells.size:=J;rw[fw aI] at Ζ;cases Ζ;rw[getElem!_pos z.cells j aI]
theorem gq.later {aJ:aO} {B':a0} {σ':ac} (π:b8 S aJ B B' σ σ') {c:Array Value} {k:Nat} {l:am} (h:gq S B σ c k l):gq aJ B' σ' c k l:=
 ⟨h.1,λi e hi=>⟨(h.2 i e hi).1,λj a ζ=>by obtain⟨x,U,γ,ο⟩:=(h.2 i e hi).2 j a ζ;exact⟨x,U,γ.later π,ο⟩⟩⟩
theorem gq.one {a:θ} {v:Value} (ν:aA S B σ a v) (ea:a.cells.all (θ.bl σ)=true):gq S B σ v.cells a.cells.length [a]:=by
 obtain⟨cA,gR⟩:=ν.cells ea;refine⟨by simp[cA],λi e hi=>?_⟩
 match i with
 | 0=>
  simp at hi;subst hi;refine⟨rfl,λj c ε=>?_⟩;rw[Nat.zero_mul,Nat.zero_add];exact gR j c ε
 | i+1=>simp at hi
theorem Az (Δ:Holds S B σ H) {c:Array Value} {k:Nat} {l:am} (ε:gq S B σ c k l) (t:TypeId) {K:Nat->Γ->Prop} {E:Value->Γ->Prop}
  (h:∀r,H.fresh r->Holds S (B++[some (r,c.size)]) (σ++[.cells t k l]) (H.dS r c t)->Ext S B H S (B++[some (r,c.size)]) (H.dS r c t)->b8 S S B (B++[some (r,c.size)]) σ (σ++[.cells t k l])->K r (H.dS r c t)) :
  χ P (newObj (.cells c t)) H K E:=by
 refine⟨rfl,λr μ=>?_⟩;have cD:∀b,(∀N,some (r,c.size)≠some (b,N))->lD H (H.dS r c t) b:=λb hb=>by
  have bx:b≠r:=λe=>by subst e;exact hb _ rfl
  exact⟨λo=>by simp[Γ.dS,bx],by simp[Γ.dS,bx],rfl⟩
 have bX:b8 S S B (B++[some (r,c.size)]) σ (σ++[.cells t k l])->kC S (B++[some (r,c.size)]) (σ++[.cells t k l]) (H.dS r c t) (.cells t k l) (some (r,c.size)):=λπ=>by
  have a2:=ε.later π;refine⟨by simp[Γ.dS],ε.1,λo Β=>⟨c[o],by simp[Γ.dS,Β]⟩,λi j=>(c[i*k+j]?).getD undef,λi e hi=>⟨(a2.2 i e hi).1,λj a ζ=>?_⟩⟩;obtain⟨x,Ζ,Ε,a8⟩:=(a2.2 i e hi).2 j a ζ;simp only[Ζ,Option.getD_some];exact⟨by simp[Γ.dS,Ζ],Ε,a8⟩
 obtain⟨U,γ,ο⟩:=Δ.push (λb N e=>by cases e;exact μ) cD bX;exact h r μ U γ ο
theorem AA (Δ:Holds S B σ H) (c:Array Value) (t:TypeId) {K:Nat->Γ->Prop} {E:Value->Γ->Prop}
  (h:∀r,Holds (S.lay r c) B σ (H.dS r c t)->Ext S B H (S.lay r c) B (H.dS r c t)->b8 S (S.lay r c) B B σ σ->K r (H.dS r c t)) :
  χ P (newObj (.cells c t)) H K E:=by
 refine⟨rfl,λr μ=>?_⟩;obtain⟨U,γ,ο⟩:=Δ.lay (c:=c) (t:=t) μ;exact h r U γ ο
theorem Nq {r:Nat} {c:Array Value} {a:θ} {k:Nat} (π:b8 S (S.lay r c) B B σ σ) (ε:gq S B σ c k [a]):aA (S.lay r c) B σ (.au a.cells) (.pointer (some ⟨r,0,none⟩)):=by
 have a2:=ε.later π;refine .au r 0 (λj=>(c[j]?).getD undef) (λj x ζ=>?_) (λj x ζ=>?_)
 ·obtain⟨y,Ζ,_⟩:=(a2.2 0 a rfl).2 j x ζ;rw[Nat.zero_mul,Nat.zero_add] at Ζ;simp[aO.lay,Ζ]
 ·obtain⟨y,Ζ,Ε,_⟩:=(a2.2 0 a rfl).2 j x ζ;rw[Nat.zero_mul,Nat.zero_add] at Ζ;simp only[Ζ,Option.getD_some];exact Ε
theorem DN {r:Nat} {c:Array Value} {k cap:Nat} {l:am} (ex:Bool) (π:b8 S (S.lay r c) B B σ σ) (ε:gq S B σ c k l) (yu:l.length<=cap) (hex:ex=true->cap=l.length):aA (S.lay r c) B σ (.sl ex k l) (.slice (some ⟨r,0,none⟩) l.length cap):=by
 have a2:=ε.later π;refine .sl r 0 cap (λi j=>(c[i*k+j]?).getD undef) hex yu (λi e hi=>(a2.2 i e hi).1) (λi e hi j x ζ=>?_) (λi e hi j x ζ=>?_)
 ·obtain⟨y,Ζ,_⟩:=(a2.2 i e hi).2 j x ζ;simp[aO.lay,Ζ]
 ·obtain⟨y,Ζ,Ε,_⟩:=(a2.2 i e hi).2 j x ζ;simp only[Ζ,Option.getD_some];exact Ε
end
end Go.TL
