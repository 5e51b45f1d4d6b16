import Derived.Conc.AtomicLaws2
import Derived.Conc.ClockLaws
import Derived.Conc.MarkLaws
import Derived.Conc.QuitsD
import Derived.Conc.SmallLaws
import Derived.Test.YtlabjopijpkiaaaGreatCAR
import Derived.Test.YtlabjopijpkiaaaGreatCAS
set_option maxHeartbeats 16000000
set_option maxRecDepth 20000
set_option linter.unusedSectionVars false
set_option linter.unusedSimpArgs false
set_option linter.unusedVariables false
namespace Go.TL
open Go.Conc
open Go.ConcM (OsLater)
open Go.ConcN (sumTo upd sumTo_upd upd_ne upd_same sumTo_congr le_sumTo)
open Go.ConcR (mk)
variable [bp]
theorem gX {b:Frame} (hb:b.mode=.run) (ι:b.roundOf=none) (t:Array Value) (k:List Item):ax b t k=b.at ⟨t,b.defers⟩ k:=by
 obtain⟨fn,xW,td,TW,uB,kd,ro⟩:=b;simp only at hb ι;subst hb;subst ι;rfl
theorem va (o:Oper) (t:Array Value) (ds:List Deferred) (v:Value):(⟨t,ds⟩:_root_.Go.Act).put o.dst v=⟨put o t v,ds⟩:=by
 unfold _root_.Go.Act.put put;cases o.dst<;>rfl
theorem mB (t:Array Value) (ds:List Deferred):(⟨t,ds⟩:_root_.Go.Act).eval=bl t:=by funext o;cases o<;>rfl
def Entry (P:Program) (f:FuncId) (e:Array Value->Sem Value):Prop:=∃fn,P.funcs[f]?=some fn/\(fn.name == "runtime.NumGoroutine")=false/\fn.body.isNone=true/\Extern.findNext fn=none/\Extern.find fn=some e
structure ni (b:Frame) (ops:Array Oper) (i:Nat) (op:Oper):Prop where
 run:b.mode=.run
 ro:b.roundOf=none
 kd:b.kind≠.early
 op:ops[i]?=some op
def e7 (x:a2):Prop:=x.rel=false\/∃s,¬Gone (x.tok s)
theorem e7.ok {P:Program} {g:Goroutine} {x:a2} (h:e7 x):zx P g x:=λJ U=>by
 rcases h with h|⟨s,h⟩
 ·rw[h] at J;cases J
 ·exact absurd (U s) h
def one (x:a2):g9:=λy=>y=x
@[reducible] def eX:bp:=⟨λ_=>True⟩
theorem Seq.vb {x:a2} (Ξ:bp.q (one x)) (ι:x.rel=false) (hv:x.aN=λ_=>none):Seq (one x):=⟨Ξ,λy h=>by cases h;exact ι,λy h=>by cases h;exact hv⟩
theorem Seq.here {x:a2} (h:Seq (one x)):e7 x:=.inl (h.rel x rfl)
section
variable {P:Program} {Q:Value->Prop} {mn:Bool} {x:a2} {b:Frame} {cs:List Frame} {nt:Nat} {o:Base} {k:List Item} {env:Χ} {σ:List Row} {S:aL} {B:aW} {H:Α} {t:Array Value}
variable {ops:Array Oper} {i:Nat} {rest:List Nat} {op:Oper} {f:FuncId} {e:Array Value->Sem Value} {args:Array Operand} {ej:Array TypeId} {w w':World}
theorem EN (he:Entry P f e) (bY:ni b ops i op) (hw:Region.wanted op (yielded ops t)=true) (Μ:op.op=.call ⟨.value (.func f),args,ej⟩) {vs:Array Value} (qJ:args.map (bl t)=vs) {v:Value} {gB:Array Event}
  (eh:(e vs).run P w=.ok v w') (dK:(e vs).events P w #[⟨.mark (Mark.extern f),false,true⟩]=#[⟨.mark (Mark.extern f),false,true⟩]++gB) (ν:∀y∈gB,y.sync=true/\∀g,y.loc≠.mark (Mark.extern g)) :
  stepG P mn (Go.Conc.G (ax b t (.inRegion ops (i::rest)::k)) cs) w=.go (Go.Conc.G (ax b (put op t v) (.inRegion ops rest::k)) cs) w' gB:=by
 obtain⟨fn,J,U,μ,Ε,au⟩:=he;rw[gX bY.run bY.ro,gX bY.run bY.ro,<-va];exact stepG_entry (a:=⟨t,b.defers⟩) bY.op hw bY.kd Μ J U μ Ε au (by rw[mB,qJ];exact eh) (by rw[mB,qJ];exact dK) ν
theorem Yj (he:Entry P f e) (bY:ni b ops i op) (hw:Region.wanted op (yielded ops t)=true) (Μ:op.op=.call ⟨.value (.func f),args,ej⟩) {vs:Array Value} (qJ:args.map (bl t)=vs)
  (eh:(e vs).run P w=.halt .blocked w') :
  stepG P mn (Go.Conc.G (ax b t (.inRegion ops (i::rest)::k)) cs) w=.go {Go.Conc.G (ax b t (.inRegion ops (i::rest)::k)) cs with status:=.blocked} w' #[]:=by
 obtain⟨fn,J,U,μ,Ε,au⟩:=he;rw[gX bY.run bY.ro];exact stepG_entry_blocked (a:=⟨t,b.defers⟩) bY.op hw Μ J U μ Ε au (by rw[mB,qJ];exact eh)
theorem Oj (he:Entry P f e) (bY:ni b ops i op) (Μ:op.op=.call ⟨.value (.func f),args,ej⟩):mayWake P (Go.Conc.G (ax b t (.inRegion ops (i::rest)::k)) cs)=true:=by
 obtain⟨fn,J,U,μ,Ε,au⟩:=he;have bd:fn.body=none:=by simpa using μ
 have Ol:(ax b t (.inRegion ops (i::rest)::k)).eval (.func f)=.func (.func f) #[] #[]:=rfl;simp[mayWake,Go.Conc.G,ax,bY.run,bY.op,Μ] at Ol ⊢;simp[Ol,J,bd]
def A8 (env:Χ) (args:Array Operand) (vs:List Value):Prop:=args.toList.map (aR env)=vs.map η.z
theorem EO (ν:dv S B σ env t) {y:Operand} {v:Value} (h:aR env y=.z v):bl t y=v:=by
 have:=l' ν y;rw[h] at this;generalize bl t y=u at this;cases this;rfl
theorem A8.bl (ν:dv S B σ env t) {vs:List Value} (h:A8 env args vs):args.map (bl t)=vs.toArray:=by
 apply Array.ext';rw[Array.toList_map];have:∀(l:List Operand) (vs:List Value),l.map (aR env)=vs.map η.z->l.map (Go.TL.bl t)=vs:=by
  intro l
  induction l with
  | nil=>intro vs h;cases vs with
   | nil=>rfl
   | cons=>cases h
  | cons y l ω=>
   intro vs h;cases vs with
   | nil=>cases h
   | cons v vs=>
    simp only[List.map_cons,List.cons.injEq] at h ⊢;exact⟨EO ν h.1,ω vs h.2⟩
 exact this _ _ h
theorem EP (m:Mark):((λ_=>do mark m;pure Extern.Race.none_:Array Value->Sem Value) #[]).run P w=.ok (.tuple #[]) w:=by simp[Extern.Race.none_]
theorem ER (m:Mark) (es:Array Event):((λ_=>do mark m;pure Extern.Race.none_:Array Value->Sem Value) #[]).events P w es=es.push ⟨.mark m,false,true⟩:=ζ
theorem yC (m:Addr->Mark) (cI:Addr):(Extern.Race.marked m #[.pointer (some cI)]).run P w=.ok (.tuple #[]) w:=by simp[Extern.Race.marked,Extern.Race.at_,Extern.Race.none_]
theorem yD (m:Addr->Mark) (cI:Addr) (es:Array Event):(Extern.Race.marked m #[.pointer (some cI)]).events P w es=es.push ⟨.mark (m cI),false,true⟩:=by simp[Extern.Race.marked,Extern.Race.at_]
theorem r4 {m:Mark} (hm:∀g,m≠Mark.extern g):∀y∈(#[⟨.mark m,false,true⟩]:Array Event),y.sync=true/\∀g,y.loc≠.mark (Mark.extern g):=by
 intro y Κ;simp at Κ;subst Κ;exact⟨rfl,λg h=>hm g (by cases h;rfl)⟩
structure hh (P:Program) (b:Frame) (ops:Array Oper) (i:Nat) (op:Oper) (f:FuncId) (e:Array Value->Sem Value) (args:Array Operand) (env:Χ) (vs:List Value) (nt:Nat):Prop where
 at_:ni b ops i op
 m8:Entry P f e
 call:∃ej,op.op=.call ⟨.value (.func f),args,ej⟩
 want:fe env ops op=some true
 dst:hc nt op=true
 A9:A8 env args vs
theorem hh.step {vs:List Value} (h:hh P b ops i op f e args env vs nt) (ν:dv S B σ env t) {v:Value} {gB:Array Event} (eh:(e vs.toArray).run P w=.ok v w')
  (dK:(e vs.toArray).events P w #[⟨.mark (Mark.extern f),false,true⟩]=#[⟨.mark (Mark.extern f),false,true⟩]++gB) (Yk:∀y∈gB,y.sync=true/\∀g,y.loc≠.mark (Mark.extern g)) :
  stepG P mn (Go.Conc.G (ax b t (.inRegion ops (i::rest)::k)) cs) w=.go (Go.Conc.G (ax b (put op t v) (.inRegion ops rest::k)) cs) w' gB:=
 let ⟨_,Μ⟩:=h.call
 EN h.m8 h.at_ (kF ν h.want) Μ (h.A9.bl ν) eh dK Yk
abbrev oP:η:=.z (.tuple #[])
theorem V.disable (γ:e7 x) (h:hh P b ops i op f (λ_=>do mark .disable;pure Extern.Race.none_) args env [] nt) (χ:V P Q mn (one {x with deaf:=x.deaf+1}) b cs nt o (.inRegion ops rest::k) (b0 op env oP) σ):V P Q mn (one x) b cs nt o (.inRegion ops (i::rest)::k) env σ:=
 λS B H t κ π y Κ=>by
 cases Κ;exact Goes.step γ.ok (.inr ⟨⟨rfl,rfl⟩,.inr (.inl ⟨Go.Conc.G (ax b (put op t (.tuple #[])) (.inRegion ops rest::k)) cs,⟨rfl,rfl⟩,.inl λw _=>
  ⟨h.step π.cx (EP .disable) (ER .disable _) (r4 ζ),χ S B H _ κ (π.put h.dst (.z _)) _ rfl⟩⟩)⟩)
theorem V.enable (γ:e7 x) (hd:0<x.deaf) (h:hh P b ops i op f (λ_=>do mark .enable;pure Extern.Race.none_) args env [] nt) (χ:V P Q mn (one {x with deaf:=x.deaf-1}) b cs nt o (.inRegion ops rest::k) (b0 op env oP) σ):V P Q mn (one x) b cs nt o (.inRegion ops (i::rest)::k) env σ:=
 λS B H t κ π y Κ=>by
 cases Κ;exact Goes.step γ.ok (.inr ⟨⟨rfl,rfl⟩,.inr (.inl ⟨Go.Conc.G (ax b (put op t (.tuple #[])) (.inRegion ops rest::k)) cs,⟨rfl,rfl⟩,.inr ⟨hd,λw _=>
  ⟨h.step π.cx (EP .enable) (ER .enable _) (r4 ζ),χ S B H _ κ (π.put h.dst (.z _)) _ rfl⟩⟩⟩)⟩)
theorem V.Yl (γ:x.rel=false) {s off n p:Nat} {aQ:sx} (Ν:x.tok s=.par n p aQ) (mO:aQ≠.bm) (h:hh P b ops i op f (Extern.Race.marked .read) args env [.pointer (some ⟨s,off,none⟩)] nt) (χ:V P Q mn (one x) b cs nt o (.inRegion ops rest::k) (b0 op env oP) σ):V P Q mn (one x) b cs nt o (.inRegion ops (i::rest)::k) env σ:=
 λS B H t κ π y Κ=>by
 cases Κ;exact Goes.step (e7.ok (.inl γ)) (.inr ⟨⟨rfl,rfl⟩,.inr (.inr (.inl ⟨s,n,p,aQ,Go.Conc.G (ax b (put op t (.tuple #[])) (.inRegion ops rest::k)) cs,off,false,Ν,mO,γ,⟨rfl,rfl⟩,λw _=>
  ⟨h.step π.cx (yC .read _) (yD .read _ _) (r4 ζ),χ S B H _ κ (π.put h.dst (.z _)) _ rfl⟩⟩))⟩)
theorem V.Ym (γ:x.rel=false) {s off n p:Nat} {aQ:sx} (Ν:x.tok s=.par n p aQ) (mO:aQ≠.bm) (h:hh P b ops i op f (Extern.Race.marked .write) args env [.pointer (some ⟨s,off,none⟩)] nt) (χ:V P Q mn (one x) b cs nt o (.inRegion ops rest::k) (b0 op env oP) σ):V P Q mn (one x) b cs nt o (.inRegion ops (i::rest)::k) env σ:=
 λS B H t κ π y Κ=>by
 cases Κ;exact Goes.step (e7.ok (.inl γ)) (.inr ⟨⟨rfl,rfl⟩,.inr (.inr (.inl ⟨s,n,p,aQ,Go.Conc.G (ax b (put op t (.tuple #[])) (.inRegion ops rest::k)) cs,off,true,Ν,mO,γ,⟨rfl,rfl⟩,λw _=>
  ⟨h.step π.cx (yC .write _) (yD .write _ _) (r4 ζ),χ S B H _ κ (π.put h.dst (.z _)) _ rfl⟩⟩))⟩)
theorem V.CO (γ:x.rel=false) (hd:x.deaf=0) {s m n:Nat} {sp:Spec} (b7:x.spec s=some sp) (hm:sp.aZ=some m) (Ν:x.tok s=.ch n .own .work) (h:hh P b ops i op f (Extern.Race.marked .acquire) args env [.pointer (some ⟨m,0,none⟩)] nt)
  (χ:∀(S:aL) (B:aW) (H:Α) (t:Array Value) (L:List Nat) (E:Α),e4 o.m o.S o.B o.H o.σ S B H σ->fO o.m nt S B H σ (b0 op env oP) t->sp.ar L E->Apart H E->(L.Nodup/\n∉L/\∃w,Fits H w/\Fits E w)->
   cC P Q mn {x with tok:=upd x.tok s (.ch n (.dr L) .work),view:=upd x.view s none} (ax b t (.inRegion ops rest::k)) cs (join H E)):V P Q mn (one x) b cs nt o (.inRegion ops (i::rest)::k) env σ:=
 λS B H t κ π y Κ=>by
 cases Κ;exact Goes.step (e7.ok (.inl γ)) (.inr ⟨⟨rfl,rfl⟩,.inr (.inr (.inr (.inr (.inl ⟨s,sp,m,n,Go.Conc.G (ax b (put op t (.tuple #[])) (.inRegion ops rest::k)) cs,b7,hm,Ν,hd,⟨rfl,rfl⟩,γ,λw _=>
  h.step π.cx (yC .acquire _) (yD .acquire _ _) (r4 ζ),λL E cR iA hw=>χ S B H _ L E κ (π.put h.dst (.z _)) cR iA hw⟩))))⟩)
theorem V.GD (γ:x.rel=false) (hd:x.deaf=0) {s m n:Nat} {L:List Nat} {sp:Spec} (b7:x.spec s=some sp) (hm:sp.aZ=some m) (Ν:x.tok s=.ch n (.dr L) .work) (h:hh P b ops i op f (Extern.Race.marked .releaseMerge) args env [.pointer (some ⟨m,0,none⟩)] nt)
  (χ:∀(S:aL) (B:aW) (H:Α) (t:Array Value),e4 o.m o.S o.B o.H o.σ S B H σ->fO o.m nt S B H σ (b0 op env oP) t->∃H' E,Split H H' E/\sp.ar (L++[n]) E/\
   cC P Q mn {x with tok:=upd x.tok s (.ch n .fin .work),view:=upd x.view s none} (ax b t (.inRegion ops rest::k)) cs H'):V P Q mn (one x) b cs nt o (.inRegion ops (i::rest)::k) env σ:=
 λS B H t κ π y Κ=>by
 cases Κ;obtain⟨H',E,J,U,μ⟩:=χ S B H _ κ (π.put h.dst (.z (.tuple #[])));exact Goes.step (e7.ok (.inl γ)) (.inr ⟨⟨rfl,rfl⟩,.inr (.inr (.inr (.inr (.inr (.inl ⟨s,sp,m,n,L,Go.Conc.G (ax b (put op t (.tuple #[])) (.inRegion ops rest::k)) cs,H',E,b7,hm,Ν,hd,⟨rfl,rfl⟩,γ,λw _=>
  h.step π.cx (yC .releaseMerge _) (yD .releaseMerge _ _) (r4 ζ),J,U,μ⟩)))))⟩)
theorem V.CP (γ:x.rel=false) (hd:x.deaf=0) {s n:Nat} {aQ:sx} {sp:Spec} (b7:x.spec s=some sp) (Ν:x.tok s=.par n 0 aQ) (mO:aQ=.mI\/aQ=.w4) (h:hh P b ops i op f (Extern.Race.marked .acquire) args env [.pointer (some ⟨s,0,none⟩)] nt)
  (χ:∀(S:aL) (B:aW) (H:Α) (t:Array Value) (gz fM:List Nat) (g1 eM:Α),e4 o.m o.S o.B o.H o.σ S B H σ->fO o.m nt S B H σ (b0 op env oP) t->
   gz.Perm (List.range n)->lZ sp.D gz g1->(sp.aZ≠none->fM.Perm (List.range n)/\sp.ar fM eM)->(sp.aZ=none->eM=Α.empty)->Apart H g1->Apart H eM->Apart g1 eM->(∃w,Fits H w/\Fits g1 w/\Fits eM w)->
   cC P Q mn {x with tok:=upd x.tok s (.par n 0 .bm),view:=upd x.view s none} (ax b t (.inRegion ops rest::k)) cs (join (join H g1) eM)):V P Q mn (one x) b cs nt o (.inRegion ops (i::rest)::k) env σ:=
 λS B H t κ π y Κ=>by
 cases Κ;exact Goes.step (e7.ok (.inl γ)) (.inr ⟨⟨rfl,rfl⟩,.inr (.inr (.inr (.inr (.inr (.inr (.inr (.inl ⟨s,sp,n,aQ,Go.Conc.G (ax b (put op t (.tuple #[])) (.inRegion ops rest::k)) cs,b7,Ν,mO,hd,⟨rfl,rfl⟩,γ,λw _=>
  h.step π.cx (yC .acquire _) (yD .acquire _ _) (r4 ζ),λgz fM g1 eM a1 a9 cK gx h6 mM vH ub=>χ S B H _ gz fM g1 eM κ (π.put h.dst (.z _)) a1 a9 cK gx h6 mM vH ub⟩)))))))⟩)
theorem V.atomic (γ:e7 x) {s:Nat} {sp:Spec} (b7:x.spec s=some sp) (c5:¬gk (x.tok s)) (hd:hc nt op=true) (hw:fe env ops op=some true)
  (h:∀(t:Array Value) (w:World) (φ:Nat) (ο:aV),(∀y u,aR env y=.z u->bl t y=u)->(∀(as9:Array Operand) (vs:List Value),A8 env as9 vs->as9.map (bl t)=vs.toArray)->Region.wanted op (yielded ops t)=true->ο.toSpec=sp->At s ο w->Gd x s φ ο->vK ο (x.tok s)->
   (∃v w' gB,stepG P mn (Go.Conc.G (ax b t (.inRegion ops (i::rest)::k)) cs) w=.go (Go.Conc.G (ax b (put op t v) (.inRegion ops rest::k)) cs) w' gB/\fI (λΨ _=>ez s sp Ψ) (λ_=>False) w w'/\o4 s sp x.deaf gB/\
    ((At s ο w'/\V P Q mn (one {x with view:=upd x.view s (some (φ,ο))}) b cs nt o (.inRegion ops rest::k) (b0 op env (.z v)) σ)\/
     ∃o' t',Act ο (x.tok s) o' t'/\At s o' w'/\(mayWake P (Go.Conc.G (ax b t (.inRegion ops (i::rest)::k)) cs)=true\/o'=ο)/\∀cA,cA<φ->V P Q mn (one {x with tok:=upd x.tok s t',view:=upd x.view s (some (cA,o'))}) b cs nt o (.inRegion ops rest::k) (b0 op env (.z v)) σ))\/
   (kA ο (x.tok s)/\(∀bk,bk≠s->nF (x.tok bk))/\stepG P mn (Go.Conc.G (ax b t (.inRegion ops (i::rest)::k)) cs) w=.go {Go.Conc.G (ax b t (.inRegion ops (i::rest)::k)) cs with status:=.blocked} w #[])) :
  V P Q mn (one x) b cs nt o (.inRegion ops (i::rest)::k) env σ:=by
 intro S B H t κ π y Κ;cases Κ;refine Goes.step γ.ok (.inr ⟨⟨rfl,rfl⟩,.inr (.inr (.inr (.inl ⟨s,sp,b7,c5,λw φ ο Τ hv ψ bE zy IC=>?_⟩)))⟩);rcases h t w φ ο (λy u Κ=>EO π.cx Κ) (λas9 vs qJ=>qJ.bl π.cx) (kF π.cx hw) ψ bE zy IC with⟨v,w',gB,J,U,μ,Ε⟩|⟨J,U,μ⟩
 ·refine .inl ?_;rw[J];refine⟨⟨rfl,rfl⟩,U,μ,?_⟩;rcases Ε with⟨au,bd⟩|⟨o',t',au,bd,g7,l3⟩
  ·exact .inl ⟨au,bd S B H _ κ (π.put hd (.z _)) _ rfl⟩
  ·exact .inr ⟨o',t',au,bd,g7,λcA eE=>l3 cA eE S B H _ κ (π.put hd (.z _)) _ rfl⟩
 ·exact .inr ⟨J,U,μ⟩
theorem Om {dd off:Nat} {c:Array Value} {ty:TypeId} (hb:w.heap[dd]?=some (.cells c ty (0,0))) (v:Value) {own:Nat->Nat->Prop} (gn:∀o,own dd o):fI own (λ_=>False) w (w.setCell ⟨dd,off,none⟩ v):=by
 have aY:=heap_setCell (w:=w) (a:=⟨dd,off,none⟩) (v:=v) rfl hb
 have aO:=fJ hb
 have Ec:(w.setCell ⟨dd,off,none⟩ v).os=w.os:=rfl;refine⟨by rw[aY];simp,λΨ c' t' Mf dV=>?_,λΨ y dV Κ _=>?_,by rw[Ec];exact OsLater.refl _,rfl,rfl⟩
 ·by_cases e:Ψ=dd
  ·subst e;rw[hb] at dV;cases dV;exact⟨_,by rw[aY,Array.getElem?_setIfInBounds_self_of_lt aO],ζ,λo' j5=>absurd (gn o') j5⟩
  ·exact⟨c',by rw[aY,Array.getElem?_setIfInBounds_ne (Ne.symm e)];exact dV,rfl,λ_ _=>rfl⟩
 ·have e:dd≠Ψ:=λe=>by subst e;rw[hb] at dV;cases dV;cases Κ
  rw[aY,Array.getElem?_setIfInBounds_ne e];exact dV
section
variable {s m:Nat} {ο o':aV}
theorem At.ne (h:At s ο w) (hm:ο.aZ=some m):m≠s:=λe=>by
 obtain⟨⟨ty,J⟩,U⟩:=h;obtain⟨j1,μ⟩:=U m hm;subst e;rw[J] at μ;simp at μ
theorem At.mu (h:At s ο w) (hm:ο.aZ=some m):∃ty,w.heap[m]?=some (.cells #[.int .i32 (mwd ο),.int .u32 ο.db] ty (0,0)):=h.2 m hm
theorem At.dT (h:At s ο w) (hm:ο.aZ=some m):w.cell? ⟨m,0,none⟩=some (.int .i32 (mwd ο)):=let ⟨_,J⟩:=h.mu hm;od J rfl
theorem At.dU (h:At s ο w) (hm:ο.aZ=some m):w.cell? ⟨m,1,none⟩=some (.int .u32 ο.db):=let ⟨_,J⟩:=h.mu hm;od J rfl
theorem At.cQ (h:At s ο w):w.cell? ⟨s,0,none⟩=some (.int .u64 (cT ο)):=let ⟨_,J⟩:=h.1;od J rfl
theorem At.Ρ (h:At s ο w):w.cell? ⟨s,1,none⟩=some (.int .u32 ο.cP):=let ⟨_,J⟩:=h.1;od J rfl
theorem On {dd off:Nat} {c:Array Value} {ty:TypeId} (hb:w.heap[dd]?=some (.cells c ty (0,0))):w.frozen? ⟨dd,off,none⟩=false:=by
 simp[World.frozen?,hb]
theorem At.yE (h:At s ο w) (hm:ο.aZ=some m) (off:Nat):w.frozen? ⟨m,off,none⟩=false:=let ⟨_,J⟩:=h.mu hm;On J
theorem At.vc (h:At s ο w) (off:Nat):w.frozen? ⟨s,off,none⟩=false:=let ⟨_,J⟩:=h.1;On J
theorem At.ES (h:At s ο w) (hm:ο.aZ=some m) (dk:o'.aZ=ο.aZ) (Ο:cT o'=cT ο) (hw:o'.cP=ο.cP) {off:Nat} {v:Value} (hv:(#[.int .i32 (mwd ο),.int .u32 ο.db]:Array Value).setIfInBounds off v=#[.int .i32 (mwd o'),.int .u32 o'.db]):At s o' (w.setCell ⟨m,off,none⟩ v):=by
 have bA:=h.ne hm;obtain⟨j1,μ⟩:=h.mu hm;obtain⟨⟨ty,J⟩,U⟩:=h;have aY:=heap_setCell (w:=w) (a:=⟨m,off,none⟩) (v:=v) rfl μ;refine⟨⟨ty,?_⟩,λcb jj=>⟨j1,?_⟩⟩
 ·rw[aY,Array.getElem?_setIfInBounds_ne bA,Ο,hw];exact J
 ·rw[dk,hm] at jj;cases jj;rw[aY,Array.getElem?_setIfInBounds_self_of_lt (fJ μ),hv]
theorem At.yF (h:At s ο w) (dk:o'.aZ=ο.aZ) (Ο:mwd o'=mwd ο) (hw:o'.db=ο.db) {off:Nat} {v:Value} (hv:(#[.int .u64 (cT ο),.int .u32 ο.cP]:Array Value).setIfInBounds off v=#[.int .u64 (cT o'),.int .u32 o'.cP]):At s o' (w.setCell ⟨s,off,none⟩ v):=by
 have bA:=λm hm=>h.ne (m:=m) hm;obtain⟨⟨ty,J⟩,U⟩:=h;have aY:=heap_setCell (w:=w) (a:=⟨s,off,none⟩) (v:=v) rfl J;refine⟨⟨ty,?_⟩,λcb jj=>?_⟩
 ·rw[aY,Array.getElem?_setIfInBounds_self_of_lt (fJ J),hv]
 ·rw[dk] at jj;obtain⟨j1,μ⟩:=U cb jj;exact⟨j1,by rw[aY,Array.getElem?_setIfInBounds_ne (Ne.symm (bA cb jj)),Ο,hw];exact μ⟩
theorem At.ET (h:At s ο w) (hm:ο.aZ=some m) {sp:Spec} (ν:sp.aZ=some m) {off:Nat} (v:Value):fI (λΨ _=>ez s sp Ψ) (λ_=>False) w (w.setCell ⟨m,off,none⟩ v):=
 let ⟨_,J⟩:=h.mu hm;Om J v λ_=>.inr ν
theorem At.yG (h:At s ο w) {sp:Spec} {off:Nat} (v:Value):fI (λΨ _=>ez s sp Ψ) (λ_=>False) w (w.setCell ⟨s,off,none⟩ v):=
 let ⟨_,J⟩:=h.1;Om J v λ_=>.inl rfl
end
theorem Oo {s d:Nat} {sp:Spec}:o4 s sp d #[]:=⟨rfl,λj e h=>by simp at h⟩
theorem r5 {s dd off d:Nat} {sp:Spec} {es:Array Event} (hb:ez s sp dd) (hd:0<d) (ν:∀y∈es,y.loc=.cell ⟨dd,off,none⟩/\y.sync=true):o4 s sp d es:=by
 have uD:∀(es:Array Event),(∀y∈es,y.loc=.cell ⟨dd,off,none⟩/\y.sync=true)->deafBehind d es=d:=by
  intro es;obtain⟨l⟩:=es;intro h;unfold deafBehind;simp only[List.foldl_toArray']
  induction l with
  | nil=>rfl
  | cons y l ω=>
   simp only[List.foldl_cons];have:=h y ζ;rw[this.1];exact ω λz Φ=>h z (by simp at Φ ⊢;exact .inr Φ)
 refine⟨uD es ν,λj y Κ=>.inr (.inr ⟨dd,off,y.write,?_,hb,?_⟩)⟩
 ·have:=ν y (Array.mem_of_getElem? Κ);obtain⟨l,w1,s1⟩:=y;simp only at this;rw[this.1,this.2]
 ·rw[uD]
  ·exact hd
  ·intro z Φ;exact ν z (by
    rw[Array.mem_iff_getElem?] at Φ ⊢;obtain⟨q,Ξ⟩:=Φ;rw[Array.getElem?_extract] at Ξ;split at Ξ
    ·exact⟨_,Ξ⟩
    ·cases Ξ)
end
end Go.TL
namespace Go.TL
open Go.Conc
open Go.ConcM (OsLater)
open Go.ConcN (sumTo upd sumTo_upd upd_ne upd_same sumTo_congr le_sumTo)
variable [bp]
section
variable {P:Program} {Q:Value->Prop} {mn:Bool} {x:a2} {b:Frame} {cs:List Frame} {nt:Nat} {o:Base} {k:List Item} {env:Χ} {σ:List Row}
variable {ops:Array Oper} {i:Nat} {rest:List Nat} {op:Oper} {f:FuncId} {e:Array Value->Sem Value} {args:Array Operand} {vs:List Value}
def iP (P:Program) (Q:Value->Prop) (mn:Bool) (x:a2) (b:Frame) (cs:List Frame) (nt:Nat) (o:Base) (ops:Array Oper) (rest:List Nat) (k:List Item) (op:Oper) (env:Χ) (σ:List Row) (s φ:Nat) (ο:aV) (v:Value):Prop:=
 V P Q mn (one {x with view:=upd x.view s (some (φ,ο))}) b cs nt o (.inRegion ops rest::k) (b0 op env (.z v)) σ
def qK (P:Program) (Q:Value->Prop) (mn:Bool) (x:a2) (b:Frame) (cs:List Frame) (nt:Nat) (o:Base) (ops:Array Oper) (rest:List Nat) (k:List Item) (op:Oper) (env:Χ) (σ:List Row) (s φ:Nat) (ο:aV) (v:Value) (o':aV) (t':Tok):Prop:=
 Act ο (x.tok s) o' t'/\∀cA,cA<φ->V P Q mn (one {x with tok:=upd x.tok s t',view:=upd x.view s (some (cA,o'))}) b cs nt o (.inRegion ops rest::k) (b0 op env (.z v)) σ
structure Seen (x:a2) (s:Nat) (sp:Spec) (φ:Nat) (ο:aV):Prop where
 spec:ο.toSpec=sp
 view:Gd x s φ ο
 jS:vK ο (x.tok s)
theorem V.ext (γ:e7 x) {s:Nat} {sp:Spec} (b7:x.spec s=some sp) (c5:¬gk (x.tok s)) (h:hh P b ops i op f e args env vs nt)
  (aY:∀(w:World) (φ:Nat) (ο:aV),Seen x s sp φ ο->At s ο w->
   (∃v w' gB,(e vs.toArray).run P w=.ok v w'/\(e vs.toArray).events P w #[⟨.mark (Mark.extern f),false,true⟩]=#[⟨.mark (Mark.extern f),false,true⟩]++gB/\(∀y∈gB,y.sync=true/\∀g,y.loc≠.mark (Mark.extern g))/\
    fI (λΨ _=>ez s sp Ψ) (λ_=>False) w w'/\o4 s sp x.deaf gB/\
    ((At s ο w'/\iP P Q mn x b cs nt o ops rest k op env σ s φ ο v)\/∃o' t',At s o' w'/\qK P Q mn x b cs nt o ops rest k op env σ s φ ο v o' t'))\/
   (kA ο (x.tok s)/\(∀bk,bk≠s->nF (x.tok bk))/\(e vs.toArray).run P w=.halt .blocked w)) :
  V P Q mn (one x) b cs nt o (.inRegion ops (i::rest)::k) env σ:=by
 obtain⟨ej,Μ⟩:=h.call;refine .atomic γ b7 c5 h.dst h.want λt w φ ο _ qJ hw J U μ Ε=>?_;rcases aY w φ ο ⟨J,μ,Ε⟩ U with⟨v,w',gB,a1,a9,cK,gx,h6,mM⟩|⟨a1,a9,cK⟩
 ·refine .inl ⟨v,w',gB,EN h.m8 h.at_ hw Μ (qJ _ _ h.A9) a1 a9 cK,gx,h6,mM.imp id λ⟨o',t',bC,dt,fK⟩=>⟨o',t',dt,bC,.inl (Oj h.m8 h.at_ Μ),fK⟩⟩
 ·exact .inr ⟨a1,a9,Yj h.m8 h.at_ hw Μ (qJ _ _ h.A9) cK⟩
theorem r6 (cI:Addr):∀y∈(#[⟨.cell cI,false,true⟩,⟨.cell cI,true,true⟩]:Array Event),y.loc=.cell cI/\y.sync=true:=by
 intro y Κ;simp at Κ;rcases Κ with rfl|rfl<;>exact⟨rfl,rfl⟩
theorem r7 (cI:Addr) (wr:Bool):∀y∈(#[⟨.cell cI,wr,true⟩]:Array Event),y.loc=.cell cI/\y.sync=true:=by
 intro y Κ;simp at Κ;subst Κ;exact⟨rfl,rfl⟩
theorem r8 {cI:Addr} {es:Array Event} (h:∀y∈es,y.loc=.cell cI/\y.sync=true):∀y∈es,y.sync=true/\∀g,y.loc≠.mark (Mark.extern g):=λy Κ=>⟨(h y Κ).2,λg e=>by rw[(h y Κ).1] at e;cases e⟩
structure yH (ο o':aV):Prop where
 aZ:o'.aZ=ο.aZ
 g:cT o'=cT ο
 w:o'.cP=ο.cP
structure r9 (ο o':aV):Prop where
 aZ:o'.aZ=ο.aZ
 g:mwd o'=mwd ο
 w:o'.db=ο.db
section
variable {s m:Nat} {sp:Spec} (γ:e7 x) (hd:0<x.deaf) (b7:x.spec s=some sp) (c5:¬gk (x.tok s))
include γ hd b7 c5
theorem V.EU (hm:sp.aZ=some m) {old new:Int} (h:hh P b ops i op f (Extern.Atomic.casT (.int .i32)) args env [.pointer (some ⟨m,0,none⟩),.int .i32 old,.int .i32 new] nt)
  (A':∀φ ο,Seen x s sp φ ο->¬mwd ο=old->iP P Q mn x b cs nt o ops rest k op env σ s φ ο (.bool false)\/∃t',qK P Q mn x b cs nt o ops rest k op env σ s φ ο (.bool false) ο t')
  (dD:∀φ ο,Seen x s sp φ ο->mwd ο=old->∃o' t',mwd o'=new/\o'.db=ο.db/\yH ο o'/\qK P Q mn x b cs nt o ops rest k op env σ s φ ο (.bool true) o' t') :
  V P Q mn (one x) b cs nt o (.inRegion ops (i::rest)::k) env σ:=by
 refine .ext γ b7 c5 h λw φ ο ν bE=>.inl ?_;have dk:ο.aZ=some m:=by rw[ν.spec];exact hm
 have ε:=bE.dT dk
 have Φ:=bE.yE dk 0;by_cases hv:mwd ο=old
 ·obtain⟨o',t',J,U,μ,Ε⟩:=dD φ ο ν hv;subst hv;refine⟨.bool true,_,_,(congrArg (Sem.run P · w) (casT_eq _ _)).trans (run_cas_hit_entry ε Φ),?_,r8 (r6 ⟨m,0,none⟩),bE.ET dk hm _,r5 (.inr hm) hd (r6 ⟨m,0,none⟩),.inr ⟨o',t',bE.ES dk μ.aZ μ.g μ.w ?_,Ε⟩⟩
  ·exact(congrArg (Sem.events P · w _) (casT_eq _ _)).trans ((events_cas_hit_entry ε Φ _).trans rfl)
  ·rw[J,U];rfl
 ·refine⟨.bool false,w,_,(congrArg (Sem.run P · w) (casT_eq _ _)).trans (run_cas_miss_entry ε Φ hv),?_,r8 (r7 ⟨m,0,none⟩ false),fI.refl _ _ _,r5 (.inr hm) hd (r7 ⟨m,0,none⟩ false),?_⟩
  ·exact(congrArg (Sem.events P · w _) (casT_eq _ _)).trans ((events_cas_miss_entry ε Φ hv _).trans rfl)
  ·exact(A' φ ο ν hv).imp (λh=>⟨bE,h⟩) λ⟨t',h⟩=>⟨ο,t',bE,h⟩
theorem V.Oq (hm:sp.aZ=some m) {d:Int} (h:hh P b ops i op f (Extern.Atomic.update (Op.intArith .add) .i32 true) args env [.pointer (some ⟨m,0,none⟩),.int .i32 d] nt)
  (dD:∀φ ο,Seen x s sp φ ο->∃o' t',mwd o'=IntKind.i32.wrap (mwd ο+d)/\o'.db=ο.db/\yH ο o'/\qK P Q mn x b cs nt o ops rest k op env σ s φ ο (.int .i32 (mwd o')) o' t') :
  V P Q mn (one x) b cs nt o (.inRegion ops (i::rest)::k) env σ:=by
 refine .ext γ b7 c5 h λw φ ο ν bE=>.inl ?_;have dk:ο.aZ=some m:=by rw[ν.spec];exact hm
 have ε:=bE.dT dk
 have Φ:=bE.yE dk 0;obtain⟨o',t',J,U,μ,Ε⟩:=dD φ ο ν;rw[J] at Ε;refine⟨_,_,_,run_add_entry ε Φ,(events_add_entry ε Φ _).trans rfl,r8 (r6 ⟨m,0,none⟩),bE.ET dk hm _,r5 (.inr hm) hd (r6 ⟨m,0,none⟩),.inr ⟨o',t',bE.ES dk μ.aZ μ.g μ.w ?_,Ε⟩⟩;rw[J,U];rfl
theorem V.ID (h:hh P b ops i op f (Extern.Atomic.loadT (.int .u64)) args env [.pointer (some ⟨s,0,none⟩)] nt)
  (dD:∀φ ο,Seen x s sp φ ο->iP P Q mn x b cs nt o ops rest k op env σ s φ ο (.int .u64 (cT ο))\/∃t',qK P Q mn x b cs nt o ops rest k op env σ s φ ο (.int .u64 (cT ο)) ο t') :
  V P Q mn (one x) b cs nt o (.inRegion ops (i::rest)::k) env σ:=by
 refine .ext γ b7 c5 h λw φ ο ν bE=>.inl ?_;have ε:=bE.cQ;refine⟨.int .u64 (cT ο),w,#[⟨.cell ⟨s,0,none⟩,false,true⟩],?_,?_,r8 (r7 _ false),fI.refl _ _ _,r5 (.inl rfl) hd (r7 _ false),(dD φ ο ν).imp (λh=>⟨bE,h⟩) λ⟨t',h⟩=>⟨ο,t',bE,h⟩⟩
 ·change Sem.run P (do Extern.Atomic.read (.int .u64) (<-asAddr (.pointer (some _)))) w=_;simp[Extern.Atomic.read,asAddr,ε]
 ·change Sem.events P (do Extern.Atomic.read (.int .u64) (<-asAddr (.pointer (some _)))) w _=_;simp[Extern.Atomic.read,asAddr,ε,events_load]
theorem V.Yn {old new:Int} (h:hh P b ops i op f (Extern.Atomic.casT (.int .u64)) args env [.pointer (some ⟨s,0,none⟩),.int .u64 old,.int .u64 new] nt)
  (A':∀φ ο,Seen x s sp φ ο->¬cT ο=old->iP P Q mn x b cs nt o ops rest k op env σ s φ ο (.bool false))
  (dD:∀φ ο,Seen x s sp φ ο->cT ο=old->∃o' t',cT o'=new/\o'.cP=ο.cP/\r9 ο o'/\qK P Q mn x b cs nt o ops rest k op env σ s φ ο (.bool true) o' t') :
  V P Q mn (one x) b cs nt o (.inRegion ops (i::rest)::k) env σ:=by
 refine .ext γ b7 c5 h λw φ ο ν bE=>.inl ?_;have ε:=bE.cQ;have Φ:=bE.vc 0;by_cases hv:cT ο=old
 ·obtain⟨o',t',J,U,μ,Ε⟩:=dD φ ο ν hv;subst hv;refine⟨.bool true,_,_,(congrArg (Sem.run P · w) (casT_eq _ _)).trans (run_cas_hit_entry ε Φ),?_,r8 (r6 ⟨s,0,none⟩),bE.yG _,r5 (.inl rfl) hd (r6 ⟨s,0,none⟩),.inr ⟨o',t',bE.yF μ.aZ μ.g μ.w ?_,Ε⟩⟩
  ·exact(congrArg (Sem.events P · w _) (casT_eq _ _)).trans ((events_cas_hit_entry ε Φ _).trans rfl)
  ·rw[J,U];rfl
 ·refine⟨.bool false,w,_,(congrArg (Sem.run P · w) (casT_eq _ _)).trans (run_cas_miss_entry ε Φ hv),?_,r8 (r7 ⟨s,0,none⟩ false),fI.refl _ _ _,r5 (.inl rfl) hd (r7 ⟨s,0,none⟩ false),.inl ⟨bE,A' φ ο ν hv⟩⟩;exact(congrArg (Sem.events P · w _) (casT_eq _ _)).trans ((events_cas_miss_entry ε Φ hv _).trans rfl)
theorem V.IE {d:Int} (h:hh P b ops i op f (Extern.Atomic.update (Op.intArith .add) .u64 true) args env [.pointer (some ⟨s,0,none⟩),.int .u64 d] nt)
  (dD:∀φ ο,Seen x s sp φ ο->∃o' t',cT o'=IntKind.u64.wrap (cT ο+d)/\o'.cP=ο.cP/\r9 ο o'/\qK P Q mn x b cs nt o ops rest k op env σ s φ ο (.int .u64 (cT o')) o' t') :
  V P Q mn (one x) b cs nt o (.inRegion ops (i::rest)::k) env σ:=by
 refine .ext γ b7 c5 h λw φ ο ν bE=>.inl ?_;have ε:=bE.cQ;have Φ:=bE.vc 0;obtain⟨o',t',J,U,μ,Ε⟩:=dD φ ο ν;rw[J] at Ε;refine⟨_,_,_,run_add_entry ε Φ,(events_add_entry ε Φ _).trans rfl,r8 (r6 ⟨s,0,none⟩),bE.yG _,r5 (.inl rfl) hd (r6 ⟨s,0,none⟩),.inr ⟨o',t',bE.yF μ.aZ μ.g μ.w ?_,Ε⟩⟩;rw[J,U];rfl
end
theorem Ot {w:World} {cI:Addr} {n:Int} {vs:List Value} (γ:vs[0]?=some (.pointer (some cI))) (ε:w.cell? cI=some (.int .u32 n)) (rE:n≠0) (Φ:w.frozen? cI=false):(Extern.Sync.semacquire vs.toArray).run P w=.ok (.tuple #[]) (w.setCell cI (.int .u32 (n-1))):=by
 simp[Extern.Sync.semacquire,Extern.Sync.count,γ,ε,rE,Φ,Extern.Sync.none_,run_store P w cI (.int .u32 (n-1)) .atomic rfl,Result.andThen]
theorem Ou {w:World} {cI:Addr} {n:Int} {vs:List Value} (γ:vs[0]?=some (.pointer (some cI))) (ε:w.cell? cI=some (.int .u32 n)) (rE:n≠0) (Φ:w.frozen? cI=false) (es:Array Event):(Extern.Sync.semacquire vs.toArray).events P w es=es++semEvents cI:=by
 simp[Extern.Sync.semacquire,Extern.Sync.count,γ,ε,rE,Φ,semEvents,events_load,events_store P w _ cI (.int .u32 (n-1)) .atomic rfl,run_store P w cI (.int .u32 (n-1)) .atomic rfl,Result.evThen];apply Array.ext';simp
theorem Ov {w:World} {cI:Addr} {vs:List Value} (γ:vs[0]?=some (.pointer (some cI))) (ε:w.cell? cI=some (.int .u32 0)):(Extern.Sync.semacquire vs.toArray).run P w=.halt .blocked w:=by
 simp[Extern.Sync.semacquire,Extern.Sync.count,γ,ε]
theorem Ow {w:World} {cI:Addr} {n:Int} {vs:List Value} (γ:vs[0]?=some (.pointer (some cI))) (ε:w.cell? cI=some (.int .u32 n)) (Φ:w.frozen? cI=false):(Extern.Sync.semrelease vs.toArray).run P w=.ok (.tuple #[]) (w.setCell cI (.int .u32 (IntKind.u32.wrap (n+1)))):=by
 simp[Extern.Sync.semrelease,Extern.Sync.count,γ,ε,Φ,Extern.Sync.none_,Op.intArith,run_store P w cI (.int .u32 (IntKind.u32.wrap (n+1))) .atomic rfl,Result.andThen]
theorem Ox {w:World} {cI:Addr} {n:Int} {vs:List Value} (γ:vs[0]?=some (.pointer (some cI))) (ε:w.cell? cI=some (.int .u32 n)) (Φ:w.frozen? cI=false) (es:Array Event):(Extern.Sync.semrelease vs.toArray).events P w es=es++semEvents cI:=by
 simp[Extern.Sync.semrelease,Extern.Sync.count,γ,ε,Φ,semEvents,Op.intArith,events_load,events_store P w _ cI (.int .u32 (IntKind.u32.wrap (n+1))) .atomic rfl,run_store P w cI (.int .u32 (IntKind.u32.wrap (n+1))) .atomic rfl,Result.evThen];apply Array.ext';simp
theorem EV {s dd off d:Nat} {sp:Spec} (hb:ez s sp dd):o4 s sp d (semEvents ⟨dd,off,none⟩):=by
 refine⟨by simp[deafBehind,semEvents],λj y Κ=>?_⟩
 match j,Κ with
 | 0,Κ=>simp[semEvents] at Κ;subst Κ;exact .inl rfl
 | 1,Κ=>simp[semEvents] at Κ;subst Κ;exact .inr (.inr ⟨dd,off,false,rfl,hb,by simp[semEvents,deafBehind]⟩)
 | 2,Κ=>simp[semEvents] at Κ;subst Κ;exact .inr (.inr ⟨dd,off,true,rfl,hb,by simp[semEvents,deafBehind]⟩)
 | 3,Κ=>simp[semEvents] at Κ;subst Κ;exact .inr (.inl rfl)
 | j+4,Κ=>simp[semEvents] at Κ
section
variable {s m:Nat} {sp:Spec} (γ:e7 x) (b7:x.spec s=some sp) (c5:¬gk (x.tok s))
include γ b7 c5
theorem V.Yo (hm:sp.aZ=some m) (an:vs[0]?=some (.pointer (some ⟨m,1,none⟩))) (cH:∀bk,bk≠s->nF (x.tok bk)) (h:hh P b ops i op f Extern.Sync.semacquire args env vs nt)
  (wait:∀φ ο,Seen x s sp φ ο->ο.db=0->kA ο (x.tok s))
  (dD:∀φ ο,Seen x s sp φ ο->0<ο.db->∃o' t',mwd o'=mwd ο/\o'.db=ο.db-1/\yH ο o'/\qK P Q mn x b cs nt o ops rest k op env σ s φ ο (.tuple #[]) o' t') :
  V P Q mn (one x) b cs nt o (.inRegion ops (i::rest)::k) env σ:=by
 refine .ext γ b7 c5 h λw φ ο ν bE=>?_;have dk:ο.aZ=some m:=by rw[ν.spec];exact hm
 have ε:=bE.dU dk;by_cases hv:ο.db=0
 ·exact .inr ⟨wait φ ο ν hv,cH,Ov an (by rw[ε,hv];rfl)⟩
 ·obtain⟨o',t',J,U,μ,Ε⟩:=dD φ ο ν R;have Ζ:((ο.db:Nat):Int)≠0:=R;refine .inl ⟨_,_,_,Ot an ε Ζ (bE.yE dk 1),Ou an ε Ζ (bE.yE dk 1) _,semEvents_sync _,bE.ET dk hm _,EV (.inr hm),.inr ⟨o',t',bE.ES dk μ.aZ μ.g μ.w ?_,Ε⟩⟩;rw[J,U,show((ο.db:Nat):Int)-1=((ο.db-1:Nat):Int) by omega];rfl
theorem V.Yp (an:vs[0]?=some (.pointer (some ⟨s,1,none⟩))) (cH:∀bk,bk≠s->nF (x.tok bk)) (h:hh P b ops i op f Extern.Sync.semacquire args env vs nt)
  (wait:∀φ ο,Seen x s sp φ ο->ο.cP=0->kA ο (x.tok s))
  (dD:∀φ ο,Seen x s sp φ ο->0<ο.cP->∃o' t',cT o'=cT ο/\o'.cP=ο.cP-1/\r9 ο o'/\qK P Q mn x b cs nt o ops rest k op env σ s φ ο (.tuple #[]) o' t') :
  V P Q mn (one x) b cs nt o (.inRegion ops (i::rest)::k) env σ:=by
 refine .ext γ b7 c5 h λw φ ο ν bE=>?_;have ε:=bE.Ρ;by_cases hv:ο.cP=0
 ·exact .inr ⟨wait φ ο ν hv,cH,Ov an (by rw[ε,hv];rfl)⟩
 ·obtain⟨o',t',J,U,μ,Ε⟩:=dD φ ο ν R;have Ζ:((ο.cP:Nat):Int)≠0:=R;refine .inl ⟨_,_,_,Ot an ε Ζ (bE.vc 1),Ou an ε Ζ (bE.vc 1) _,semEvents_sync _,bE.yG _,EV (.inl rfl),.inr ⟨o',t',bE.yF μ.aZ μ.g μ.w ?_,Ε⟩⟩;rw[J,U,show((ο.cP:Nat):Int)-1=((ο.cP-1:Nat):Int) by omega];rfl
theorem V.Oy (hm:sp.aZ=some m) (an:vs[0]?=some (.pointer (some ⟨m,1,none⟩))) (h:hh P b ops i op f Extern.Sync.semrelease args env vs nt)
  (dD:∀φ ο,Seen x s sp φ ο->ο.db<1000/\∃o' t',mwd o'=mwd ο/\o'.db=ο.db+1/\yH ο o'/\qK P Q mn x b cs nt o ops rest k op env σ s φ ο (.tuple #[]) o' t') :
  V P Q mn (one x) b cs nt o (.inRegion ops (i::rest)::k) env σ:=by
 refine .ext γ b7 c5 h λw φ ο ν bE=>.inl ?_;have dk:ο.aZ=some m:=by rw[ν.spec];exact hm
 have ε:=bE.dU dk;obtain⟨aO,o',t',J,U,μ,Ε⟩:=dD φ ο ν;refine⟨_,_,_,Ow an ε (bE.yE dk 1),Ox an ε (bE.yE dk 1) _,semEvents_sync _,bE.ET dk hm _,EV (.inr hm),.inr ⟨o',t',bE.ES dk μ.aZ μ.g μ.w ?_,Ε⟩⟩;rw[J,U,show IntKind.u32.wrap (((ο.db:Nat):Int)+1)=((ο.db+1:Nat):Int) by simp only[IntKind.wrap_u32];omega];rfl
end
end
end Go.TL
namespace Go.TL
open Go.Conc
open Go.ConcM (OsLater)
open Go.ConcN (sumTo upd sumTo_upd upd_ne upd_same sumTo_congr le_sumTo)
open Go.ConcR (mk)
variable [bp]
section
variable {P:Program} {T:bb} {Q:Value->Prop} {mn:Bool} {x:a2} {z:g9} {b:Frame} {cs:List Frame} {nt:Nat} {o:Base} {k:List Item} {env:Χ} {σ:List Row}
variable {ops:Array Oper} {i:Nat} {rest:List Nat} {op:Oper} {f:FuncId} {e:Array Value->Sem Value} {args:Array Operand} {vs:List Value} {fn:Func}
theorem nj {S:aL} {B:aW} {l:List Value} {vs:Array Value} (h:fQ S B σ (l.map η.z) vs):vs=l.toArray:=by
 apply Array.ext';apply List.ext_getElem?;intro i;have J:=h.1;rw[List.length_map] at J;by_cases hi:i<l.length
 ·have Γ:(l.map η.z)[i]?=some (.z l[i]):=by rw[List.getElem?_map,a8 hi];rfl
  have Δ:vs[i]?=some vs[i]:=ff R
  have:=h.2 i _ _ Γ Δ
  have:vs[i]=l[i]:=by generalize vs[i]=u at this;cases this;rfl
  rw[Array.getElem?_toList,Δ,this];simp[hi]
 ·rw[Array.getElem?_toList,Array.getElem?_eq_none R];simp;omega
theorem V.call (γ:Seq z) (bY:ni b ops i op) (hw:fe env ops op=some true) {y:Operand} {ej:Array TypeId} (Μ:op.op=.call ⟨.value y,args,ej⟩) {g:FuncId} {first captured:List η} (Τ:aR env y=.fn (.func g) first captured) (Ο:Plain P g)
  (h:∀(S:aL) (B:aW) (H:Α) (t:Array Value) (vs:Array Value),e4 o.m o.S o.B o.H o.σ S B H σ->fO o.m nt S B H σ env t->fQ S B σ (first++args.toList.map (aR env)++captured) vs->
   aU P Q mn z (Frame.enter P g vs .normal) (ax b t (.inRegion ops (i::rest)::k)::cs) H):V P Q mn z b cs nt o (.inRegion ops (i::rest)::k) env σ:=by
 intro S B H t κ π;refine .op γ bY.run bY.op (kF π.cx hw) (.inr λc=>by rw[Μ];simp) ?_;have e:execOp (bl t) op=(do let d <-Deferred.ofValue (bl t y) (args.map (bl t));invoke d.target d.args):=by unfold execOp;rw[Μ];rfl
 rw[e];have b8:=l' π.cx y;have m4:=Ii π.cx args;rw[Τ] at b8;generalize bl t y=ay at b8;cases b8 with
 | fn v1 v2 J U μ Ε=>
  refine ς.bind' (ς.pure' ?_);obtain⟨fn,bL,lB,D7⟩:=Ο;unfold invoke;simp only;unfold callFunc;refine ς.bind' ?_;show ς P (match P.funcs[g]? with|none=>_|some fn=>_) H _ _;rw[bL];simp only[lB,D7,Bool.false_eq_true,if_false];refine ς.pure' ?_;have r1:fQ S B σ first v1:=⟨J,μ⟩
  have r2:fQ S B σ captured v2:=⟨U,Ε⟩;exact h S B H t _ κ π ((r1.append m4).append r2)
theorem V.qL {g:FuncId} {body:Code} (bL:P.funcs[g]?=some fn) (nR:fn.body=some body) {c:Frame} {S:aL} {B:aW} {H:Α} (Β:Holds S B σ H) (Ζ:vs.length<=fn.ntmps)
  (h:V P Q mn z (Frame.enter P g vs.toArray .normal) (c::cs) fn.ntmps ⟨S,[],H,[],0⟩ [.code body] (entry 0 (vs.map η.z)) []):aU P Q mn z (Frame.enter P g vs.toArray .normal) (c::cs) H:=by
 rw[qB bL nR];refine h.here (fO.enter Β.bare ⟨ζ,λi a v J U=>?_⟩ (Nat.le_refl _) (by simpa using Ζ));simp only[List.getElem?_map,List.getElem?_toArray] at J U;rw[U] at J;cases J;exact .z v
theorem V.IF (γ:Seq z) (hb:b.mode=.run) (cu:b.roundOf=none) (eV:b.defers=[]) (g6:b.kind=.normal) (bL:P.funcs[b.fn]?=some fn) (fc:fn.results=#[]) {c:Frame}
  (h:∀(S:aL) (B:aW) (H:Α),e4 o.m o.S o.B o.H o.σ S B H σ->Holds S B σ H->aU P Q mn z (c.finish (.tuple #[])) cs H):V P Q mn z b (c::cs) nt o (.code .ret::k) env σ:=by
 intro S B H t κ π;refine .ret γ hb cu (.back γ rfl eV (.inl g6) bL ?_);rw[results_none fc];exact ς.pure' (h S B H κ π.holds)
theorem V.EW (γ:Seq z) (hb:b.mode=.run) (cu:b.roundOf=none) (eV:b.defers=[]) (g6:b.kind=.normal) (bL:P.funcs[b.fn]?=some fn) (fc:fn.results=#[]) {c:Frame}
  (h:∀(S:aL) (B:aW) (H:Α),e4 o.m o.S o.B o.H o.σ S B H σ->Holds S B σ H->aU P Q mn z (c.finish (.tuple #[])) cs H):V P Q mn z b (c::cs) nt o [] env σ:=by
 intro S B H t κ π;refine .sM γ hb cu (.back γ rfl eV (.inl g6) bL ?_);rw[results_none fc];exact ς.pure' (h S B H κ π.holds)
theorem V.tz (γ:Seq z) (hb:b.mode=.run) (cu:b.roundOf=none) (eV:b.defers=[]) (g6:b.kind=.normal) (bL:P.funcs[b.fn]?=some fn) {d:Nat} (fc:fn.results=#[.tmp d]) {v:Value} (hv:a5 env d=.z v) {c:Frame}
  (h:∀(S:aL) (B:aW) (H:Α),e4 o.m o.S o.B o.H o.σ S B H σ->Holds S B σ H->aU P Q mn z (c.finish v) cs H):V P Q mn z b (c::cs) nt o (.code .ret::k) env σ:=by
 intro S B H t κ π;refine .ret γ hb cu (.back γ rfl eV (.inl g6) bL ?_);have e:results fn t=pure (t.getD d undef):=by unfold results;rw[fc];simp
 have l4:t.getD d undef=v:=by
  have:=π.cx d;rw[hv] at this;generalize t.getD d undef=u at this;cases this;rfl
 show ς P (results fn t) H _ _;rw[e,l4];exact ς.pure' (h S B H κ π.holds)
theorem Yq {w:World} {ty:TypeId} {kd:IntKind} (hu:P.underlying ty=some (.int kd)) {cI:Addr} {v:Value} (ε:w.cell? cI=some v):(Instr.loadAt ty (.pointer (some cI))).run P w=.ok v w/\(Instr.loadAt ty (.pointer (some cI))).events P w #[]=#[⟨.cell cI,false,false⟩]:=by
 constructor
 ·simp[Instr.loadAt,Instr.sureAddr,loadVar,isAgg,run_underlying hu,ε,Result.andThen]
 ·simp[Instr.loadAt,Instr.sureAddr,loadVar,isAgg,run_underlying hu,ε,events_load,Result.evThen]
theorem Yr {t:Array Value} {w:World} (bY:ni b ops i op) (hw:Region.wanted op (yielded ops t)=true) {ty:TypeId} {y:Operand} (Μ:op.op=.load ty y) {kd:IntKind} (hu:P.underlying ty=some (.int kd)) {cI:Addr} (Κ:bl t y=.pointer (some cI)) {v:Value} (ε:w.cell? cI=some v) (Ξ:(P.funcs[b.fn]?).any (·.norace)=true) :
  stepG P mn (Go.Conc.G (ax b t (.inRegion ops (i::rest)::k)) cs) w=.go (Go.Conc.G (ax b (put op t v) (.inRegion ops rest::k)) cs) w #[]:=by
 obtain⟨r1,r2⟩:=Yq (P:=P) hu ε;have e:execOp (bl t) op=(do pure (.value (<-Instr.loadAt ty (.pointer (some cI))))):=by unfold execOp;rw[Μ,<-Κ]
 rw[gX bY.run bY.ro,gX bY.run bY.ro,<-va];have ι:(execOp (⟨t,b.defers⟩:_root_.Go.Act).eval op).run P w=.ok (.value v) w:=by rw[mB,e];simp[r1,Result.andThen]
 have he:(execOp (⟨t,b.defers⟩:_root_.Go.Act).eval op).events P w #[]=#[⟨.cell cI,false,false⟩]:=by rw[mB,e];simp[r1,r2,Result.evThen]
 rw[stepG_value bY.op hw bY.kd ι];unfold listed;rw[he,seen_def,Ξ];simp[seenStep]
section
variable {s:Nat} {sp:Spec} (γ:e7 x) (b7:x.spec s=some sp) (c5:¬gk (x.tok s))
include γ b7 c5
theorem V.yI (bY:ni b ops i op) (hd:hc nt op=true) (hw:fe env ops op=some true) {ty:TypeId} {y:Operand} (Μ:op.op=.load ty y) {kd:IntKind} (hu:P.underlying ty=some (.int kd)) {cI:Addr} (Κ:aR env y=.z (.pointer (some cI))) (Ξ:(P.funcs[b.fn]?).any (·.norace)=true)
  (val:aV->Int) (ε:∀(ο:aV) (w:World),ο.toSpec=sp->At s ο w->w.cell? cI=some (.int kd (val ο)))
  (dD:∀φ ο,Seen x s sp φ ο->iP P Q mn x b cs nt o ops rest k op env σ s φ ο (.int kd (val ο))\/∃t',qK P Q mn x b cs nt o ops rest k op env σ s φ ο (.int kd (val ο)) ο t') :
  V P Q mn (one x) b cs nt o (.inRegion ops (i::rest)::k) env σ:=by
 refine .atomic γ b7 c5 hd hw λt w φ ο dK _ rl J U μ Ε=>.inl ?_;refine⟨.int kd (val ο),w,#[],Yr bY rl Μ hu (dK _ _ Κ) (ε ο w J U) Ξ,fI.refl _ _ _,Oo,?_⟩;exact(dD φ ο ⟨J,μ,Ε⟩).imp (λh=>⟨U,h⟩) λ⟨t',au,bd⟩=>⟨ο,t',au,U,.inr rfl,bd⟩
theorem V.conv (bY:ni b ops i op) (hd:hc nt op=true) (hw:fe env ops op=some true) {src dst t0:TypeId} {y:Operand} (Μ:op.op=.convert src dst y) (ν:P.underlying src=some (.pointer t0)) (v5:P.underlying dst=some .unsafePointer) (cv:(P.info? t0).map (λi=>decide (i.size=0))=some false) {cI:Addr} (Κ:aR env y=.z (.pointer (some cI)))
  (ε:∀(ο:aV) (w:World),ο.toSpec=sp->At s ο w->∃v,w.cell? cI=some v)
  (dD:∀φ ο,Seen x s sp φ ο->iP P Q mn x b cs nt o ops rest k op env σ s φ ο (.pointer (some cI))) :
  V P Q mn (one x) b cs nt o (.inRegion ops (i::rest)::k) env σ:=by
 refine .atomic γ b7 c5 hd hw λt w φ ο dK _ rl J U μ Ε=>.inl ?_;obtain⟨v,hv⟩:=ε ο w J U;refine⟨.pointer (some cI),w,#[],?_,fI.refl _ _ _,Oo,.inl ⟨U,dD φ ο ⟨J,μ,Ε⟩⟩⟩;have r1:=run_convert_to_unsafe (P:=P) ν v5 cv hv;have r2:=events_convert_to_unsafe (P:=P) ν v5 cv hv #[];have e:execOp (bl t) op=(do pure (.value (<-convert src dst (.pointer (some cI))))):=by unfold execOp;rw[Μ,<-dK _ _ Κ]
 rw[gX bY.run bY.ro,gX bY.run bY.ro,<-va];have ι:(execOp (⟨t,b.defers⟩:_root_.Go.Act).eval op).run P w=.ok (.value (.pointer (some cI))) w:=by rw[mB,e];simp[r1,Result.andThen]
 have he:(execOp (⟨t,b.defers⟩:_root_.Go.Act).eval op).events P w #[]=#[]:=by rw[mB,e];simp[r1,r2,Result.evThen]
 rw[stepG_value bY.op rl bY.kd ι];unfold listed;rw[he,seen_none]
end
theorem Ys (w:World):OsLater w.os w.later.os:=⟨w.tick,rfl⟩
theorem ec.later {H:Α} {w:World} (h:Fits H w):ec H w H w.later #[]:=
 ⟨⟨h.aP,h.row,h.obj⟩,⟨Nat.le_refl _,λb c t ef hb=>⟨c,hb,rfl,λ_ _=>rfl⟩,λb x hb _ _=>hb,Ys w,rfl,rfl⟩,⟨λb o v p h=>.inr ⟨v,p,h,id⟩,λb h=>.inr h⟩,λe he=>by simp at he⟩
theorem V.nano (γ:Seq z) (h:hh P b ops i op f Extern.OsHooks.nano args env vs nt) (Ξ:(P.funcs[f]?).any (·.norace)=true) (χ:∀τ:Int,V P Q mn z b cs nt o (.inRegion ops rest::k) (b0 op env (.z (.int .i64 τ))) σ):V P Q mn z b cs nt o (.inRegion ops (i::rest)::k) env σ:=by
 intro S B H t κ π;obtain⟨fn,J,U,μ,Ε,au⟩:=h.m8;obtain⟨ej,Μ⟩:=h.call;rw[J] at Ξ;refine aU.own γ λw Τ=>⟨_,_,_,_,H,?_,ec.later Τ,χ ((w.os.mono+w.tick:Nat):Int) S B H _ κ (π.put h.dst (.z _))⟩;rw[gX h.at_.run h.at_.ro,stepG_nanotime (a:=⟨t,b.defers⟩) h.at_.op (kF π.cx h.want) h.at_.kd Μ J U μ Ε au (by simpa using Ξ),va,<-gX h.at_.run h.at_.ro]
theorem V.canSpin (γ:Seq z) {n:Int} (h:hh P b ops i op f Extern.Sync.canSpin args env [.int .i64 n] nt) (χ:∀y:Bool,(y=true->n<4)->V P Q mn z b cs nt o (.inRegion ops rest::k) (b0 op env (.z (.bool y))) σ):V P Q mn z b cs nt o (.inRegion ops (i::rest)::k) env σ:=by
 intro S B H t κ π;obtain⟨fn,J,U,μ,Ε,au⟩:=h.m8;obtain⟨ej,Μ⟩:=h.call;have h4:args.map (⟨t,b.defers⟩:_root_.Go.Act).eval=#[.int .i64 n]:=by rw[mB];exact h.A9.bl π.cx
 by_cases bd:n<4
 ·refine aU.own γ λw Τ=>⟨_,_,_,_,H,?_,(ec.start Τ).draw (w.drawn+1),χ w.spins (λ_=>bd) S B H _ κ (π.put h.dst (.z _))⟩;rw[gX h.at_.run h.at_.ro,stepG_canSpin_ask (a:=⟨t,b.defers⟩) h.at_.op (kF π.cx h.want) h.at_.kd Μ J U μ Ε au h4 bd,va,<-gX h.at_.run h.at_.ro];rfl
 ·refine aU.own γ λw Τ=>⟨_,_,w,#[],H,?_,ec.start Τ,χ false (λh=>by cases h) S B H _ κ (π.put h.dst (.z _))⟩;rw[gX h.at_.run h.at_.ro,stepG_canSpin_no (a:=⟨t,b.defers⟩) h.at_.op (kF π.cx h.want) h.at_.kd Μ J U μ Ε au h4 R,va,<-gX h.at_.run h.at_.ro]
theorem V.EX (γ:Seq z) {v:Value} (h:hh P b ops i op f (λ_=>pure v) args env vs nt) (χ:V P Q mn z b cs nt o (.inRegion ops rest::k) (b0 op env (.z v)) σ):V P Q mn z b cs nt o (.inRegion ops (i::rest)::k) env σ:=
 λS B H t κ π=>aU.own γ λw Τ=>⟨_,_,w,#[],H,h.step π.cx ζ ζ ζ,ec.start Τ,χ S B H _ κ (π.put h.dst (.z v))⟩
theorem V.IG (γ:Seq z) (bY:ni b ops i op) (hw:fe env ops op=some true) (rJ:op.dst=none) {ej:Array TypeId} (Μ:op.op=.defer ⟨.value (.func f),#[],ej⟩)
  (h:V P Q mn z {b with defers:=Go.Conc.dcall f #[]::b.defers} cs nt o (.inRegion ops rest::k) env σ):V P Q mn z b cs nt o (.inRegion ops (i::rest)::k) env σ:=by
 intro S B H t κ π;have NL:put op t undef=t:=by unfold put;rw[rJ]
 refine aU.still γ (f':=ax {b with defers:=Go.Conc.dcall f #[]::b.defers} t (.inRegion ops rest::k)) (cs':=cs) (λw=>?_) (h S B H t κ π);rw[gX bY.run bY.ro,stepG_defer (a:=⟨t,b.defers⟩) bY.op (kF π.cx hw) bY.kd Μ];have:(⟨t,Go.Conc.dcall f #[]::b.defers⟩:_root_.Go.Act).put op.dst undef=⟨t,Go.Conc.dcall f #[]::b.defers⟩:=by rw[rJ];rfl
 simp only[Array.map_empty,List.map_toArray,List.map_nil];rw[this,gX (b:={b with defers:=Go.Conc.dcall f #[]::b.defers}) bY.run bY.ro];rfl
theorem cC.Yt (γ:e7 x) (hd:0<x.deaf) (hb:b.mode=.run) (cu:b.roundOf=none) {ds:List Deferred} (eV:b.defers=Go.Conc.dcall f #[]::ds) (he:Entry P f (λ_=>do mark .enable;pure Extern.Race.none_)) {H:Α} {t:Array Value}
  (h:cC P Q mn {x with deaf:=x.deaf-1} {ax {b with defers:=ds} t k with mode:=.returning} cs H):cC P Q mn x {ax b t k with mode:=.returning} cs H:=by
 obtain⟨fn,J,U,μ,Ε,au⟩:=he;refine Goes.step γ.ok (.inr ⟨⟨rfl,rfl⟩,.inr (.inl ⟨Go.Conc.G {ax {b with defers:=ds} t k with mode:=.returning} cs,⟨rfl,rfl⟩,.inr ⟨hd,λw _=>⟨?_,h⟩⟩⟩)⟩);rw[gX hb cu,gX (b:={b with defers:=ds}) hb cu];exact stepG_unwind_entry (a:=⟨t,b.defers⟩) (v:=.tuple #[]) eV J U μ Ε au (EP .enable) (ER .enable _) (r4 ζ)
end
inductive Quiet (P:Program) (mn:Bool):Goroutine->Goroutine->Prop where
 | nil (g:Goroutine):Quiet P mn g g
 | cons {g g' Oz:Goroutine}:jl g->(∀w,stepG P mn g w=.go g' w #[])->Quiet P mn g' Oz->Quiet P mn g Oz
section
variable {P:Program} {Q:Value->Prop} {mn:Bool} {x:a2} {g g':Goroutine}
theorem Quiet.runs (h:Quiet P mn g g') (ι:jl g'):jl g:=by
 cases h with
 | nil=>exact ι
 | cons J=>exact J
theorem Quiet.goes (h:Quiet P mn g g') (γ:e7 x) (ι:jl g') (Ο:Goes P Q mn g' x):Goes P Q mn g x:=by
 induction h with
 | nil=>exact Ο
 | cons J U μ ω=>
  refine Goes.step γ.ok (.inr ⟨J,.inl λw Τ hv=>?_⟩);rw[U w];refine⟨x.G,x.aN,μ.runs ι,fI.refl _ _ _,Τ,hv,⟨λb o v p h=>.inr ⟨v,p,h,id⟩,λb h=>.inr h⟩,λb c h=>.inl h,λe he=>by simp at he,λb c _ _ e he=>by simp at he,ω ι Ο⟩
end
end Go.TL
namespace Go.TL
open Go.Conc Go.Proofs
variable [bp]
def tA (P:Program) (Q:Value->Prop) (mn:Bool) (x:g9) (b:Frame) (cs:List Frame) (nt:Nat) (o:Base) (L:Nat) (r:Loop) (k:List Item) (env:Χ) (σ:List Row):Prop:=
 ∀(S:aL) (B:aW) (H:Α) (t:Array Value),e4 o.m o.S o.B o.H o.σ S B H σ->fO o.m nt S B H σ env t->¬B.has L->H.obj L=some (.loop r)->aU P Q mn x (ax b t k) cs H
theorem qM {S aF:aL} {B B':aW} {H H':Α} (he:Ext S B H aF B' H') {L:Nat} {y:Obj} (Ζ:¬B.has L) (ai:H.obj L=some y):¬B'.has L/\H'.obj L=some y:=by
 have Τ:¬H.fresh L:=λh=>by rw[h.2.2.1] at ai;cases ai
 exact⟨λh=>(he.blocks L h).elim Ζ Τ,by rw[(he.fV L Ζ Τ).2.2];exact ai⟩
theorem Yu {H:Α} {L:Nat} {y:Obj} (ai:H.fg L):∀b,(H.bK L y).fresh b↔H.fresh b:=by
 obtain⟨z,Φ⟩:=ai;have key:∀b,((H.bK L y).obj b=none↔H.obj b=none):=λb=>by
  by_cases e:b=L
  ·subst e;simp[Α.bK,Φ]
  ·simp[Α.bK,e]
 exact λb=>⟨λh=>⟨h.1,h.2.1,(key b).1 h.2.2.1,λΨ hb=>⟨(h.2.2.2 Ψ hb).1,(h.2.2.2 Ψ hb).2.1,(key Ψ).1 (h.2.2.2 Ψ hb).2.2⟩⟩,
  λh=>⟨h.1,h.2.1,(key b).2 h.2.2.1,λΨ hb=>⟨(h.2.2.2 Ψ hb).1,(h.2.2.2 Ψ hb).2.1,(key Ψ).2 (h.2.2.2 Ψ hb).2.2⟩⟩⟩
theorem Holds.bK {S:aL} {B:aW} {σ:List Row} {H:Α} {L:Nat} {y:Obj} (Β:Holds S B σ H) (Ζ:¬B.has L):Holds S B σ (H.bK L y):=by
 have a0:∀b,b≠L->kY H (H.bK L y) b:=λb hb=>⟨λ_=>rfl,rfl,by simp[Α.bK,hb]⟩
 have ne:∀(id b N:Nat),B[id]?=some (some (b,N))->b≠L:=λid b N h e=>Ζ (e▸pf h);refine⟨Β.dm,Β.len,λid r bo ι ey=>?_,Β.inj,Β.sep⟩;by_cases fb:r.live
 ·refine(Β.row id r bo ι ey).later (b3.refl S B σ) (λb N e=>a0 b (ne id b N (by rw[ey,e]))) λm left cur e=>⟨rfl,rfl,λb N hb=>a0 b (ne m b N hb)⟩
 ·cases r<;>first|exact absurd trivial fb|trivial
theorem Ext.bK {fu S:aL} {eH B:aW} {ei H:Α} {L:Nat} {y:Obj} (he:Ext fu eH ei S B H) (Τ:ei.fresh L) (ai:H.fg L):Ext fu eH ei S B (H.bK L y):=by
 refine⟨he.dm,λb hb ph=>?_,he.blocks,he.rv,λb hb=>he.grow b ((Yu ai b).1 hb)⟩;have:b≠L:=λe=>ph (e▸Τ);obtain⟨J,U,μ⟩:=he.fV b hb ph;exact⟨J,U,by simp[Α.bK,this,μ]⟩
section
variable {P:Program} {T:bb} {Q:Value->Prop} {mn:Bool} {x:g9} {b:Frame} {cs:List Frame} {nt:Nat} {o:Base} {L:Nat} {r:Loop} {k:List Item} {env:Χ} {σ:List Row}
theorem tA.fT (γ:Seq x) (hb:b.mode=.run) (h:W P o.m nt k env σ (tA P Q mn x b cs nt o L r) (λ_ _ _=>False)):tA P Q mn x b cs nt o L r k env σ:=
 λS B H t κ π k8 ai=>h Q mn x cs b S B H t γ hb π (λj env' σ' aF B' H' t' af Φ eo iw ξ=>by
  have e:af=j:=ξ;subst e;obtain⟨J,U⟩:=qM eo.ext k8 ai;exact Φ aF B' H' t' (κ.trans eo) iw J U) (λa env' σ' aF B' H' t' af v he=>he.elim)
theorem tA.yield (γ:Seq x) {ops:Array Oper} {i:Nat} {rest:List Nat} {op:Oper} (bY:ni b ops i op) (hw:fe env ops op=some true) {y:Operand} {args:Array Operand} {ej:Array TypeId} (Μ:op.op=.call ⟨.value y,args,ej⟩) (Τ:aR env y=.fn (.yield L) [] []) (cv:args.size=r.params.size)
  (h:∀(S:aL) (B:aW) (H:Α) (t:Array Value) (vs:Array Value),e4 o.m o.S o.B o.H o.σ S B H σ->fO o.m nt S B H σ env t->¬B.has L->H.obj L=some (.loop r)->fQ S B σ (args.toList.map (aR env)) vs->
   aU P Q mn x (Frame.round L r.fn ((r.params.zip vs).foldl (λtmps (t,a)=>tmps.setIfInBounds t a) r.tmps) r.assign r.body .normal) (ax b t (.inRegion ops (i::rest)::k)::cs) H):tA P Q mn x b cs nt o L r (.inRegion ops (i::rest)::k) env σ:=by
 intro S B H t κ π k8 ai;refine aU.op γ bY.run bY.op (kF π.cx hw) (.inr λc=>by rw[Μ];simp) ?_;have e:execOp (bl t) op=(do let d <-Deferred.ofValue (bl t y) (args.map (bl t));invoke d.target d.args):=by unfold execOp;rw[Μ];rfl
 rw[e];have b8:=l' π.cx y;have m4:=Ii π.cx args;rw[Τ] at b8;generalize bl t y=ay at b8;cases b8 with
 | fn v1 v2 J U μ Ε=>
  have Γ:v1=#[]:=Array.eq_empty_of_size_eq_zero (by rw[<-J];rfl)
  have Δ:v2=#[]:=Array.eq_empty_of_size_eq_zero (by rw[<-U];rfl);subst Γ;subst Δ;refine ς.bind' (ς.pure' ?_);have xO:invoke (Target.fn (Fn.yield L) #[]) (#[]++args.map (bl t))=Instr.yield L (args.map (bl t)):=by simp[invoke]
  show ς P (invoke (Target.fn (Fn.yield L) #[]) (#[]++args.map (bl t))) H _ _;rw[xO];unfold Instr.yield;refine ς.bind' (ς.getLoop ai ?_);rw[if_neg (by simp[cv])];refine ς.bind' (ς.pure' (ς.pure' ?_));exact h S B H t _ κ π k8 ai m4
end
end Go.TL
namespace Go.TL
open Go.Conc Go.Proofs
def qN (n:Nat) (l:List Nat):Nat->Option Nat
 | 0=>none
 | e+1=>if l.getD e 0+l.length=n+e then qN n l e else some e
def nk (l:List Nat) (i:Nat) (k:Nat):List Nat:=l.take i++((List.range k).map λj=>l.getD i 0+1+j)++l.drop (i+k)
def qO (n:Nat) (l:List Nat):Option (List Nat):=(qN n l l.length).map λi=>nk l i (l.length-i)
def oQ (n:Nat):Nat->List Nat->List (List Nat)
 | 0,l=>[l]
 | f+1,l=>l::match qO n l with|none=>[]|some m=>oQ n f m
def qP (n:Nat):Nat->List Nat->Bool
 | 0,l=>l.all (· < n)&&(qO n l).isNone
 | f+1,l=>l.all (· < n)&&match qO n l with|none=>true|some m=>qP n f m
def k9 (n c:Nat):List (List Nat):=(List.range' c (n+1-c)).flatMap λm=>oQ n 300 (List.range m)
theorem Yv:∀n<11,∀m<n+1,qP n 300 (List.range m)=true:=by decide +kernel
theorem Yw {n c:Nat} (h:c<n+1):k9 n c=oQ n 300 (List.range c)++k9 n (c+1):=by
 unfold k9;have:n+1-c=(n+1-(c+1))+1:=R;rw[this,List.range'_succ,List.flatMap_cons]
theorem Yx {n:Nat}:k9 n (n+1)=[]:=by simp[k9]
theorem Yy {n f:Nat} {l:List Nat} (h:qP n f l=true):∀x∈l,x<n:=by
 cases f<;>simp only[qP,Bool.and_eq_true,List.all_eq_true,decide_eq_true_eq] at h<;>exact h.1
theorem Yz {n f:Nat} {l:List Nat} (h:qO n l=none):oQ n f l=[l]:=by
 cases f<;>simp[oQ,h]
theorem YA {n f:Nat} {l m:List Nat} (ψ:qP n f l=true) (h:qO n l=some m):∃g,f=g+1/\oQ n f l=l::oQ n g m/\qP n g m=true:=by
 cases f with
 | zero=>simp[qP,h] at ψ
 | succ g=>exact⟨g,rfl,by simp[oQ,h],by simp[qP,h] at ψ;exact ψ.2⟩
theorem OA {l:List Nat} {i k:Nat} (h:i+k<=l.length):(nk l i k).length=l.length:=by simp[nk];omega
theorem YB {l:List Nat} {i:Nat} (h:i<l.length):nk l i 1=l.set i (l[i]+1):=by
 unfold nk;rw[List.set_eq_take_append_cons_drop,if_pos h];simp[h]
theorem YC {l:List Nat} {i k:Nat} (χ:0<k) (h:i+k<=l.length):(nk l i k).getD (i+k-1) 0=l.getD i 0+k:=by
 unfold nk;have Γ:(l.take i).length=i:=by simp;omega
 rw[List.getD_eq_getElem?_getD,List.append_assoc,hp R,Γ,dI (by simp;omega)];have:i+k-1-i=k-1:=R;rw[this,List.getElem?_map,List.getElem?_range R];simp;omega
theorem YD {l:List Nat} {i k:Nat} (h:i+k<l.length):(nk l i k).set (i+k) (l.getD i 0+k+1)=nk l i (k+1):=by
 unfold nk;have Γ:(l.take i++(List.range k).map λj=>l.getD i 0+1+j).length=i+k:=by simp;omega
 rw[List.set_append_right _ _ R,Γ,Nat.sub_self,List.range_succ,List.map_append];have Δ:l.drop (i+k)=l[i+k]::l.drop (i+k+1):=List.drop_eq_getElem_cons h;rw[Δ,List.set_cons_zero];simp;constructor<;>omega
end Go.TL
