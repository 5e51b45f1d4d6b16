import Derived.Conc.AtomicLaws2
import Derived.Conc.ClockLaws
import Derived.Conc.MarkLaws
import Derived.Conc.QuitsD
import Derived.Conc.SmallLaws
import Derived.Test.YtlabjopijpkiaaaGreatVAR
import Derived.Test.YtlabjopijpkiaaaGreatVAS
set_option maxHeartbeats 16000000
set_option maxRecDepth 20000
set_option linter.unusedSectionVars false
set_option linter.unusedSimpArgs false
set_option linter.unusedVariables false
namespace Go.TL
open Go.Conc
open Go.ConcM (OsLater)
open Go.ConcN (sumTo upd sumTo_upd upd_ne upd_same sumTo_congr le_sumTo)
open Go.ConcR (mk)
variable [bn]
theorem gO {b:Frame} (hb:b.mode=.run) (ι:b.roundOf=none) (t:Array Value) (k:List Item):aA b t k=b.at ⟨t,b.defers⟩ k:=by
 obtain⟨fn,xj,td,To,tF,kd,ro⟩:=b;simp only at hb ι;subst hb;subst ι;rfl
theorem uq (o:Oper) (t:Array Value) (ds:List Deferred) (v:Value):(⟨t,ds⟩:_root_.Go.Act).put o.dst v=⟨put o t v,ds⟩:=by
 unfold _root_.Go.Act.put put;cases o.dst<;>rfl
theorem md (t:Array Value) (ds:List Deferred):(⟨t,ds⟩:_root_.Go.Act).eval=bp t:=by funext o;cases o<;>rfl
def Entry (P:Program) (f:FuncId) (e:Array Value->Sem Value):Prop:=∃fn,P.funcs[f]?=some fn/\(fn.name == "runtime.NumGoroutine")=false/\fn.body.isNone=true/\Extern.findNext fn=none/\Extern.find fn=some e
structure m0 (b:Frame) (ops:Array Oper) (i:Nat) (op:Oper):Prop where
 run:b.mode=.run
 ro:b.roundOf=none
 kd:b.kind≠.early
 op:ops[i]?=some op
def e0 (x:aZ):Prop:=x.rel=false\/∃s,¬Gone (x.tok s)
theorem e0.ok {P:Program} {g:Goroutine} {x:aZ} (h:e0 x):y2 P g x:=λJ U=>by
 rcases h with h|⟨s,h⟩
 ·rw[h] at J;cases J
 ·exact absurd (U s) h
def one (x:aZ):g1:=λy=>y=x
@[reducible] def e1:bn:=⟨λ_=>True⟩
theorem Seq.uu {x:aZ} (Φ:bn.q (one x)) (ι:x.rel=false) (hv:x.aM=λ_=>none):Seq (one x):=⟨Φ,λy h=>by cases h;exact ι,λy h=>by cases h;exact hv⟩
theorem Seq.here {x:aZ} (h:Seq (one x)):e0 x:=.inl (h.rel x rfl)
section
variable {P:Program} {Q:Value->Prop} {mn:Bool} {x:aZ} {b:Frame} {cs:List Frame} {nt:Nat} {o:Base} {k:List Item} {env:Ω} {σ:List Row} {S:aJ} {B:aV} {H:χ} {t:Array Value}
variable {ops:Array Oper} {i:Nat} {rest:List Nat} {op:Oper} {f:FuncId} {e:Array Value->Sem Value} {args:Array Operand} {eh:Array TypeId} {w w':World}
theorem Ei (he:Entry P f e) (bW:m0 b ops i op) (hw:Region.wanted op (yielded ops t)=true) (Μ:op.op=.call ⟨.value (.func f),args,eh⟩) {vs:Array Value} (qm:args.map (bp t)=vs) {v:Value} {gz:Array Event}
  (eb:(e vs).run P w=.ok v w') (dI:(e vs).events P w #[⟨.mark (Mark.extern f),false,true⟩]=#[⟨.mark (Mark.extern f),false,true⟩]++gz) (ν:∀y∈gz,y.sync=true/\∀g,y.loc≠.mark (Mark.extern g)) :
  stepG P mn (Go.Conc.G (aA b t (.inRegion ops (i::rest)::k)) cs) w=.go (Go.Conc.G (aA b (put op t v) (.inRegion ops rest::k)) cs) w' gz:=by
 obtain⟨fn,J,U,μ,Θ,av⟩:=he;rw[gO bW.run bW.ro,gO bW.run bW.ro,<-uq];exact stepG_entry (a:=⟨t,b.defers⟩) bW.op hw bW.kd Μ J U μ Θ av (by rw[md,qm];exact eb) (by rw[md,qm];exact dI) ν
theorem XE (he:Entry P f e) (bW:m0 b ops i op) (hw:Region.wanted op (yielded ops t)=true) (Μ:op.op=.call ⟨.value (.func f),args,eh⟩) {vs:Array Value} (qm:args.map (bp t)=vs)
  (eb:(e vs).run P w=.halt .blocked w') :
  stepG P mn (Go.Conc.G (aA b t (.inRegion ops (i::rest)::k)) cs) w=.go {Go.Conc.G (aA b t (.inRegion ops (i::rest)::k)) cs with status:=.blocked} w' #[]:=by
 obtain⟨fn,J,U,μ,Θ,av⟩:=he;rw[gO bW.run bW.ro];exact stepG_entry_blocked (a:=⟨t,b.defers⟩) bW.op hw Μ J U μ Θ av (by rw[md,qm];exact eb)
theorem NV (he:Entry P f e) (bW:m0 b ops i op) (Μ:op.op=.call ⟨.value (.func f),args,eh⟩):mayWake P (Go.Conc.G (aA b t (.inRegion ops (i::rest)::k)) cs)=true:=by
 obtain⟨fn,J,U,μ,Θ,av⟩:=he;have ba:fn.body=none:=by simpa using μ
 have NW:(aA b t (.inRegion ops (i::rest)::k)).eval (.func f)=.func (.func f) #[] #[]:=rfl;simp[mayWake,Go.Conc.G,aA,bW.run,bW.op,Μ] at NW ⊢;simp[NW,J,ba]
def As (env:Ω) (args:Array Operand) (vs:List Value):Prop:=args.toList.map (aU env)=vs.map θ.z
theorem Ej (ν:du S B σ env t) {y:Operand} {v:Value} (h:aU env y=.z v):bp t y=v:=by
 have:=lX ν y;rw[h] at this;generalize bp t y=u at this;cases this;rfl
theorem As.bp (ν:du S B σ env t) {vs:List Value} (h:As env args vs):args.map (bp t)=vs.toArray:=by
 apply Array.ext';rw[Array.toList_map];have:∀(l:List Operand) (vs:List Value),l.map (aU env)=vs.map θ.z->l.map (Go.TL.bp t)=vs:=by
  intro l
  induction l with
  | nil=>intro vs h;cases vs with
   | nil=>rfl
   | cons=>cases h
  | cons y l Β=>
   intro vs h;cases vs with
   | nil=>cases h
   | cons v vs=>
    simp only[List.map_cons,List.cons.injEq] at h ⊢;exact⟨Ej ν h.1,Β vs h.2⟩
 exact this _ _ h
theorem Ek (m:Mark):((λ_=>do mark m;pure Extern.Race.none_:Array Value->Sem Value) #[]).run P w=.ok (.tuple #[]) w:=by simp[Extern.Race.none_]
theorem El (m:Mark) (es:Array Event):((λ_=>do mark m;pure Extern.Race.none_:Array Value->Sem Value) #[]).events P w es=es.push ⟨.mark m,false,true⟩:=η
theorem x4 (m:Addr->Mark) (cG:Addr):(Extern.Race.marked m #[.pointer (some cG)]).run P w=.ok (.tuple #[]) w:=by simp[Extern.Race.marked,Extern.Race.at_,Extern.Race.none_]
theorem x5 (m:Addr->Mark) (cG:Addr) (es:Array Event):(Extern.Race.marked m #[.pointer (some cG)]).events P w es=es.push ⟨.mark (m cG),false,true⟩:=by simp[Extern.Race.marked,Extern.Race.at_]
theorem rD {m:Mark} (hm:∀g,m≠Mark.extern g):∀y∈(#[⟨.mark m,false,true⟩]:Array Event),y.sync=true/\∀g,y.loc≠.mark (Mark.extern g):=by
 intro y Ι;simp at Ι;subst Ι;exact⟨rfl,λg h=>hm g (by cases h;rfl)⟩
structure g5 (P:Program) (b:Frame) (ops:Array Oper) (i:Nat) (op:Oper) (f:FuncId) (e:Array Value->Sem Value) (args:Array Operand) (env:Ω) (vs:List Value) (nt:Nat):Prop where
 at_:m0 b ops i op
 nF:Entry P f e
 call:∃eh,op.op=.call ⟨.value (.func f),args,eh⟩
 want:fP env ops op=some true
 dst:ik nt op=true
 Au:As env args vs
theorem g5.step {vs:List Value} (h:g5 P b ops i op f e args env vs nt) (ν:du S B σ env t) {v:Value} {gz:Array Event} (eb:(e vs.toArray).run P w=.ok v w')
  (dI:(e vs.toArray).events P w #[⟨.mark (Mark.extern f),false,true⟩]=#[⟨.mark (Mark.extern f),false,true⟩]++gz) (XF:∀y∈gz,y.sync=true/\∀g,y.loc≠.mark (Mark.extern g)) :
  stepG P mn (Go.Conc.G (aA b t (.inRegion ops (i::rest)::k)) cs) w=.go (Go.Conc.G (aA b (put op t v) (.inRegion ops rest::k)) cs) w' gz:=
 let ⟨_,Μ⟩:=h.call
 Ei h.nF h.at_ (ko ν h.want) Μ (h.Au.bp ν) eb dI XF
abbrev ou:θ:=.z (.tuple #[])
theorem V.disable (γ:e0 x) (h:g5 P b ops i op f (λ_=>do mark .disable;pure Extern.Race.none_) args env [] nt) (ς:V P Q mn (one {x with deaf:=x.deaf+1}) b cs nt o (.inRegion ops rest::k) (cj op env ou) σ):V P Q mn (one x) b cs nt o (.inRegion ops (i::rest)::k) env σ:=
 λS B H t κ ψ y Ι=>by
 cases Ι;exact Goes.step γ.ok (.inr ⟨⟨rfl,rfl⟩,.inr (.inl ⟨Go.Conc.G (aA b (put op t (.tuple #[])) (.inRegion ops rest::k)) cs,⟨rfl,rfl⟩,.inl λw _=>
  ⟨h.step ψ.cA (Ek .disable) (El .disable _) (rD η),ς S B H _ κ (ψ.put h.dst (.z _)) _ rfl⟩⟩)⟩)
theorem V.enable (γ:e0 x) (hd:0<x.deaf) (h:g5 P b ops i op f (λ_=>do mark .enable;pure Extern.Race.none_) args env [] nt) (ς:V P Q mn (one {x with deaf:=x.deaf-1}) b cs nt o (.inRegion ops rest::k) (cj op env ou) σ):V P Q mn (one x) b cs nt o (.inRegion ops (i::rest)::k) env σ:=
 λS B H t κ ψ y Ι=>by
 cases Ι;exact Goes.step γ.ok (.inr ⟨⟨rfl,rfl⟩,.inr (.inl ⟨Go.Conc.G (aA b (put op t (.tuple #[])) (.inRegion ops rest::k)) cs,⟨rfl,rfl⟩,.inr ⟨hd,λw _=>
  ⟨h.step ψ.cA (Ek .enable) (El .enable _) (rD η),ς S B H _ κ (ψ.put h.dst (.z _)) _ rfl⟩⟩⟩)⟩)
theorem V.XG (γ:x.rel=false) {s off n p:Nat} {aL:rX} (Ν:x.tok s=.par n p aL) (mw:aL≠.bB) (h:g5 P b ops i op f (Extern.Race.marked .read) args env [.pointer (some ⟨s,off,none⟩)] nt) (ς:V P Q mn (one x) b cs nt o (.inRegion ops rest::k) (cj op env ou) σ):V P Q mn (one x) b cs nt o (.inRegion ops (i::rest)::k) env σ:=
 λS B H t κ ψ y Ι=>by
 cases Ι;exact Goes.step (e0.ok (.inl γ)) (.inr ⟨⟨rfl,rfl⟩,.inr (.inr (.inl ⟨s,n,p,aL,Go.Conc.G (aA b (put op t (.tuple #[])) (.inRegion ops rest::k)) cs,off,false,Ν,mw,γ,⟨rfl,rfl⟩,λw _=>
  ⟨h.step ψ.cA (x4 .read _) (x5 .read _ _) (rD η),ς S B H _ κ (ψ.put h.dst (.z _)) _ rfl⟩⟩))⟩)
theorem V.XH (γ:x.rel=false) {s off n p:Nat} {aL:rX} (Ν:x.tok s=.par n p aL) (mw:aL≠.bB) (h:g5 P b ops i op f (Extern.Race.marked .write) args env [.pointer (some ⟨s,off,none⟩)] nt) (ς:V P Q mn (one x) b cs nt o (.inRegion ops rest::k) (cj op env ou) σ):V P Q mn (one x) b cs nt o (.inRegion ops (i::rest)::k) env σ:=
 λS B H t κ ψ y Ι=>by
 cases Ι;exact Goes.step (e0.ok (.inl γ)) (.inr ⟨⟨rfl,rfl⟩,.inr (.inr (.inl ⟨s,n,p,aL,Go.Conc.G (aA b (put op t (.tuple #[])) (.inRegion ops rest::k)) cs,off,true,Ν,mw,γ,⟨rfl,rfl⟩,λw _=>
  ⟨h.step ψ.cA (x4 .write _) (x5 .write _ _) (rD η),ς S B H _ κ (ψ.put h.dst (.z _)) _ rfl⟩⟩))⟩)
theorem V.Cb (γ:x.rel=false) (hd:x.deaf=0) {s m n:Nat} {sp:Spec} (b0:x.spec s=some sp) (hm:sp.aW=some m) (Ν:x.tok s=.ch n .own .work) (h:g5 P b ops i op f (Extern.Race.marked .acquire) args env [.pointer (some ⟨m,0,none⟩)] nt)
  (ς:∀(S:aJ) (B:aV) (H:χ) (t:Array Value) (L:List Nat) (E:χ),e8 o.m o.S o.B o.H o.σ S B H σ->fN o.m nt S B H σ (cj op env ou) t->sp.an L E->Apart H E->(L.Nodup/\n∉L/\∃w,Fits H w/\Fits E w)->
   cx P Q mn {x with tok:=upd x.tok s (.ch n (.dr L) .work),view:=upd x.view s none} (aA b t (.inRegion ops rest::k)) cs (join H E)):V P Q mn (one x) b cs nt o (.inRegion ops (i::rest)::k) env σ:=
 λS B H t κ ψ y Ι=>by
 cases Ι;exact Goes.step (e0.ok (.inl γ)) (.inr ⟨⟨rfl,rfl⟩,.inr (.inr (.inr (.inr (.inl ⟨s,sp,m,n,Go.Conc.G (aA b (put op t (.tuple #[])) (.inRegion ops rest::k)) cs,b0,hm,Ν,hd,⟨rfl,rfl⟩,γ,λw _=>
  h.step ψ.cA (x4 .acquire _) (x5 .acquire _ _) (rD η),λL E cQ ib hw=>ς S B H _ L E κ (ψ.put h.dst (.z _)) cQ ib hw⟩))))⟩)
theorem V.Gc (γ:x.rel=false) (hd:x.deaf=0) {s m n:Nat} {L:List Nat} {sp:Spec} (b0:x.spec s=some sp) (hm:sp.aW=some m) (Ν:x.tok s=.ch n (.dr L) .work) (h:g5 P b ops i op f (Extern.Race.marked .releaseMerge) args env [.pointer (some ⟨m,0,none⟩)] nt)
  (ς:∀(S:aJ) (B:aV) (H:χ) (t:Array Value),e8 o.m o.S o.B o.H o.σ S B H σ->fN o.m nt S B H σ (cj op env ou) t->∃H' E,Split H H' E/\sp.an (L++[n]) E/\
   cx P Q mn {x with tok:=upd x.tok s (.ch n .fin .work),view:=upd x.view s none} (aA b t (.inRegion ops rest::k)) cs H'):V P Q mn (one x) b cs nt o (.inRegion ops (i::rest)::k) env σ:=
 λS B H t κ ψ y Ι=>by
 cases Ι;obtain⟨H',E,J,U,μ⟩:=ς S B H _ κ (ψ.put h.dst (.z (.tuple #[])));exact Goes.step (e0.ok (.inl γ)) (.inr ⟨⟨rfl,rfl⟩,.inr (.inr (.inr (.inr (.inr (.inl ⟨s,sp,m,n,L,Go.Conc.G (aA b (put op t (.tuple #[])) (.inRegion ops rest::k)) cs,H',E,b0,hm,Ν,hd,⟨rfl,rfl⟩,γ,λw _=>
  h.step ψ.cA (x4 .releaseMerge _) (x5 .releaseMerge _ _) (rD η),J,U,μ⟩)))))⟩)
theorem V.Cc (γ:x.rel=false) (hd:x.deaf=0) {s n:Nat} {aL:rX} {sp:Spec} (b0:x.spec s=some sp) (Ν:x.tok s=.par n 0 aL) (mw:aL=.mj\/aL=.w4) (h:g5 P b ops i op f (Extern.Race.marked .acquire) args env [.pointer (some ⟨s,0,none⟩)] nt)
  (ς:∀(S:aJ) (B:aV) (H:χ) (t:Array Value) (gx fL:List Nat) (gT eL:χ),e8 o.m o.S o.B o.H o.σ S B H σ->fN o.m nt S B H σ (cj op env ou) t->
   gx.Perm (List.range n)->lN sp.D gx gT->(sp.aW≠none->fL.Perm (List.range n)/\sp.an fL eL)->(sp.aW=none->eL=χ.empty)->Apart H gT->Apart H eL->Apart gT eL->(∃w,Fits H w/\Fits gT w/\Fits eL w)->
   cx P Q mn {x with tok:=upd x.tok s (.par n 0 .bB),view:=upd x.view s none} (aA b t (.inRegion ops rest::k)) cs (join (join H gT) eL)):V P Q mn (one x) b cs nt o (.inRegion ops (i::rest)::k) env σ:=
 λS B H t κ ψ y Ι=>by
 cases Ι;exact Goes.step (e0.ok (.inl γ)) (.inr ⟨⟨rfl,rfl⟩,.inr (.inr (.inr (.inr (.inr (.inr (.inr (.inl ⟨s,sp,n,aL,Go.Conc.G (aA b (put op t (.tuple #[])) (.inRegion ops rest::k)) cs,b0,Ν,mw,hd,⟨rfl,rfl⟩,γ,λw _=>
  h.step ψ.cA (x4 .acquire _) (x5 .acquire _ _) (rD η),λgx fL gT eL a1 bd cI gv hT mq u4 tp=>ς S B H _ gx fL gT eL κ (ψ.put h.dst (.z _)) a1 bd cI gv hT mq u4 tp⟩)))))))⟩)
theorem V.atomic (γ:e0 x) {s:Nat} {sp:Spec} (b0:x.spec s=some sp) (cS:¬gj (x.tok s)) (hd:ik nt op=true) (hw:fP env ops op=some true)
  (h:∀(t:Array Value) (w:World) (φ:Nat) (ξ:aS),(∀y u,aU env y=.z u->bp t y=u)->(∀(as9:Array Operand) (vs:List Value),As env as9 vs->as9.map (bp t)=vs.toArray)->Region.wanted op (yielded ops t)=true->ξ.toSpec=sp->At s ξ w->FM x s φ ξ->u7 ξ (x.tok s)->
   (∃v w' gz,stepG P mn (Go.Conc.G (aA b t (.inRegion ops (i::rest)::k)) cs) w=.go (Go.Conc.G (aA b (put op t v) (.inRegion ops rest::k)) cs) w' gz/\fH (λΨ _=>ew s sp Ψ) (λ_=>False) w w'/\oF s sp x.deaf gz/\
    ((At s ξ w'/\V P Q mn (one {x with view:=upd x.view s (some (φ,ξ))}) b cs nt o (.inRegion ops rest::k) (cj op env (.z v)) σ)\/
     ∃o' t',Act ξ (x.tok s) o' t'/\At s o' w'/\(mayWake P (Go.Conc.G (aA b t (.inRegion ops (i::rest)::k)) cs)=true\/o'=ξ)/\∀cu,cu<φ->V P Q mn (one {x with tok:=upd x.tok s t',view:=upd x.view s (some (cu,o'))}) b cs nt o (.inRegion ops rest::k) (cj op env (.z v)) σ))\/
   (kj ξ (x.tok s)/\(∀bm,bm≠s->nm (x.tok bm))/\stepG P mn (Go.Conc.G (aA b t (.inRegion ops (i::rest)::k)) cs) w=.go {Go.Conc.G (aA b t (.inRegion ops (i::rest)::k)) cs with status:=.blocked} w #[])) :
  V P Q mn (one x) b cs nt o (.inRegion ops (i::rest)::k) env σ:=by
 intro S B H t κ ψ y Ι;cases Ι;refine Goes.step γ.ok (.inr ⟨⟨rfl,rfl⟩,.inr (.inr (.inr (.inl ⟨s,sp,b0,cS,λw φ ξ Υ hv ω bE y3 H7=>?_⟩)))⟩);rcases h t w φ ξ (λy u Ι=>Ej ψ.cA Ι) (λas9 vs qm=>qm.bp ψ.cA) (ko ψ.cA hw) ω bE y3 H7 with⟨v,w',gz,J,U,μ,Θ⟩|⟨J,U,μ⟩
 ·refine .inl ?_;rw[J];refine⟨⟨rfl,rfl⟩,U,μ,?_⟩;rcases Θ with⟨av,ba⟩|⟨o',t',av,ba,gZ,lO⟩
  ·exact .inl ⟨av,ba S B H _ κ (ψ.put hd (.z _)) _ rfl⟩
  ·exact .inr ⟨o',t',av,ba,gZ,λcu eD=>lO cu eD S B H _ κ (ψ.put hd (.z _)) _ rfl⟩
 ·exact .inr ⟨J,U,μ⟩
theorem NX {cU off:Nat} {c:Array Value} {ty:TypeId} (hb:w.heap[cU]?=some (.cells c ty (0,0))) (v:Value) {own:Nat->Nat->Prop} (gm:∀o,own cU o):fH own (λ_=>False) w (w.setCell ⟨cU,off,none⟩ v):=by
 have a0:=heap_setCell (w:=w) (a:=⟨cU,off,none⟩) (v:=v) rfl hb
 have aP:=fI hb
 have Dx:(w.setCell ⟨cU,off,none⟩ v).os=w.os:=rfl;refine⟨by rw[a0];simp,λΨ c' t' LQ dT=>?_,λΨ y dT Ι _=>?_,by rw[Dx];exact OsLater.refl _,rfl,rfl⟩
 ·by_cases e:Ψ=cU
  ·subst e;rw[hb] at dT;cases dT;exact⟨_,by rw[a0,Array.getElem?_setIfInBounds_self_of_lt aP],η,λo' jT=>absurd (gm o') jT⟩
  ·exact⟨c',by rw[a0,Array.getElem?_setIfInBounds_ne (Ne.symm e)];exact dT,rfl,λ_ _=>rfl⟩
 ·have e:cU≠Ψ:=λe=>by subst e;rw[hb] at dT;cases dT;cases Ι
  rw[a0,Array.getElem?_setIfInBounds_ne e];exact dT
section
variable {s m:Nat} {ξ o':aS}
theorem At.ne (h:At s ξ w) (hm:ξ.aW=some m):m≠s:=λe=>by
 obtain⟨⟨ty,J⟩,U⟩:=h;obtain⟨jP,μ⟩:=U m hm;subst e;rw[J] at μ;simp at μ
theorem At.mu (h:At s ξ w) (hm:ξ.aW=some m):∃ty,w.heap[m]?=some (.cells #[.int .i32 (mwd ξ),.int .u32 ξ.dd] ty (0,0)):=h.2 m hm
theorem At.dR (h:At s ξ w) (hm:ξ.aW=some m):w.cell? ⟨m,0,none⟩=some (.int .i32 (mwd ξ)):=let ⟨_,J⟩:=h.mu hm;nV J rfl
theorem At.dS (h:At s ξ w) (hm:ξ.aW=some m):w.cell? ⟨m,1,none⟩=some (.int .u32 ξ.dd):=let ⟨_,J⟩:=h.mu hm;nV J rfl
theorem At.cP (h:At s ξ w):w.cell? ⟨s,0,none⟩=some (.int .u64 (cW ξ)):=let ⟨_,J⟩:=h.1;nV J rfl
theorem At.Χ (h:At s ξ w):w.cell? ⟨s,1,none⟩=some (.int .u32 ξ.cO):=let ⟨_,J⟩:=h.1;nV J rfl
theorem NY {cU off:Nat} {c:Array Value} {ty:TypeId} (hb:w.heap[cU]?=some (.cells c ty (0,0))):w.frozen? ⟨cU,off,none⟩=false:=by
 simp[World.frozen?,hb]
theorem At.x6 (h:At s ξ w) (hm:ξ.aW=some m) (off:Nat):w.frozen? ⟨m,off,none⟩=false:=let ⟨_,J⟩:=h.mu hm;NY J
theorem At.uv (h:At s ξ w) (off:Nat):w.frozen? ⟨s,off,none⟩=false:=let ⟨_,J⟩:=h.1;NY J
theorem At.Em (h:At s ξ w) (hm:ξ.aW=some m) (dp:o'.aW=ξ.aW) (Ξ:cW o'=cW ξ) (hw:o'.cO=ξ.cO) {off:Nat} {v:Value} (hv:(#[.int .i32 (mwd ξ),.int .u32 ξ.dd]:Array Value).setIfInBounds off v=#[.int .i32 (mwd o'),.int .u32 o'.dd]):At s o' (w.setCell ⟨m,off,none⟩ v):=by
 have bA:=h.ne hm;obtain⟨jP,μ⟩:=h.mu hm;obtain⟨⟨ty,J⟩,U⟩:=h;have a0:=heap_setCell (w:=w) (a:=⟨m,off,none⟩) (v:=v) rfl μ;refine⟨⟨ty,?_⟩,λb5 iR=>⟨jP,?_⟩⟩
 ·rw[a0,Array.getElem?_setIfInBounds_ne bA,Ξ,hw];exact J
 ·rw[dp,hm] at iR;cases iR;rw[a0,Array.getElem?_setIfInBounds_self_of_lt (fI μ),hv]
theorem At.x7 (h:At s ξ w) (dp:o'.aW=ξ.aW) (Ξ:mwd o'=mwd ξ) (hw:o'.dd=ξ.dd) {off:Nat} {v:Value} (hv:(#[.int .u64 (cW ξ),.int .u32 ξ.cO]:Array Value).setIfInBounds off v=#[.int .u64 (cW o'),.int .u32 o'.cO]):At s o' (w.setCell ⟨s,off,none⟩ v):=by
 have bA:=λm hm=>h.ne (m:=m) hm;obtain⟨⟨ty,J⟩,U⟩:=h;have a0:=heap_setCell (w:=w) (a:=⟨s,off,none⟩) (v:=v) rfl J;refine⟨⟨ty,?_⟩,λb5 iR=>?_⟩
 ·rw[a0,Array.getElem?_setIfInBounds_self_of_lt (fI J),hv]
 ·rw[dp] at iR;obtain⟨jP,μ⟩:=U b5 iR;exact⟨jP,by rw[a0,Array.getElem?_setIfInBounds_ne (Ne.symm (bA b5 iR)),Ξ,hw];exact μ⟩
theorem At.En (h:At s ξ w) (hm:ξ.aW=some m) {sp:Spec} (ν:sp.aW=some m) {off:Nat} (v:Value):fH (λΨ _=>ew s sp Ψ) (λ_=>False) w (w.setCell ⟨m,off,none⟩ v):=
 let ⟨_,J⟩:=h.mu hm;NX J v λ_=>.inr ν
theorem At.x8 (h:At s ξ w) {sp:Spec} {off:Nat} (v:Value):fH (λΨ _=>ew s sp Ψ) (λ_=>False) w (w.setCell ⟨s,off,none⟩ v):=
 let ⟨_,J⟩:=h.1;NX J v λ_=>.inl rfl
end
theorem NZ {s d:Nat} {sp:Spec}:oF s sp d #[]:=⟨rfl,λj e h=>by simp at h⟩
theorem rE {s cU off d:Nat} {sp:Spec} {es:Array Event} (hb:ew s sp cU) (hd:0<d) (ν:∀y∈es,y.loc=.cell ⟨cU,off,none⟩/\y.sync=true):oF s sp d es:=by
 have tH:∀(es:Array Event),(∀y∈es,y.loc=.cell ⟨cU,off,none⟩/\y.sync=true)->deafBehind d es=d:=by
  intro es;obtain⟨l⟩:=es;intro h;unfold deafBehind;simp only[List.foldl_toArray']
  induction l with
  | nil=>rfl
  | cons y l Β=>
   simp only[List.foldl_cons];have:=h y η;rw[this.1];exact Β λz Τ=>h z (by simp at Τ ⊢;exact .inr Τ)
 refine⟨tH es ν,λj y Ι=>.inr (.inr ⟨cU,off,y.write,?_,hb,?_⟩)⟩
 ·have:=ν y (Array.mem_of_getElem? Ι);obtain⟨l,w1,s1⟩:=y;simp only at this;rw[this.1,this.2]
 ·rw[tH]
  ·exact hd
  ·intro z Τ;exact ν z (by
    rw[Array.mem_iff_getElem?] at Τ ⊢;obtain⟨q,Φ⟩:=Τ;rw[Array.getElem?_extract] at Φ;split at Φ
    ·exact⟨_,Φ⟩
    ·cases Φ)
end
end Go.TL
namespace Go.TL
open Go.Conc
open Go.ConcM (OsLater)
open Go.ConcN (sumTo upd sumTo_upd upd_ne upd_same sumTo_congr le_sumTo)
variable [bn]
section
variable {P:Program} {Q:Value->Prop} {mn:Bool} {x:aZ} {b:Frame} {cs:List Frame} {nt:Nat} {o:Base} {k:List Item} {env:Ω} {σ:List Row}
variable {ops:Array Oper} {i:Nat} {rest:List Nat} {op:Oper} {f:FuncId} {e:Array Value->Sem Value} {args:Array Operand} {vs:List Value}
def iv (P:Program) (Q:Value->Prop) (mn:Bool) (x:aZ) (b:Frame) (cs:List Frame) (nt:Nat) (o:Base) (ops:Array Oper) (rest:List Nat) (k:List Item) (op:Oper) (env:Ω) (σ:List Row) (s φ:Nat) (ξ:aS) (v:Value):Prop:=
 V P Q mn (one {x with view:=upd x.view s (some (φ,ξ))}) b cs nt o (.inRegion ops rest::k) (cj op env (.z v)) σ
def qn (P:Program) (Q:Value->Prop) (mn:Bool) (x:aZ) (b:Frame) (cs:List Frame) (nt:Nat) (o:Base) (ops:Array Oper) (rest:List Nat) (k:List Item) (op:Oper) (env:Ω) (σ:List Row) (s φ:Nat) (ξ:aS) (v:Value) (o':aS) (t':Tok):Prop:=
 Act ξ (x.tok s) o' t'/\∀cu,cu<φ->V P Q mn (one {x with tok:=upd x.tok s t',view:=upd x.view s (some (cu,o'))}) b cs nt o (.inRegion ops rest::k) (cj op env (.z v)) σ
structure Seen (x:aZ) (s:Nat) (sp:Spec) (φ:Nat) (ξ:aS):Prop where
 spec:ξ.toSpec=sp
 view:FM x s φ ξ
 jE:u7 ξ (x.tok s)
theorem V.ext (γ:e0 x) {s:Nat} {sp:Spec} (b0:x.spec s=some sp) (cS:¬gj (x.tok s)) (h:g5 P b ops i op f e args env vs nt)
  (a0:∀(w:World) (φ:Nat) (ξ:aS),Seen x s sp φ ξ->At s ξ w->
   (∃v w' gz,(e vs.toArray).run P w=.ok v w'/\(e vs.toArray).events P w #[⟨.mark (Mark.extern f),false,true⟩]=#[⟨.mark (Mark.extern f),false,true⟩]++gz/\(∀y∈gz,y.sync=true/\∀g,y.loc≠.mark (Mark.extern g))/\
    fH (λΨ _=>ew s sp Ψ) (λ_=>False) w w'/\oF s sp x.deaf gz/\
    ((At s ξ w'/\iv P Q mn x b cs nt o ops rest k op env σ s φ ξ v)\/∃o' t',At s o' w'/\qn P Q mn x b cs nt o ops rest k op env σ s φ ξ v o' t'))\/
   (kj ξ (x.tok s)/\(∀bm,bm≠s->nm (x.tok bm))/\(e vs.toArray).run P w=.halt .blocked w)) :
  V P Q mn (one x) b cs nt o (.inRegion ops (i::rest)::k) env σ:=by
 obtain⟨eh,Μ⟩:=h.call;refine .atomic γ b0 cS h.dst h.want λt w φ ξ _ qm hw J U μ Θ=>?_;rcases a0 w φ ξ ⟨J,μ,Θ⟩ U with⟨v,w',gz,a1,bd,cI,gv,hT,mq⟩|⟨a1,bd,cI⟩
 ·refine .inl ⟨v,w',gz,Ei h.nF h.at_ hw Μ (qm _ _ h.Au) a1 bd cI,gv,hT,mq.imp id λ⟨o',t',bw,dm,fJ⟩=>⟨o',t',dm,bw,.inl (NV h.nF h.at_ Μ),fJ⟩⟩
 ·exact .inr ⟨a1,bd,XE h.nF h.at_ hw Μ (qm _ _ h.Au) cI⟩
theorem rF (cG:Addr):∀y∈(#[⟨.cell cG,false,true⟩,⟨.cell cG,true,true⟩]:Array Event),y.loc=.cell cG/\y.sync=true:=by
 intro y Ι;simp at Ι;rcases Ι with rfl|rfl<;>exact⟨rfl,rfl⟩
theorem rG (cG:Addr) (wr:Bool):∀y∈(#[⟨.cell cG,wr,true⟩]:Array Event),y.loc=.cell cG/\y.sync=true:=by
 intro y Ι;simp at Ι;subst Ι;exact⟨rfl,rfl⟩
theorem rH {cG:Addr} {es:Array Event} (h:∀y∈es,y.loc=.cell cG/\y.sync=true):∀y∈es,y.sync=true/\∀g,y.loc≠.mark (Mark.extern g):=λy Ι=>⟨(h y Ι).2,λg e=>by rw[(h y Ι).1] at e;cases e⟩
structure x9 (ξ o':aS):Prop where
 aW:o'.aW=ξ.aW
 g:cW o'=cW ξ
 w:o'.cO=ξ.cO
structure rI (ξ o':aS):Prop where
 aW:o'.aW=ξ.aW
 g:mwd o'=mwd ξ
 w:o'.dd=ξ.dd
section
variable {s m:Nat} {sp:Spec} (γ:e0 x) (hd:0<x.deaf) (b0:x.spec s=some sp) (cS:¬gj (x.tok s))
include γ hd b0 cS
theorem V.Eo (hm:sp.aW=some m) {old new:Int} (h:g5 P b ops i op f (Extern.Atomic.casT (.int .i32)) args env [.pointer (some ⟨m,0,none⟩),.int .i32 old,.int .i32 new] nt)
  (Av:∀φ ξ,Seen x s sp φ ξ->¬mwd ξ=old->iv P Q mn x b cs nt o ops rest k op env σ s φ ξ (.bool false)\/∃t',qn P Q mn x b cs nt o ops rest k op env σ s φ ξ (.bool false) ξ t')
  (dA:∀φ ξ,Seen x s sp φ ξ->mwd ξ=old->∃o' t',mwd o'=new/\o'.dd=ξ.dd/\x9 ξ o'/\qn P Q mn x b cs nt o ops rest k op env σ s φ ξ (.bool true) o' t') :
  V P Q mn (one x) b cs nt o (.inRegion ops (i::rest)::k) env σ:=by
 refine .ext γ b0 cS h λw φ ξ ν bE=>.inl ?_;have dp:ξ.aW=some m:=by rw[ν.spec];exact hm
 have δ:=bE.dR dp
 have Τ:=bE.x6 dp 0;by_cases hv:mwd ξ=old
 ·obtain⟨o',t',J,U,μ,Θ⟩:=dA φ ξ ν hv;subst hv;refine⟨.bool true,_,_,(congrArg (Sem.run P · w) (casT_eq _ _)).trans (run_cas_hit_entry δ Τ),?_,rH (rF ⟨m,0,none⟩),bE.En dp hm _,rE (.inr hm) hd (rF ⟨m,0,none⟩),.inr ⟨o',t',bE.Em dp μ.aW μ.g μ.w ?_,Θ⟩⟩
  ·exact(congrArg (Sem.events P · w _) (casT_eq _ _)).trans ((events_cas_hit_entry δ Τ _).trans rfl)
  ·rw[J,U];rfl
 ·refine⟨.bool false,w,_,(congrArg (Sem.run P · w) (casT_eq _ _)).trans (run_cas_miss_entry δ Τ hv),?_,rH (rG ⟨m,0,none⟩ false),fH.refl _ _ _,rE (.inr hm) hd (rG ⟨m,0,none⟩ false),?_⟩
  ·exact(congrArg (Sem.events P · w _) (casT_eq _ _)).trans ((events_cas_miss_entry δ Τ hv _).trans rfl)
  ·exact(Av φ ξ ν hv).imp (λh=>⟨bE,h⟩) λ⟨t',h⟩=>⟨ξ,t',bE,h⟩
theorem V.N0 (hm:sp.aW=some m) {d:Int} (h:g5 P b ops i op f (Extern.Atomic.update (Op.intArith .add) .i32 true) args env [.pointer (some ⟨m,0,none⟩),.int .i32 d] nt)
  (dA:∀φ ξ,Seen x s sp φ ξ->∃o' t',mwd o'=IntKind.i32.wrap (mwd ξ+d)/\o'.dd=ξ.dd/\x9 ξ o'/\qn P Q mn x b cs nt o ops rest k op env σ s φ ξ (.int .i32 (mwd o')) o' t') :
  V P Q mn (one x) b cs nt o (.inRegion ops (i::rest)::k) env σ:=by
 refine .ext γ b0 cS h λw φ ξ ν bE=>.inl ?_;have dp:ξ.aW=some m:=by rw[ν.spec];exact hm
 have δ:=bE.dR dp
 have Τ:=bE.x6 dp 0;obtain⟨o',t',J,U,μ,Θ⟩:=dA φ ξ ν;rw[J] at Θ;refine⟨_,_,_,run_add_entry δ Τ,(events_add_entry δ Τ _).trans rfl,rH (rF ⟨m,0,none⟩),bE.En dp hm _,rE (.inr hm) hd (rF ⟨m,0,none⟩),.inr ⟨o',t',bE.Em dp μ.aW μ.g μ.w ?_,Θ⟩⟩;rw[J,U];rfl
theorem V.H8 (h:g5 P b ops i op f (Extern.Atomic.loadT (.int .u64)) args env [.pointer (some ⟨s,0,none⟩)] nt)
  (dA:∀φ ξ,Seen x s sp φ ξ->iv P Q mn x b cs nt o ops rest k op env σ s φ ξ (.int .u64 (cW ξ))\/∃t',qn P Q mn x b cs nt o ops rest k op env σ s φ ξ (.int .u64 (cW ξ)) ξ t') :
  V P Q mn (one x) b cs nt o (.inRegion ops (i::rest)::k) env σ:=by
 refine .ext γ b0 cS h λw φ ξ ν bE=>.inl ?_;have δ:=bE.cP;refine⟨.int .u64 (cW ξ),w,#[⟨.cell ⟨s,0,none⟩,false,true⟩],?_,?_,rH (rG _ false),fH.refl _ _ _,rE (.inl rfl) hd (rG _ false),(dA φ ξ ν).imp (λh=>⟨bE,h⟩) λ⟨t',h⟩=>⟨ξ,t',bE,h⟩⟩
 ·change Sem.run P (do Extern.Atomic.read (.int .u64) (<-asAddr (.pointer (some _)))) w=_;simp[Extern.Atomic.read,asAddr,δ]
 ·change Sem.events P (do Extern.Atomic.read (.int .u64) (<-asAddr (.pointer (some _)))) w _=_;simp[Extern.Atomic.read,asAddr,δ,events_load]
theorem V.XI {old new:Int} (h:g5 P b ops i op f (Extern.Atomic.casT (.int .u64)) args env [.pointer (some ⟨s,0,none⟩),.int .u64 old,.int .u64 new] nt)
  (Av:∀φ ξ,Seen x s sp φ ξ->¬cW ξ=old->iv P Q mn x b cs nt o ops rest k op env σ s φ ξ (.bool false))
  (dA:∀φ ξ,Seen x s sp φ ξ->cW ξ=old->∃o' t',cW o'=new/\o'.cO=ξ.cO/\rI ξ o'/\qn P Q mn x b cs nt o ops rest k op env σ s φ ξ (.bool true) o' t') :
  V P Q mn (one x) b cs nt o (.inRegion ops (i::rest)::k) env σ:=by
 refine .ext γ b0 cS h λw φ ξ ν bE=>.inl ?_;have δ:=bE.cP;have Τ:=bE.uv 0;by_cases hv:cW ξ=old
 ·obtain⟨o',t',J,U,μ,Θ⟩:=dA φ ξ ν hv;subst hv;refine⟨.bool true,_,_,(congrArg (Sem.run P · w) (casT_eq _ _)).trans (run_cas_hit_entry δ Τ),?_,rH (rF ⟨s,0,none⟩),bE.x8 _,rE (.inl rfl) hd (rF ⟨s,0,none⟩),.inr ⟨o',t',bE.x7 μ.aW μ.g μ.w ?_,Θ⟩⟩
  ·exact(congrArg (Sem.events P · w _) (casT_eq _ _)).trans ((events_cas_hit_entry δ Τ _).trans rfl)
  ·rw[J,U];rfl
 ·refine⟨.bool false,w,_,(congrArg (Sem.run P · w) (casT_eq _ _)).trans (run_cas_miss_entry δ Τ hv),?_,rH (rG ⟨s,0,none⟩ false),fH.refl _ _ _,rE (.inl rfl) hd (rG ⟨s,0,none⟩ false),.inl ⟨bE,Av φ ξ ν hv⟩⟩;exact(congrArg (Sem.events P · w _) (casT_eq _ _)).trans ((events_cas_miss_entry δ Τ hv _).trans rfl)
theorem V.H9 {d:Int} (h:g5 P b ops i op f (Extern.Atomic.update (Op.intArith .add) .u64 true) args env [.pointer (some ⟨s,0,none⟩),.int .u64 d] nt)
  (dA:∀φ ξ,Seen x s sp φ ξ->∃o' t',cW o'=IntKind.u64.wrap (cW ξ+d)/\o'.cO=ξ.cO/\rI ξ o'/\qn P Q mn x b cs nt o ops rest k op env σ s φ ξ (.int .u64 (cW o')) o' t') :
  V P Q mn (one x) b cs nt o (.inRegion ops (i::rest)::k) env σ:=by
 refine .ext γ b0 cS h λw φ ξ ν bE=>.inl ?_;have δ:=bE.cP;have Τ:=bE.uv 0;obtain⟨o',t',J,U,μ,Θ⟩:=dA φ ξ ν;rw[J] at Θ;refine⟨_,_,_,run_add_entry δ Τ,(events_add_entry δ Τ _).trans rfl,rH (rF ⟨s,0,none⟩),bE.x8 _,rE (.inl rfl) hd (rF ⟨s,0,none⟩),.inr ⟨o',t',bE.x7 μ.aW μ.g μ.w ?_,Θ⟩⟩;rw[J,U];rfl
end
theorem N1 {w:World} {cG:Addr} {n:Int} {vs:List Value} (γ:vs[0]?=some (.pointer (some cG))) (δ:w.cell? cG=some (.int .u32 n)) (q5:n≠0) (Τ:w.frozen? cG=false):(Extern.Sync.semacquire vs.toArray).run P w=.ok (.tuple #[]) (w.setCell cG (.int .u32 (n-1))):=by
 simp[Extern.Sync.semacquire,Extern.Sync.count,γ,δ,q5,Τ,Extern.Sync.none_,run_store P w cG (.int .u32 (n-1)) .atomic rfl,Result.andThen]
theorem N2 {w:World} {cG:Addr} {n:Int} {vs:List Value} (γ:vs[0]?=some (.pointer (some cG))) (δ:w.cell? cG=some (.int .u32 n)) (q5:n≠0) (Τ:w.frozen? cG=false) (es:Array Event):(Extern.Sync.semacquire vs.toArray).events P w es=es++semEvents cG:=by
 simp[Extern.Sync.semacquire,Extern.Sync.count,γ,δ,q5,Τ,semEvents,events_load,events_store P w _ cG (.int .u32 (n-1)) .atomic rfl,run_store P w cG (.int .u32 (n-1)) .atomic rfl,Result.evThen];apply Array.ext';simp
theorem N3 {w:World} {cG:Addr} {vs:List Value} (γ:vs[0]?=some (.pointer (some cG))) (δ:w.cell? cG=some (.int .u32 0)):(Extern.Sync.semacquire vs.toArray).run P w=.halt .blocked w:=by
 simp[Extern.Sync.semacquire,Extern.Sync.count,γ,δ]
theorem N4 {w:World} {cG:Addr} {n:Int} {vs:List Value} (γ:vs[0]?=some (.pointer (some cG))) (δ:w.cell? cG=some (.int .u32 n)) (Τ:w.frozen? cG=false):(Extern.Sync.semrelease vs.toArray).run P w=.ok (.tuple #[]) (w.setCell cG (.int .u32 (IntKind.u32.wrap (n+1)))):=by
 simp[Extern.Sync.semrelease,Extern.Sync.count,γ,δ,Τ,Extern.Sync.none_,Op.intArith,run_store P w cG (.int .u32 (IntKind.u32.wrap (n+1))) .atomic rfl,Result.andThen]
theorem N5 {w:World} {cG:Addr} {n:Int} {vs:List Value} (γ:vs[0]?=some (.pointer (some cG))) (δ:w.cell? cG=some (.int .u32 n)) (Τ:w.frozen? cG=false) (es:Array Event):(Extern.Sync.semrelease vs.toArray).events P w es=es++semEvents cG:=by
 simp[Extern.Sync.semrelease,Extern.Sync.count,γ,δ,Τ,semEvents,Op.intArith,events_load,events_store P w _ cG (.int .u32 (IntKind.u32.wrap (n+1))) .atomic rfl,run_store P w cG (.int .u32 (IntKind.u32.wrap (n+1))) .atomic rfl,Result.evThen];apply Array.ext';simp
theorem Ep {s cU off d:Nat} {sp:Spec} (hb:ew s sp cU):oF s sp d (semEvents ⟨cU,off,none⟩):=by
 refine⟨by simp[deafBehind,semEvents],λj y Ι=>?_⟩
 match j,Ι with
 | 0,Ι=>simp[semEvents] at Ι;subst Ι;exact .inl rfl
 | 1,Ι=>simp[semEvents] at Ι;subst Ι;exact .inr (.inr ⟨cU,off,false,rfl,hb,by simp[semEvents,deafBehind]⟩)
 | 2,Ι=>simp[semEvents] at Ι;subst Ι;exact .inr (.inr ⟨cU,off,true,rfl,hb,by simp[semEvents,deafBehind]⟩)
 | 3,Ι=>simp[semEvents] at Ι;subst Ι;exact .inr (.inl rfl)
 | j+4,Ι=>simp[semEvents] at Ι
section
variable {s m:Nat} {sp:Spec} (γ:e0 x) (b0:x.spec s=some sp) (cS:¬gj (x.tok s))
include γ b0 cS
theorem V.XJ (hm:sp.aW=some m) (aj:vs[0]?=some (.pointer (some ⟨m,1,none⟩))) (cF:∀bm,bm≠s->nm (x.tok bm)) (h:g5 P b ops i op f Extern.Sync.semacquire args env vs nt)
  (wait:∀φ ξ,Seen x s sp φ ξ->ξ.dd=0->kj ξ (x.tok s))
  (dA:∀φ ξ,Seen x s sp φ ξ->0<ξ.dd->∃o' t',mwd o'=mwd ξ/\o'.dd=ξ.dd-1/\x9 ξ o'/\qn P Q mn x b cs nt o ops rest k op env σ s φ ξ (.tuple #[]) o' t') :
  V P Q mn (one x) b cs nt o (.inRegion ops (i::rest)::k) env σ:=by
 refine .ext γ b0 cS h λw φ ξ ν bE=>?_;have dp:ξ.aW=some m:=by rw[ν.spec];exact hm
 have δ:=bE.dS dp;by_cases hv:ξ.dd=0
 ·exact .inr ⟨wait φ ξ ν hv,cF,N3 aj (by rw[δ,hv];rfl)⟩
 ·obtain⟨o',t',J,U,μ,Θ⟩:=dA φ ξ ν R;have Ζ:((ξ.dd:Nat):Int)≠0:=R;refine .inl ⟨_,_,_,N1 aj δ Ζ (bE.x6 dp 1),N2 aj δ Ζ (bE.x6 dp 1) _,semEvents_sync _,bE.En dp hm _,Ep (.inr hm),.inr ⟨o',t',bE.Em dp μ.aW μ.g μ.w ?_,Θ⟩⟩;rw[J,U,show((ξ.dd:Nat):Int)-1=((ξ.dd-1:Nat):Int) by omega];rfl
theorem V.XK (aj:vs[0]?=some (.pointer (some ⟨s,1,none⟩))) (cF:∀bm,bm≠s->nm (x.tok bm)) (h:g5 P b ops i op f Extern.Sync.semacquire args env vs nt)
  (wait:∀φ ξ,Seen x s sp φ ξ->ξ.cO=0->kj ξ (x.tok s))
  (dA:∀φ ξ,Seen x s sp φ ξ->0<ξ.cO->∃o' t',cW o'=cW ξ/\o'.cO=ξ.cO-1/\rI ξ o'/\qn P Q mn x b cs nt o ops rest k op env σ s φ ξ (.tuple #[]) o' t') :
  V P Q mn (one x) b cs nt o (.inRegion ops (i::rest)::k) env σ:=by
 refine .ext γ b0 cS h λw φ ξ ν bE=>?_;have δ:=bE.Χ;by_cases hv:ξ.cO=0
 ·exact .inr ⟨wait φ ξ ν hv,cF,N3 aj (by rw[δ,hv];rfl)⟩
 ·obtain⟨o',t',J,U,μ,Θ⟩:=dA φ ξ ν R;have Ζ:((ξ.cO:Nat):Int)≠0:=R;refine .inl ⟨_,_,_,N1 aj δ Ζ (bE.uv 1),N2 aj δ Ζ (bE.uv 1) _,semEvents_sync _,bE.x8 _,Ep (.inl rfl),.inr ⟨o',t',bE.x7 μ.aW μ.g μ.w ?_,Θ⟩⟩;rw[J,U,show((ξ.cO:Nat):Int)-1=((ξ.cO-1:Nat):Int) by omega];rfl
theorem V.N6 (hm:sp.aW=some m) (aj:vs[0]?=some (.pointer (some ⟨m,1,none⟩))) (h:g5 P b ops i op f Extern.Sync.semrelease args env vs nt)
  (dA:∀φ ξ,Seen x s sp φ ξ->ξ.dd<1000/\∃o' t',mwd o'=mwd ξ/\o'.dd=ξ.dd+1/\x9 ξ o'/\qn P Q mn x b cs nt o ops rest k op env σ s φ ξ (.tuple #[]) o' t') :
  V P Q mn (one x) b cs nt o (.inRegion ops (i::rest)::k) env σ:=by
 refine .ext γ b0 cS h λw φ ξ ν bE=>.inl ?_;have dp:ξ.aW=some m:=by rw[ν.spec];exact hm
 have δ:=bE.dS dp;obtain⟨aP,o',t',J,U,μ,Θ⟩:=dA φ ξ ν;refine⟨_,_,_,N4 aj δ (bE.x6 dp 1),N5 aj δ (bE.x6 dp 1) _,semEvents_sync _,bE.En dp hm _,Ep (.inr hm),.inr ⟨o',t',bE.Em dp μ.aW μ.g μ.w ?_,Θ⟩⟩;rw[J,U,show IntKind.u32.wrap (((ξ.dd:Nat):Int)+1)=((ξ.dd+1:Nat):Int) by simp only[IntKind.wrap_u32];omega];rfl
end
end
end Go.TL
namespace Go.TL
open Go.Conc
open Go.ConcM (OsLater)
open Go.ConcN (sumTo upd sumTo_upd upd_ne upd_same sumTo_congr le_sumTo)
open Go.ConcR (mk)
variable [bn]
section
variable {P:Program} {T:bb} {Q:Value->Prop} {mn:Bool} {x:aZ} {z:g1} {b:Frame} {cs:List Frame} {nt:Nat} {o:Base} {k:List Item} {env:Ω} {σ:List Row}
variable {ops:Array Oper} {i:Nat} {rest:List Nat} {op:Oper} {f:FuncId} {e:Array Value->Sem Value} {args:Array Operand} {vs:List Value} {fn:Func}
theorem m1 {S:aJ} {B:aV} {l:List Value} {vs:Array Value} (h:fO S B σ (l.map θ.z) vs):vs=l.toArray:=by
 apply Array.ext';apply List.ext_getElem?;intro i;have J:=h.1;rw[List.length_map] at J;by_cases hi:i<l.length
 ·have Δ:(l.map θ.z)[i]?=some (.z l[i]):=by rw[List.getElem?_map,bg hi];rfl
  have Γ:vs[i]?=some vs[i]:=fq R
  have:=h.2 i _ _ Δ Γ
  have:vs[i]=l[i]:=by generalize vs[i]=u at this;cases this;rfl
  rw[Array.getElem?_toList,Γ,this];simp[hi]
 ·rw[Array.getElem?_toList,Array.getElem?_eq_none R];simp;omega
theorem V.call (γ:Seq z) (bW:m0 b ops i op) (hw:fP env ops op=some true) {y:Operand} {eh:Array TypeId} (Μ:op.op=.call ⟨.value y,args,eh⟩) {g:FuncId} {first captured:List θ} (Υ:aU env y=.fn (.func g) first captured) (Ξ:Plain P g)
  (h:∀(S:aJ) (B:aV) (H:χ) (t:Array Value) (vs:Array Value),e8 o.m o.S o.B o.H o.σ S B H σ->fN o.m nt S B H σ env t->fO S B σ (first++args.toList.map (aU env)++captured) vs->
   aR P Q mn z (Frame.enter P g vs .normal) (aA b t (.inRegion ops (i::rest)::k)::cs) H):V P Q mn z b cs nt o (.inRegion ops (i::rest)::k) env σ:=by
 intro S B H t κ ψ;refine .op γ bW.run bW.op (ko ψ.cA hw) (.inr λc=>by rw[Μ];simp) ?_;have e:execOp (bp t) op=(do let d <-Deferred.ofValue (bp t y) (args.map (bp t));invoke d.target d.args):=by unfold execOp;rw[Μ];rfl
 rw[e];have b1:=lX ψ.cA y;have mM:=HQ ψ.cA args;rw[Υ] at b1;generalize bp t y=ax at b1;cases b1 with
 | fn v1 v2 J U μ Θ=>
  refine π.bind' (π.pure' ?_);obtain⟨fn,bM,lb,Dr⟩:=Ξ;unfold invoke;simp only;unfold callFunc;refine π.bind' ?_;show π P (match P.funcs[g]? with|none=>_|some fn=>_) H _ _;rw[bM];simp only[lb,Dr,Bool.false_eq_true,if_false];refine π.pure' ?_;have r1:fO S B σ first v1:=⟨J,μ⟩
  have r2:fO S B σ captured v2:=⟨U,Θ⟩;exact h S B H t _ κ ψ ((r1.append mM).append r2)
theorem V.qo {g:FuncId} {body:Code} (bM:P.funcs[g]?=some fn) (nB:fn.body=some body) {c:Frame} {S:aJ} {B:aV} {H:χ} (Α:Holds S B σ H) (Ζ:vs.length<=fn.ntmps)
  (h:V P Q mn z (Frame.enter P g vs.toArray .normal) (c::cs) fn.ntmps ⟨S,[],H,[],0⟩ [.code body] (entry 0 (vs.map θ.z)) []):aR P Q mn z (Frame.enter P g vs.toArray .normal) (c::cs) H:=by
 rw[qc bM nB];refine h.here (fN.enter Α.bare ⟨η,λi a v J U=>?_⟩ (Nat.le_refl _) (by simpa using Ζ));simp only[List.getElem?_map,List.getElem?_toArray] at J U;rw[U] at J;cases J;exact .z v
theorem V.Ia (γ:Seq z) (hb:b.mode=.run) (cn:b.roundOf=none) (eR:b.defers=[]) (gY:b.kind=.normal) (bM:P.funcs[b.fn]?=some fn) (e6:fn.results=#[]) {c:Frame}
  (h:∀(S:aJ) (B:aV) (H:χ),e8 o.m o.S o.B o.H o.σ S B H σ->Holds S B σ H->aR P Q mn z (c.finish (.tuple #[])) cs H):V P Q mn z b (c::cs) nt o (.code .ret::k) env σ:=by
 intro S B H t κ ψ;refine .ret γ hb cn (.back γ rfl eR (.inl gY) bM ?_);rw[results_none e6];exact π.pure' (h S B H κ ψ.holds)
theorem V.Er (γ:Seq z) (hb:b.mode=.run) (cn:b.roundOf=none) (eR:b.defers=[]) (gY:b.kind=.normal) (bM:P.funcs[b.fn]?=some fn) (e6:fn.results=#[]) {c:Frame}
  (h:∀(S:aJ) (B:aV) (H:χ),e8 o.m o.S o.B o.H o.σ S B H σ->Holds S B σ H->aR P Q mn z (c.finish (.tuple #[])) cs H):V P Q mn z b (c::cs) nt o [] env σ:=by
 intro S B H t κ ψ;refine .sf γ hb cn (.back γ rfl eR (.inl gY) bM ?_);rw[results_none e6];exact π.pure' (h S B H κ ψ.holds)
theorem V.sV (γ:Seq z) (hb:b.mode=.run) (cn:b.roundOf=none) (eR:b.defers=[]) (gY:b.kind=.normal) (bM:P.funcs[b.fn]?=some fn) {d:Nat} (e6:fn.results=#[.tmp d]) {v:Value} (hv:a9 env d=.z v) {c:Frame}
  (h:∀(S:aJ) (B:aV) (H:χ),e8 o.m o.S o.B o.H o.σ S B H σ->Holds S B σ H->aR P Q mn z (c.finish v) cs H):V P Q mn z b (c::cs) nt o (.code .ret::k) env σ:=by
 intro S B H t κ ψ;refine .ret γ hb cn (.back γ rfl eR (.inl gY) bM ?_);have e:results fn t=pure (t.getD d undef):=by unfold results;rw[e6];simp
 have lQ:t.getD d undef=v:=by
  have:=ψ.cA d;rw[hv] at this;generalize t.getD d undef=u at this;cases this;rfl
 show π P (results fn t) H _ _;rw[e,lQ];exact π.pure' (h S B H κ ψ.holds)
theorem XL {w:World} {ty:TypeId} {kd:IntKind} (hu:P.underlying ty=some (.int kd)) {cG:Addr} {v:Value} (δ:w.cell? cG=some v):(Instr.loadAt ty (.pointer (some cG))).run P w=.ok v w/\(Instr.loadAt ty (.pointer (some cG))).events P w #[]=#[⟨.cell cG,false,false⟩]:=by
 constructor
 ·simp[Instr.loadAt,Instr.sureAddr,loadVar,isAgg,run_underlying hu,δ,Result.andThen]
 ·simp[Instr.loadAt,Instr.sureAddr,loadVar,isAgg,run_underlying hu,δ,events_load,Result.evThen]
theorem XM {t:Array Value} {w:World} (bW:m0 b ops i op) (hw:Region.wanted op (yielded ops t)=true) {ty:TypeId} {y:Operand} (Μ:op.op=.load ty y) {kd:IntKind} (hu:P.underlying ty=some (.int kd)) {cG:Addr} (Ι:bp t y=.pointer (some cG)) {v:Value} (δ:w.cell? cG=some v) (Φ:(P.funcs[b.fn]?).any (·.norace)=true) :
  stepG P mn (Go.Conc.G (aA b t (.inRegion ops (i::rest)::k)) cs) w=.go (Go.Conc.G (aA b (put op t v) (.inRegion ops rest::k)) cs) w #[]:=by
 obtain⟨r1,r2⟩:=XL (P:=P) hu δ;have e:execOp (bp t) op=(do pure (.value (<-Instr.loadAt ty (.pointer (some cG))))):=by unfold execOp;rw[Μ,<-Ι]
 rw[gO bW.run bW.ro,gO bW.run bW.ro,<-uq];have ι:(execOp (⟨t,b.defers⟩:_root_.Go.Act).eval op).run P w=.ok (.value v) w:=by rw[md,e];simp[r1,Result.andThen]
 have he:(execOp (⟨t,b.defers⟩:_root_.Go.Act).eval op).events P w #[]=#[⟨.cell cG,false,false⟩]:=by rw[md,e];simp[r1,r2,Result.evThen]
 rw[stepG_value bW.op hw bW.kd ι];unfold listed;rw[he,seen_def,Φ];simp[seenStep]
section
variable {s:Nat} {sp:Spec} (γ:e0 x) (b0:x.spec s=some sp) (cS:¬gj (x.tok s))
include γ b0 cS
theorem V.x' (bW:m0 b ops i op) (hd:ik nt op=true) (hw:fP env ops op=some true) {ty:TypeId} {y:Operand} (Μ:op.op=.load ty y) {kd:IntKind} (hu:P.underlying ty=some (.int kd)) {cG:Addr} (Ι:aU env y=.z (.pointer (some cG))) (Φ:(P.funcs[b.fn]?).any (·.norace)=true)
  (val:aS->Int) (δ:∀(ξ:aS) (w:World),ξ.toSpec=sp->At s ξ w->w.cell? cG=some (.int kd (val ξ)))
  (dA:∀φ ξ,Seen x s sp φ ξ->iv P Q mn x b cs nt o ops rest k op env σ s φ ξ (.int kd (val ξ))\/∃t',qn P Q mn x b cs nt o ops rest k op env σ s φ ξ (.int kd (val ξ)) ξ t') :
  V P Q mn (one x) b cs nt o (.inRegion ops (i::rest)::k) env σ:=by
 refine .atomic γ b0 cS hd hw λt w φ ξ dI _ oO J U μ Θ=>.inl ?_;refine⟨.int kd (val ξ),w,#[],XM bW oO Μ hu (dI _ _ Ι) (δ ξ w J U) Φ,fH.refl _ _ _,NZ,?_⟩;exact(dA φ ξ ⟨J,μ,Θ⟩).imp (λh=>⟨U,h⟩) λ⟨t',av,ba⟩=>⟨ξ,t',av,U,.inr rfl,ba⟩
theorem V.conv (bW:m0 b ops i op) (hd:ik nt op=true) (hw:fP env ops op=some true) {src dst t0:TypeId} {y:Operand} (Μ:op.op=.convert src dst y) (ν:P.underlying src=some (.pointer t0)) (vp:P.underlying dst=some .unsafePointer) (cv:(P.info? t0).map (λi=>decide (i.size=0))=some false) {cG:Addr} (Ι:aU env y=.z (.pointer (some cG)))
  (δ:∀(ξ:aS) (w:World),ξ.toSpec=sp->At s ξ w->∃v,w.cell? cG=some v)
  (dA:∀φ ξ,Seen x s sp φ ξ->iv P Q mn x b cs nt o ops rest k op env σ s φ ξ (.pointer (some cG))) :
  V P Q mn (one x) b cs nt o (.inRegion ops (i::rest)::k) env σ:=by
 refine .atomic γ b0 cS hd hw λt w φ ξ dI _ oO J U μ Θ=>.inl ?_;obtain⟨v,hv⟩:=δ ξ w J U;refine⟨.pointer (some cG),w,#[],?_,fH.refl _ _ _,NZ,.inl ⟨U,dA φ ξ ⟨J,μ,Θ⟩⟩⟩;have r1:=run_convert_to_unsafe (P:=P) ν vp cv hv;have r2:=events_convert_to_unsafe (P:=P) ν vp cv hv #[];have e:execOp (bp t) op=(do pure (.value (<-convert src dst (.pointer (some cG))))):=by unfold execOp;rw[Μ,<-dI _ _ Ι]
 rw[gO bW.run bW.ro,gO bW.run bW.ro,<-uq];have ι:(execOp (⟨t,b.defers⟩:_root_.Go.Act).eval op).run P w=.ok (.value (.pointer (some cG))) w:=by rw[md,e];simp[r1,Result.andThen]
 have he:(execOp (⟨t,b.defers⟩:_root_.Go.Act).eval op).events P w #[]=#[]:=by rw[md,e];simp[r1,r2,Result.evThen]
 rw[stepG_value bW.op oO bW.kd ι];unfold listed;rw[he,seen_none]
end
theorem XN (w:World):OsLater w.os w.later.os:=⟨w.tick,rfl⟩
theorem dX.later {H:χ} {w:World} (h:Fits H w):dX H w H w.later #[]:=
 ⟨⟨h.aO,h.row,h.obj⟩,⟨Nat.le_refl _,λb c t d' hb=>⟨c,hb,rfl,λ_ _=>rfl⟩,λb x hb _ _=>hb,XN w,rfl,rfl⟩,⟨λb o v p h=>.inr ⟨v,p,h,id⟩,λb h=>.inr h⟩,λe he=>by simp at he⟩
theorem V.nano (γ:Seq z) (h:g5 P b ops i op f Extern.OsHooks.nano args env vs nt) (Φ:(P.funcs[f]?).any (·.norace)=true) (ς:∀τ:Int,V P Q mn z b cs nt o (.inRegion ops rest::k) (cj op env (.z (.int .i64 τ))) σ):V P Q mn z b cs nt o (.inRegion ops (i::rest)::k) env σ:=by
 intro S B H t κ ψ;obtain⟨fn,J,U,μ,Θ,av⟩:=h.nF;obtain⟨eh,Μ⟩:=h.call;rw[J] at Φ;refine aR.own γ λw Υ=>⟨_,_,_,_,H,?_,dX.later Υ,ς ((w.os.mono+w.tick:Nat):Int) S B H _ κ (ψ.put h.dst (.z _))⟩;rw[gO h.at_.run h.at_.ro,stepG_nanotime (a:=⟨t,b.defers⟩) h.at_.op (ko ψ.cA h.want) h.at_.kd Μ J U μ Θ av (by simpa using Φ),uq,<-gO h.at_.run h.at_.ro]
theorem V.canSpin (γ:Seq z) {n:Int} (h:g5 P b ops i op f Extern.Sync.canSpin args env [.int .i64 n] nt) (ς:∀y:Bool,(y=true->n<4)->V P Q mn z b cs nt o (.inRegion ops rest::k) (cj op env (.z (.bool y))) σ):V P Q mn z b cs nt o (.inRegion ops (i::rest)::k) env σ:=by
 intro S B H t κ ψ;obtain⟨fn,J,U,μ,Θ,av⟩:=h.nF;obtain⟨eh,Μ⟩:=h.call;have hR:args.map (⟨t,b.defers⟩:_root_.Go.Act).eval=#[.int .i64 n]:=by rw[md];exact h.Au.bp ψ.cA
 by_cases ba:n<4
 ·refine aR.own γ λw Υ=>⟨_,_,_,_,H,?_,(dX.start Υ).draw (w.drawn+1),ς w.spins (λ_=>ba) S B H _ κ (ψ.put h.dst (.z _))⟩;rw[gO h.at_.run h.at_.ro,stepG_canSpin_ask (a:=⟨t,b.defers⟩) h.at_.op (ko ψ.cA h.want) h.at_.kd Μ J U μ Θ av hR ba,uq,<-gO h.at_.run h.at_.ro];rfl
 ·refine aR.own γ λw Υ=>⟨_,_,w,#[],H,?_,dX.start Υ,ς false (λh=>by cases h) S B H _ κ (ψ.put h.dst (.z _))⟩;rw[gO h.at_.run h.at_.ro,stepG_canSpin_no (a:=⟨t,b.defers⟩) h.at_.op (ko ψ.cA h.want) h.at_.kd Μ J U μ Θ av hR R,uq,<-gO h.at_.run h.at_.ro]
theorem V.Es (γ:Seq z) {v:Value} (h:g5 P b ops i op f (λ_=>pure v) args env vs nt) (ς:V P Q mn z b cs nt o (.inRegion ops rest::k) (cj op env (.z v)) σ):V P Q mn z b cs nt o (.inRegion ops (i::rest)::k) env σ:=
 λS B H t κ ψ=>aR.own γ λw Υ=>⟨_,_,w,#[],H,h.step ψ.cA η η η,dX.start Υ,ς S B H _ κ (ψ.put h.dst (.z v))⟩
theorem V.Ib (γ:Seq z) (bW:m0 b ops i op) (hw:fP env ops op=some true) (rb:op.dst=none) {eh:Array TypeId} (Μ:op.op=.defer ⟨.value (.func f),#[],eh⟩)
  (h:V P Q mn z {b with defers:=Go.Conc.dcall f #[]::b.defers} cs nt o (.inRegion ops rest::k) env σ):V P Q mn z b cs nt o (.inRegion ops (i::rest)::k) env σ:=by
 intro S B H t κ ψ;have Ni:put op t undef=t:=by unfold put;rw[rb]
 refine aR.still γ (f':=aA {b with defers:=Go.Conc.dcall f #[]::b.defers} t (.inRegion ops rest::k)) (cs':=cs) (λw=>?_) (h S B H t κ ψ);rw[gO bW.run bW.ro,stepG_defer (a:=⟨t,b.defers⟩) bW.op (ko ψ.cA hw) bW.kd Μ];have:(⟨t,Go.Conc.dcall f #[]::b.defers⟩:_root_.Go.Act).put op.dst undef=⟨t,Go.Conc.dcall f #[]::b.defers⟩:=by rw[rb];rfl
 simp only[Array.map_empty,List.map_toArray,List.map_nil];rw[this,gO (b:={b with defers:=Go.Conc.dcall f #[]::b.defers}) bW.run bW.ro];rfl
theorem cx.XO (γ:e0 x) (hd:0<x.deaf) (hb:b.mode=.run) (cn:b.roundOf=none) {ds:List Deferred} (eR:b.defers=Go.Conc.dcall f #[]::ds) (he:Entry P f (λ_=>do mark .enable;pure Extern.Race.none_)) {H:χ} {t:Array Value}
  (h:cx P Q mn {x with deaf:=x.deaf-1} {aA {b with defers:=ds} t k with mode:=.returning} cs H):cx P Q mn x {aA b t k with mode:=.returning} cs H:=by
 obtain⟨fn,J,U,μ,Θ,av⟩:=he;refine Goes.step γ.ok (.inr ⟨⟨rfl,rfl⟩,.inr (.inl ⟨Go.Conc.G {aA {b with defers:=ds} t k with mode:=.returning} cs,⟨rfl,rfl⟩,.inr ⟨hd,λw _=>⟨?_,h⟩⟩⟩)⟩);rw[gO hb cn,gO (b:={b with defers:=ds}) hb cn];exact stepG_unwind_entry (a:=⟨t,b.defers⟩) (v:=.tuple #[]) eR J U μ Θ av (Ek .enable) (El .enable _) (rD η)
end
inductive Quiet (P:Program) (mn:Bool):Goroutine->Goroutine->Prop where
 | nil (g:Goroutine):Quiet P mn g g
 | cons {g g' N7:Goroutine}:iU g->(∀w,stepG P mn g w=.go g' w #[])->Quiet P mn g' N7->Quiet P mn g N7
section
variable {P:Program} {Q:Value->Prop} {mn:Bool} {x:aZ} {g g':Goroutine}
theorem Quiet.runs (h:Quiet P mn g g') (ι:iU g'):iU g:=by
 cases h with
 | nil=>exact ι
 | cons J=>exact J
theorem Quiet.goes (h:Quiet P mn g g') (γ:e0 x) (ι:iU g') (Ξ:Goes P Q mn g' x):Goes P Q mn g x:=by
 induction h with
 | nil=>exact Ξ
 | cons J U μ Β=>
  refine Goes.step γ.ok (.inr ⟨J,.inl λw Υ hv=>?_⟩);rw[U w];refine⟨x.G,x.aM,μ.runs ι,fH.refl _ _ _,Υ,hv,⟨λb o v p h=>.inr ⟨v,p,h,id⟩,λb h=>.inr h⟩,λb c h=>.inl h,λe he=>by simp at he,λb c _ _ e he=>by simp at he,Β ι Ξ⟩
end
end Go.TL
namespace Go.TL
open Go.Conc Go.Proofs
variable [bn]
def sW (P:Program) (Q:Value->Prop) (mn:Bool) (x:g1) (b:Frame) (cs:List Frame) (nt:Nat) (o:Base) (L:Nat) (r:Loop) (k:List Item) (env:Ω) (σ:List Row):Prop:=
 ∀(S:aJ) (B:aV) (H:χ) (t:Array Value),e8 o.m o.S o.B o.H o.σ S B H σ->fN o.m nt S B H σ env t->¬B.has L->H.obj L=some (.loop r)->aR P Q mn x (aA b t k) cs H
theorem qp {S aE:aJ} {B B':aV} {H H':χ} (he:Ext S B H aE B' H') {L:Nat} {y:Obj} (Ζ:¬B.has L) (ab:H.obj L=some y):¬B'.has L/\H'.obj L=some y:=by
 have Υ:¬H.fresh L:=λh=>by rw[h.2.2.1] at ab;cases ab
 exact⟨λh=>(he.blocks L h).elim Ζ Υ,by rw[(he.fV L Ζ Υ).2.2];exact ab⟩
theorem XP {H:χ} {L:Nat} {y:Obj} (ab:H.e' L):∀b,(H.bL L y).fresh b↔H.fresh b:=by
 obtain⟨z,Τ⟩:=ab;have key:∀b,((H.bL L y).obj b=none↔H.obj b=none):=λb=>by
  by_cases e:b=L
  ·subst e;simp[χ.bL,Τ]
  ·simp[χ.bL,e]
 exact λb=>⟨λh=>⟨h.1,h.2.1,(key b).1 h.2.2.1,λΨ hb=>⟨(h.2.2.2 Ψ hb).1,(h.2.2.2 Ψ hb).2.1,(key Ψ).1 (h.2.2.2 Ψ hb).2.2⟩⟩,
  λh=>⟨h.1,h.2.1,(key b).2 h.2.2.1,λΨ hb=>⟨(h.2.2.2 Ψ hb).1,(h.2.2.2 Ψ hb).2.1,(key Ψ).2 (h.2.2.2 Ψ hb).2.2⟩⟩⟩
theorem Holds.bL {S:aJ} {B:aV} {σ:List Row} {H:χ} {L:Nat} {y:Obj} (Α:Holds S B σ H) (Ζ:¬B.has L):Holds S B σ (H.bL L y):=by
 have a5:∀b,b≠L->kJ H (H.bL L y) b:=λb hb=>⟨λ_=>rfl,rfl,by simp[χ.bL,hb]⟩
 have ne:∀(id b N:Nat),B[id]?=some (some (b,N))->b≠L:=λid b N h e=>Ζ (e▸oS h);refine⟨Α.dt,Α.len,λid r bo ι e7=>?_,Α.inj,Α.sep⟩;by_cases fv:r.live
 ·refine(Α.row id r bo ι e7).later (b8.refl S B σ) (λb N e=>a5 b (ne id b N (by rw[e7,e]))) λm left cur e=>⟨rfl,rfl,λb N hb=>a5 b (ne m b N hb)⟩
 ·cases r<;>first|exact absurd trivial fv|trivial
theorem Ext.bL {fu S:aJ} {eG B:aV} {ec H:χ} {L:Nat} {y:Obj} (he:Ext fu eG ec S B H) (Υ:ec.fresh L) (ab:H.e' L):Ext fu eG ec S B (H.bL L y):=by
 refine⟨he.dt,λb hb oU=>?_,he.blocks,he.qZ,λb hb=>he.grow b ((XP ab b).1 hb)⟩;have:b≠L:=λe=>oU (e▸Υ);obtain⟨J,U,μ⟩:=he.fV b hb oU;exact⟨J,U,by simp[χ.bL,this,μ]⟩
section
variable {P:Program} {T:bb} {Q:Value->Prop} {mn:Bool} {x:g1} {b:Frame} {cs:List Frame} {nt:Nat} {o:Base} {L:Nat} {r:Loop} {k:List Item} {env:Ω} {σ:List Row}
theorem sW.fR (γ:Seq x) (hb:b.mode=.run) (h:W P o.m nt k env σ (sW P Q mn x b cs nt o L r) (λ_ _ _=>False)):sW P Q mn x b cs nt o L r k env σ:=
 λS B H t κ ψ lq ab=>h Q mn x cs b S B H t γ hb ψ (λj env' σ' aE B' H' t' ag Τ ee h9 ο=>by
  have e:ag=j:=ο;subst e;obtain⟨J,U⟩:=qp ee.ext lq ab;exact Τ aE B' H' t' (κ.trans ee) h9 J U) (λa env' σ' aE B' H' t' ag v he=>he.elim)
theorem sW.yield (γ:Seq x) {ops:Array Oper} {i:Nat} {rest:List Nat} {op:Oper} (bW:m0 b ops i op) (hw:fP env ops op=some true) {y:Operand} {args:Array Operand} {eh:Array TypeId} (Μ:op.op=.call ⟨.value y,args,eh⟩) (Υ:aU env y=.fn (.yield L) [] []) (cv:args.size=r.params.size)
  (h:∀(S:aJ) (B:aV) (H:χ) (t:Array Value) (vs:Array Value),e8 o.m o.S o.B o.H o.σ S B H σ->fN o.m nt S B H σ env t->¬B.has L->H.obj L=some (.loop r)->fO S B σ (args.toList.map (aU env)) vs->
   aR P Q mn x (Frame.round L r.fn ((r.params.zip vs).foldl (λtmps (t,a)=>tmps.setIfInBounds t a) r.tmps) r.assign r.body .normal) (aA b t (.inRegion ops (i::rest)::k)::cs) H):sW P Q mn x b cs nt o L r (.inRegion ops (i::rest)::k) env σ:=by
 intro S B H t κ ψ lq ab;refine aR.op γ bW.run bW.op (ko ψ.cA hw) (.inr λc=>by rw[Μ];simp) ?_;have e:execOp (bp t) op=(do let d <-Deferred.ofValue (bp t y) (args.map (bp t));invoke d.target d.args):=by unfold execOp;rw[Μ];rfl
 rw[e];have b1:=lX ψ.cA y;have mM:=HQ ψ.cA args;rw[Υ] at b1;generalize bp t y=ax at b1;cases b1 with
 | fn v1 v2 J U μ Θ=>
  have Δ:v1=#[]:=Array.eq_empty_of_size_eq_zero (by rw[<-J];rfl)
  have Γ:v2=#[]:=Array.eq_empty_of_size_eq_zero (by rw[<-U];rfl);subst Δ;subst Γ;refine π.bind' (π.pure' ?_);have xc:invoke (Target.fn (Fn.yield L) #[]) (#[]++args.map (bp t))=Instr.yield L (args.map (bp t)):=by simp[invoke]
  show π P (invoke (Target.fn (Fn.yield L) #[]) (#[]++args.map (bp t))) H _ _;rw[xc];unfold Instr.yield;refine π.bind' (π.getLoop ab ?_);rw[if_neg (by simp[cv])];refine π.bind' (π.pure' (π.pure' ?_));exact h S B H t _ κ ψ lq ab mM
end
end Go.TL
namespace Go.TL
open Go.Conc Go.Proofs
def qq (n:Nat) (l:List Nat):Nat->Option Nat
 | 0=>none
 | e+1=>if l.getD e 0+l.length=n+e then qq n l e else some e
def m2 (l:List Nat) (i:Nat) (k:Nat):List Nat:=l.take i++((List.range k).map λj=>l.getD i 0+1+j)++l.drop (i+k)
def qs (n:Nat) (l:List Nat):Option (List Nat):=(qq n l l.length).map λi=>m2 l i (l.length-i)
def ov (n:Nat):Nat->List Nat->List (List Nat)
 | 0,l=>[l]
 | f+1,l=>l::match qs n l with|none=>[]|some m=>ov n f m
def qt (n:Nat):Nat->List Nat->Bool
 | 0,l=>l.all (· < n)&&(qs n l).isNone
 | f+1,l=>l.all (· < n)&&match qs n l with|none=>true|some m=>qt n f m
def kV (n c:Nat):List (List Nat):=(List.range' c (n+1-c)).flatMap λm=>ov n 300 (List.range m)
theorem XQ:∀n<11,∀m<n+1,qt n 300 (List.range m)=true:=by decide +kernel
theorem XR {n c:Nat} (h:c<n+1):kV n c=ov n 300 (List.range c)++kV n (c+1):=by
 unfold kV;have:n+1-c=(n+1-(c+1))+1:=R;rw[this,List.range'_succ,List.flatMap_cons]
theorem XS {n:Nat}:kV n (n+1)=[]:=by simp[kV]
theorem XT {n f:Nat} {l:List Nat} (h:qt n f l=true):∀x∈l,x<n:=by
 cases f<;>simp only[qt,Bool.and_eq_true,List.all_eq_true,decide_eq_true_eq] at h<;>exact h.1
theorem XU {n f:Nat} {l:List Nat} (h:qs n l=none):ov n f l=[l]:=by
 cases f<;>simp[ov,h]
theorem XV {n f:Nat} {l m:List Nat} (ω:qt n f l=true) (h:qs n l=some m):∃g,f=g+1/\ov n f l=l::ov n g m/\qt n g m=true:=by
 cases f with
 | zero=>simp[qt,h] at ω
 | succ g=>exact⟨g,rfl,by simp[ov,h],by simp[qt,h] at ω;exact ω.2⟩
theorem N8 {l:List Nat} {i k:Nat} (h:i+k<=l.length):(m2 l i k).length=l.length:=by simp[m2];omega
theorem XW {l:List Nat} {i:Nat} (h:i<l.length):m2 l i 1=l.set i (l[i]+1):=by
 unfold m2;rw[List.set_eq_take_append_cons_drop,if_pos h];simp[h]
theorem XX {l:List Nat} {i k:Nat} (ς:0<k) (h:i+k<=l.length):(m2 l i k).getD (i+k-1) 0=l.getD i 0+k:=by
 unfold m2;have Δ:(l.take i).length=i:=by simp;omega
 rw[List.getD_eq_getElem?_getD,List.append_assoc,h6 R,Δ,ev (by simp;omega)];have:i+k-1-i=k-1:=R;rw[this,List.getElem?_map,List.getElem?_range R];simp;omega
theorem XY {l:List Nat} {i k:Nat} (h:i+k<l.length):(m2 l i k).set (i+k) (l.getD i 0+k+1)=m2 l i (k+1):=by
 unfold m2;have Δ:(l.take i++(List.range k).map λj=>l.getD i 0+1+j).length=i+k:=by simp;omega
 rw[List.set_append_right _ _ R,Δ,Nat.sub_self,List.range_succ,List.map_append];have Γ:l.drop (i+k)=l[i+k]::l.drop (i+k+1):=List.drop_eq_getElem_cons h;rw[Γ,List.set_cons_zero];simp;constructor<;>omega
end Go.TL
