import Derived.Conc.AtomicLaws2
import Derived.Conc.ClockLaws
import Derived.Conc.MarkLaws
import Derived.Conc.QuitsD
import Derived.Conc.SmallLaws
import Derived.Test.YtlabjopijpkiaaaGreatUAR
import Derived.Test.YtlabjopijpkiaaaGreatUAS
set_option maxHeartbeats 16000000
set_option maxRecDepth 20000
set_option linter.unusedSectionVars false
set_option linter.unusedSimpArgs false
set_option linter.unusedVariables false
namespace Go.TL
open Go.Conc
open Go.ConcM (OsLater)
open Go.ConcN (sumTo upd sumTo_upd upd_ne upd_same sumTo_congr le_sumTo)
open Go.ConcR (mk)
variable [bt]
theorem gI {b:Frame} (hb:b.mode=.run) (κ:b.roundOf=none) (t:Array Value) (k:List Item):ax b t k=b.at ⟨t,b.defers⟩ k:=by
 obtain⟨fn,xC,td,Va,tS,kd,ro⟩:=b;simp only at hb κ;subst hb;subst κ;rfl
theorem uK (o:Oper) (t:Array Value) (ds:List Deferred) (v:Value):(⟨t,ds⟩:_root_.Go.Act).put o.dst v=⟨put o t v,ds⟩:=by
 unfold _root_.Go.Act.put put;cases o.dst<;>rfl
theorem mc (t:Array Value) (ds:List Deferred):(⟨t,ds⟩:_root_.Go.Act).eval=br t:=by funext o;cases o<;>rfl
def Entry (P:Program) (f:FuncId) (e:Array Value->Sem Value):Prop:=∃fn,P.funcs[f]?=some fn/\(fn.name == "runtime.NumGoroutine")=false/\fn.body.isNone=true/\Extern.findNext fn=none/\Extern.find fn=some e
structure mZ (b:Frame) (ops:Array Oper) (i:Nat) (op:Oper):Prop where
 run:b.mode=.run
 ro:b.roundOf=none
 kd:b.kind≠.early
 op:ops[i]?=some op
def eX (x:aX):Prop:=x.rel=false\/∃s,¬Gone (x.tok s)
theorem eX.ok {P:Program} {g:Goroutine} {x:aX} (h:eX x):zl P g x:=λI U=>by
 rcases h with h|⟨s,h⟩
 ·rw[h] at I;cases I
 ·exact absurd (U s) h
def one (x:aX):gV:=λy=>y=x
@[reducible] def eG:bt:=⟨λ_=>True⟩
theorem Seq.uL {x:aX} (Ψ:bt.q (one x)) (κ:x.rel=false) (hv:x.aK=λ_=>none):Seq (one x):=⟨Ψ,λy h=>by cases h;exact κ,λy h=>by cases h;exact hv⟩
theorem Seq.here {x:aX} (h:Seq (one x)):eX x:=.inl (h.rel x rfl)
section
variable {P:Program} {Q:Value->Prop} {mn:Bool} {x:aX} {b:Frame} {cs:List Frame} {nt:Nat} {o:Base} {k:List Item} {env:aa} {σ:List Row} {S:aH} {B:aU} {H:χ} {t:Array Value}
variable {ops:Array Oper} {i:Nat} {rest:List Nat} {op:Oper} {f:FuncId} {e:Array Value->Sem Value} {args:Array Operand} {ea:Array TypeId} {w w':World}
theorem EL (he:Entry P f e) (bW:mZ b ops i op) (hw:Region.wanted op (yielded ops t)=true) (Ξ:op.op=.call ⟨.value (.func f),args,ea⟩) {vs:Array Value} (qA:args.map (br t)=vs) {v:Value} {gu:Array Event}
  (dR:(e vs).run P w=.ok v w') (dy:(e vs).events P w #[⟨.mark (Mark.extern f),false,true⟩]=#[⟨.mark (Mark.extern f),false,true⟩]++gu) (ν:∀y∈gu,y.sync=true/\∀g,y.loc≠.mark (Mark.extern g)) :
  stepG P mn (Go.Conc.G (ax b t (.inRegion ops (i::rest)::k)) cs) w=.go (Go.Conc.G (ax b (put op t v) (.inRegion ops rest::k)) cs) w' gu:=by
 obtain⟨fn,I,U,ξ,Κ,aE⟩:=he;rw[gI bW.run bW.ro,gI bW.run bW.ro,<-uK];exact stepG_entry (a:=⟨t,b.defers⟩) bW.op hw bW.kd Ξ I U ξ Κ aE (by rw[mc,qA];exact dR) (by rw[mc,qA];exact dy) ν
theorem Ze (he:Entry P f e) (bW:mZ b ops i op) (hw:Region.wanted op (yielded ops t)=true) (Ξ:op.op=.call ⟨.value (.func f),args,ea⟩) {vs:Array Value} (qA:args.map (br t)=vs)
  (dR:(e vs).run P w=.halt .blocked w') :
  stepG P mn (Go.Conc.G (ax b t (.inRegion ops (i::rest)::k)) cs) w=.go {Go.Conc.G (ax b t (.inRegion ops (i::rest)::k)) cs with status:=.blocked} w' #[]:=by
 obtain⟨fn,I,U,ξ,Κ,aE⟩:=he;rw[gI bW.run bW.ro];exact stepG_entry_blocked (a:=⟨t,b.defers⟩) bW.op hw Ξ I U ξ Κ aE (by rw[mc,qA];exact dR)
theorem Pg (he:Entry P f e) (bW:mZ b ops i op) (Ξ:op.op=.call ⟨.value (.func f),args,ea⟩):mayWake P (Go.Conc.G (ax b t (.inRegion ops (i::rest)::k)) cs)=true:=by
 obtain⟨fn,I,U,ξ,Κ,aE⟩:=he;have bd:fn.body=none:=by simpa using ξ
 have Ph:(ax b t (.inRegion ops (i::rest)::k)).eval (.func f)=.func (.func f) #[] #[]:=rfl;simp[mayWake,Go.Conc.G,ax,bW.run,bW.op,Ξ] at Ph ⊢;simp[Ph,I,bd]
def AP (env:aa) (args:Array Operand) (vs:List Value):Prop:=args.toList.map (aT env)=vs.map η.z
theorem EM (ν:dj S B σ env t) {y:Operand} {v:Value} (h:aT env y=.z v):br t y=v:=by
 have:=lV ν y;rw[h] at this;generalize br t y=u at this;cases this;rfl
theorem AP.br (ν:dj S B σ env t) {vs:List Value} (h:AP env args vs):args.map (br t)=vs.toArray:=by
 apply Array.ext';rw[Array.toList_map];have:∀(l:List Operand) (vs:List Value),l.map (aT env)=vs.map η.z->l.map (Go.TL.br t)=vs:=by
  intro l
  induction l with
  | nil=>intro vs h;cases vs with
   | nil=>rfl
   | cons=>cases h
  | cons y l Β=>
   intro vs h;cases vs with
   | nil=>cases h
   | cons v vs=>
    simp only[List.map_cons,List.cons.injEq] at h ⊢;exact⟨EM ν h.1,Β vs h.2⟩
 exact this _ _ h
theorem EN (m:Mark):((λ_=>do mark m;pure Extern.Race.none_:Array Value->Sem Value) #[]).run P w=.ok (.tuple #[]) w:=by simp[Extern.Race.none_]
theorem EO (m:Mark) (es:Array Event):((λ_=>do mark m;pure Extern.Race.none_:Array Value->Sem Value) #[]).events P w es=es.push ⟨.mark m,false,true⟩:=θ
theorem yi (m:Addr->Mark) (cC:Addr):(Extern.Race.marked m #[.pointer (some cC)]).run P w=.ok (.tuple #[]) w:=by simp[Extern.Race.marked,Extern.Race.at_,Extern.Race.none_]
theorem yj (m:Addr->Mark) (cC:Addr) (es:Array Event):(Extern.Race.marked m #[.pointer (some cC)]).events P w es=es.push ⟨.mark (m cC),false,true⟩:=by simp[Extern.Race.marked,Extern.Race.at_]
theorem rP {m:Mark} (hm:∀g,m≠Mark.extern g):∀y∈(#[⟨.mark m,false,true⟩]:Array Event),y.sync=true/\∀g,y.loc≠.mark (Mark.extern g):=by
 intro y Ο;simp at Ο;subst Ο;exact⟨rfl,λg h=>hm g (by cases h;rfl)⟩
structure g2 (P:Program) (b:Frame) (ops:Array Oper) (i:Nat) (op:Oper) (f:FuncId) (e:Array Value->Sem Value) (args:Array Operand) (env:aa) (vs:List Value) (nt:Nat):Prop where
 at_:mZ b ops i op
 nD:Entry P f e
 call:∃ea,op.op=.call ⟨.value (.func f),args,ea⟩
 want:fK env ops op=some true
 dst:h3 nt op=true
 AQ:AP env args vs
theorem g2.step {vs:List Value} (h:g2 P b ops i op f e args env vs nt) (ν:dj S B σ env t) {v:Value} {gu:Array Event} (dR:(e vs.toArray).run P w=.ok v w')
  (dy:(e vs.toArray).events P w #[⟨.mark (Mark.extern f),false,true⟩]=#[⟨.mark (Mark.extern f),false,true⟩]++gu) (Zf:∀y∈gu,y.sync=true/\∀g,y.loc≠.mark (Mark.extern g)) :
  stepG P mn (Go.Conc.G (ax b t (.inRegion ops (i::rest)::k)) cs) w=.go (Go.Conc.G (ax b (put op t v) (.inRegion ops rest::k)) cs) w' gu:=
 let ⟨_,Ξ⟩:=h.call
 EL h.nD h.at_ (j' ν h.want) Ξ (h.AQ.br ν) dR dy Zf
abbrev oy:η:=.z (.tuple #[])
theorem V.disable (γ:eX x) (h:g2 P b ops i op f (λ_=>do mark .disable;pure Extern.Race.none_) args env [] nt) (ς:V P Q mn (one {x with deaf:=x.deaf+1}) b cs nt o (.inRegion ops rest::k) (cj op env oy) σ):V P Q mn (one x) b cs nt o (.inRegion ops (i::rest)::k) env σ:=
 λS B H t μ ψ y Ο=>by
 cases Ο;exact Goes.step γ.ok (.inr ⟨⟨rfl,rfl⟩,.inr (.inl ⟨Go.Conc.G (ax b (put op t (.tuple #[])) (.inRegion ops rest::k)) cs,⟨rfl,rfl⟩,.inl λw _=>
  ⟨h.step ψ.cx (EN .disable) (EO .disable _) (rP θ),ς S B H _ μ (ψ.put h.dst (.z _)) _ rfl⟩⟩)⟩)
theorem V.enable (γ:eX x) (hd:0<x.deaf) (h:g2 P b ops i op f (λ_=>do mark .enable;pure Extern.Race.none_) args env [] nt) (ς:V P Q mn (one {x with deaf:=x.deaf-1}) b cs nt o (.inRegion ops rest::k) (cj op env oy) σ):V P Q mn (one x) b cs nt o (.inRegion ops (i::rest)::k) env σ:=
 λS B H t μ ψ y Ο=>by
 cases Ο;exact Goes.step γ.ok (.inr ⟨⟨rfl,rfl⟩,.inr (.inl ⟨Go.Conc.G (ax b (put op t (.tuple #[])) (.inRegion ops rest::k)) cs,⟨rfl,rfl⟩,.inr ⟨hd,λw _=>
  ⟨h.step ψ.cx (EN .enable) (EO .enable _) (rP θ),ς S B H _ μ (ψ.put h.dst (.z _)) _ rfl⟩⟩⟩)⟩)
theorem V.Zg (γ:x.rel=false) {s off n p:Nat} {aJ:sf} (Ν:x.tok s=.par n p aJ) (my:aJ≠.bB) (h:g2 P b ops i op f (Extern.Race.marked .read) args env [.pointer (some ⟨s,off,none⟩)] nt) (ς:V P Q mn (one x) b cs nt o (.inRegion ops rest::k) (cj op env oy) σ):V P Q mn (one x) b cs nt o (.inRegion ops (i::rest)::k) env σ:=
 λS B H t μ ψ y Ο=>by
 cases Ο;exact Goes.step (eX.ok (.inl γ)) (.inr ⟨⟨rfl,rfl⟩,.inr (.inr (.inl ⟨s,n,p,aJ,Go.Conc.G (ax b (put op t (.tuple #[])) (.inRegion ops rest::k)) cs,off,false,Ν,my,γ,⟨rfl,rfl⟩,λw _=>
  ⟨h.step ψ.cx (yi .read _) (yj .read _ _) (rP θ),ς S B H _ μ (ψ.put h.dst (.z _)) _ rfl⟩⟩))⟩)
theorem V.Zh (γ:x.rel=false) {s off n p:Nat} {aJ:sf} (Ν:x.tok s=.par n p aJ) (my:aJ≠.bB) (h:g2 P b ops i op f (Extern.Race.marked .write) args env [.pointer (some ⟨s,off,none⟩)] nt) (ς:V P Q mn (one x) b cs nt o (.inRegion ops rest::k) (cj op env oy) σ):V P Q mn (one x) b cs nt o (.inRegion ops (i::rest)::k) env σ:=
 λS B H t μ ψ y Ο=>by
 cases Ο;exact Goes.step (eX.ok (.inl γ)) (.inr ⟨⟨rfl,rfl⟩,.inr (.inr (.inl ⟨s,n,p,aJ,Go.Conc.G (ax b (put op t (.tuple #[])) (.inRegion ops rest::k)) cs,off,true,Ν,my,γ,⟨rfl,rfl⟩,λw _=>
  ⟨h.step ψ.cx (yi .write _) (yj .write _ _) (rP θ),ς S B H _ μ (ψ.put h.dst (.z _)) _ rfl⟩⟩))⟩)
theorem V.CI (γ:x.rel=false) (hd:x.deaf=0) {s m n:Nat} {sp:Spec} (b2:x.spec s=some sp) (hm:sp.aW=some m) (Ν:x.tok s=.ch n .own .work) (h:g2 P b ops i op f (Extern.Race.marked .acquire) args env [.pointer (some ⟨m,0,none⟩)] nt)
  (ς:∀(S:aH) (B:aU) (H:χ) (t:Array Value) (L:List Nat) (E:χ),e7 o.m o.S o.B o.H o.σ S B H σ->fI o.m nt S B H σ (cj op env oy) t->sp.aN L E->Apart H E->(L.Nodup/\n∉L/\∃w,Fits H w/\Fits E w)->
   cw P Q mn {x with tok:=upd x.tok s (.ch n (.dh L) .work),view:=upd x.view s none} (ax b t (.inRegion ops rest::k)) cs (join H E)):V P Q mn (one x) b cs nt o (.inRegion ops (i::rest)::k) env σ:=
 λS B H t μ ψ y Ο=>by
 cases Ο;exact Goes.step (eX.ok (.inl γ)) (.inr ⟨⟨rfl,rfl⟩,.inr (.inr (.inr (.inr (.inl ⟨s,sp,m,n,Go.Conc.G (ax b (put op t (.tuple #[])) (.inRegion ops rest::k)) cs,b2,hm,Ν,hd,⟨rfl,rfl⟩,γ,λw _=>
  h.step ψ.cx (yi .acquire _) (yj .acquire _ _) (rP θ),λL E dp iI hw=>ς S B H _ L E μ (ψ.put h.dst (.z _)) dp iI hw⟩))))⟩)
theorem V.G2 (γ:x.rel=false) (hd:x.deaf=0) {s m n:Nat} {L:List Nat} {sp:Spec} (b2:x.spec s=some sp) (hm:sp.aW=some m) (Ν:x.tok s=.ch n (.dh L) .work) (h:g2 P b ops i op f (Extern.Race.marked .releaseMerge) args env [.pointer (some ⟨m,0,none⟩)] nt)
  (ς:∀(S:aH) (B:aU) (H:χ) (t:Array Value),e7 o.m o.S o.B o.H o.σ S B H σ->fI o.m nt S B H σ (cj op env oy) t->∃H' E,Split H H' E/\sp.aN (L++[n]) E/\
   cw P Q mn {x with tok:=upd x.tok s (.ch n .fin .work),view:=upd x.view s none} (ax b t (.inRegion ops rest::k)) cs H'):V P Q mn (one x) b cs nt o (.inRegion ops (i::rest)::k) env σ:=
 λS B H t μ ψ y Ο=>by
 cases Ο;obtain⟨H',E,I,U,ξ⟩:=ς S B H _ μ (ψ.put h.dst (.z (.tuple #[])));exact Goes.step (eX.ok (.inl γ)) (.inr ⟨⟨rfl,rfl⟩,.inr (.inr (.inr (.inr (.inr (.inl ⟨s,sp,m,n,L,Go.Conc.G (ax b (put op t (.tuple #[])) (.inRegion ops rest::k)) cs,H',E,b2,hm,Ν,hd,⟨rfl,rfl⟩,γ,λw _=>
  h.step ψ.cx (yi .releaseMerge _) (yj .releaseMerge _ _) (rP θ),I,U,ξ⟩)))))⟩)
theorem V.CJ (γ:x.rel=false) (hd:x.deaf=0) {s n:Nat} {aJ:sf} {sp:Spec} (b2:x.spec s=some sp) (Ν:x.tok s=.par n 0 aJ) (my:aJ=.mm\/aJ=.w4) (h:g2 P b ops i op f (Extern.Race.marked .acquire) args env [.pointer (some ⟨s,0,none⟩)] nt)
  (ς:∀(S:aH) (B:aU) (H:χ) (t:Array Value) (gp fG:List Nat) (gM eI:χ),e7 o.m o.S o.B o.H o.σ S B H σ->fI o.m nt S B H σ (cj op env oy) t->
   gp.Perm (List.range n)->lO sp.D gp gM->(sp.aW≠none->fG.Perm (List.range n)/\sp.aN fG eI)->(sp.aW=none->eI=χ.empty)->Apart H gM->Apart H eI->Apart gM eI->(∃w,Fits H w/\Fits gM w/\Fits eI w)->
   cw P Q mn {x with tok:=upd x.tok s (.par n 0 .bB),view:=upd x.view s none} (ax b t (.inRegion ops rest::k)) cs (join (join H gM) eI)):V P Q mn (one x) b cs nt o (.inRegion ops (i::rest)::k) env σ:=
 λS B H t μ ψ y Ο=>by
 cases Ο;exact Goes.step (eX.ok (.inl γ)) (.inr ⟨⟨rfl,rfl⟩,.inr (.inr (.inr (.inr (.inr (.inr (.inr (.inl ⟨s,sp,n,aJ,Go.Conc.G (ax b (put op t (.tuple #[])) (.inRegion ops rest::k)) cs,b2,Ν,my,hd,⟨rfl,rfl⟩,γ,λw _=>
  h.step ψ.cx (yi .acquire _) (yj .acquire _ _) (rP θ),λgp fG gM eI a1 bk cz gm hO mw vk tD=>ς S B H _ gp fG gM eI μ (ψ.put h.dst (.z _)) a1 bk cz gm hO mw vk tD⟩)))))))⟩)
theorem V.atomic (γ:eX x) {s:Nat} {sp:Spec} (b2:x.spec s=some sp) (cN:¬fZ (x.tok s)) (hd:h3 nt op=true) (hw:fK env ops op=some true)
  (h:∀(t:Array Value) (w:World) (φ:Nat) (ο:aP),(∀y u,aT env y=.z u->br t y=u)->(∀(as9:Array Operand) (vs:List Value),AP env as9 vs->as9.map (br t)=vs.toArray)->Region.wanted op (yielded ops t)=true->ο.toSpec=sp->At s ο w->Gz x s φ ο->vn ο (x.tok s)->
   (∃v w' gu,stepG P mn (Go.Conc.G (ax b t (.inRegion ops (i::rest)::k)) cs) w=.go (Go.Conc.G (ax b (put op t v) (.inRegion ops rest::k)) cs) w' gu/\fD (λΩ _=>ep s sp Ω) (λ_=>False) w w'/\oQ s sp x.deaf gu/\
    ((At s ο w'/\V P Q mn (one {x with view:=upd x.view s (some (φ,ο))}) b cs nt o (.inRegion ops rest::k) (cj op env (.z v)) σ)\/
     ∃o' t',Act ο (x.tok s) o' t'/\At s o' w'/\(mayWake P (Go.Conc.G (ax b t (.inRegion ops (i::rest)::k)) cs)=true\/o'=ο)/\∀cu,cu<φ->V P Q mn (one {x with tok:=upd x.tok s t',view:=upd x.view s (some (cu,o'))}) b cs nt o (.inRegion ops rest::k) (cj op env (.z v)) σ))\/
   (j5 ο (x.tok s)/\(∀bp,bp≠s->nk (x.tok bp))/\stepG P mn (Go.Conc.G (ax b t (.inRegion ops (i::rest)::k)) cs) w=.go {Go.Conc.G (ax b t (.inRegion ops (i::rest)::k)) cs with status:=.blocked} w #[])) :
  V P Q mn (one x) b cs nt o (.inRegion ops (i::rest)::k) env σ:=by
 intro S B H t μ ψ y Ο;cases Ο;refine Goes.step γ.ok (.inr ⟨⟨rfl,rfl⟩,.inr (.inr (.inr (.inl ⟨s,sp,b2,cN,λw φ ο Χ hv Α bE zm I5=>?_⟩)))⟩);rcases h t w φ ο (λy u Ο=>EM ψ.cx Ο) (λas9 vs qA=>qA.br ψ.cx) (j' ψ.cx hw) Α bE zm I5 with⟨v,w',gu,I,U,ξ,Κ⟩|⟨I,U,ξ⟩
 ·refine .inl ?_;rw[I];refine⟨⟨rfl,rfl⟩,U,ξ,?_⟩;rcases Κ with⟨aE,bd⟩|⟨o',t',aE,bd,gT,n0⟩
  ·exact .inl ⟨aE,bd S B H _ μ (ψ.put hd (.z _)) _ rfl⟩
  ·exact .inr ⟨o',t',aE,bd,gT,λcu ey=>n0 cu ey S B H _ μ (ψ.put hd (.z _)) _ rfl⟩
 ·exact .inr ⟨I,U,ξ⟩
theorem Pj {db off:Nat} {c:Array Value} {ty:TypeId} (hb:w.heap[db]?=some (.cells c ty (0,0))) (v:Value) {own:Nat->Nat->Prop} (gd:∀o,own db o):fD own (λ_=>False) w (w.setCell ⟨db,off,none⟩ v):=by
 have aY:=heap_setCell (w:=w) (a:=⟨db,off,none⟩) (v:=v) rfl hb
 have aB:=fE hb
 have D':(w.setCell ⟨db,off,none⟩ v).os=w.os:=rfl;refine⟨by rw[aY];simp,λΩ c' t' M5 dF=>?_,λΩ y dF Ο _=>?_,by rw[D'];exact OsLater.refl _,rfl,rfl⟩
 ·by_cases e:Ω=db
  ·subst e;rw[hb] at dF;cases dF;exact⟨_,by rw[aY,Array.getElem?_setIfInBounds_self_of_lt aB],θ,λo' jI=>absurd (gd o') jI⟩
  ·exact⟨c',by rw[aY,Array.getElem?_setIfInBounds_ne (Ne.symm e)];exact dF,rfl,λ_ _=>rfl⟩
 ·have e:db≠Ω:=λe=>by subst e;rw[hb] at dF;cases dF;cases Ο
  rw[aY,Array.getElem?_setIfInBounds_ne e];exact dF
section
variable {s m:Nat} {ο o':aP}
theorem At.ne (h:At s ο w) (hm:ο.aW=some m):m≠s:=λe=>by
 obtain⟨⟨ty,I⟩,U⟩:=h;obtain⟨jC,ξ⟩:=U m hm;subst e;rw[I] at ξ;simp at ξ
theorem At.mu (h:At s ο w) (hm:ο.aW=some m):∃ty,w.heap[m]?=some (.cells #[.int .i32 (mwd ο),.int .u32 ο.c7] ty (0,0)):=h.2 m hm
theorem At.dD (h:At s ο w) (hm:ο.aW=some m):w.cell? ⟨m,0,none⟩=some (.int .i32 (mwd ο)):=let ⟨_,I⟩:=h.mu hm;nU I rfl
theorem At.eZ (h:At s ο w) (hm:ο.aW=some m):w.cell? ⟨m,1,none⟩=some (.int .u32 ο.c7):=let ⟨_,I⟩:=h.mu hm;nU I rfl
theorem At.cV (h:At s ο w):w.cell? ⟨s,0,none⟩=some (.int .u64 (cR ο)):=let ⟨_,I⟩:=h.1;nU I rfl
theorem At.Τ (h:At s ο w):w.cell? ⟨s,1,none⟩=some (.int .u32 ο.cL):=let ⟨_,I⟩:=h.1;nU I rfl
theorem Pk {db off:Nat} {c:Array Value} {ty:TypeId} (hb:w.heap[db]?=some (.cells c ty (0,0))):w.frozen? ⟨db,off,none⟩=false:=by
 simp[World.frozen?,hb]
theorem At.yk (h:At s ο w) (hm:ο.aW=some m) (off:Nat):w.frozen? ⟨m,off,none⟩=false:=let ⟨_,I⟩:=h.mu hm;Pk I
theorem At.uM (h:At s ο w) (off:Nat):w.frozen? ⟨s,off,none⟩=false:=let ⟨_,I⟩:=h.1;Pk I
theorem At.EP (h:At s ο w) (hm:ο.aW=some m) (dg:o'.aW=ο.aW) (Ρ:cR o'=cR ο) (hw:o'.cL=ο.cL) {off:Nat} {v:Value} (hv:(#[.int .i32 (mwd ο),.int .u32 ο.c7]:Array Value).setIfInBounds off v=#[.int .i32 (mwd o'),.int .u32 o'.c7]):At s o' (w.setCell ⟨m,off,none⟩ v):=by
 have bA:=h.ne hm;obtain⟨jC,ξ⟩:=h.mu hm;obtain⟨⟨ty,I⟩,U⟩:=h;have aY:=heap_setCell (w:=w) (a:=⟨m,off,none⟩) (v:=v) rfl ξ;refine⟨⟨ty,?_⟩,λb7 jX=>⟨jC,?_⟩⟩
 ·rw[aY,Array.getElem?_setIfInBounds_ne bA,Ρ,hw];exact I
 ·rw[dg,hm] at jX;cases jX;rw[aY,Array.getElem?_setIfInBounds_self_of_lt (fE ξ),hv]
theorem At.yl (h:At s ο w) (dg:o'.aW=ο.aW) (Ρ:mwd o'=mwd ο) (hw:o'.c7=ο.c7) {off:Nat} {v:Value} (hv:(#[.int .u64 (cR ο),.int .u32 ο.cL]:Array Value).setIfInBounds off v=#[.int .u64 (cR o'),.int .u32 o'.cL]):At s o' (w.setCell ⟨s,off,none⟩ v):=by
 have bA:=λm hm=>h.ne (m:=m) hm;obtain⟨⟨ty,I⟩,U⟩:=h;have aY:=heap_setCell (w:=w) (a:=⟨s,off,none⟩) (v:=v) rfl I;refine⟨⟨ty,?_⟩,λb7 jX=>?_⟩
 ·rw[aY,Array.getElem?_setIfInBounds_self_of_lt (fE I),hv]
 ·rw[dg] at jX;obtain⟨jC,ξ⟩:=U b7 jX;exact⟨jC,by rw[aY,Array.getElem?_setIfInBounds_ne (Ne.symm (bA b7 jX)),Ρ,hw];exact ξ⟩
theorem At.ER (h:At s ο w) (hm:ο.aW=some m) {sp:Spec} (ν:sp.aW=some m) {off:Nat} (v:Value):fD (λΩ _=>ep s sp Ω) (λ_=>False) w (w.setCell ⟨m,off,none⟩ v):=
 let ⟨_,I⟩:=h.mu hm;Pj I v λ_=>.inr ν
theorem At.ym (h:At s ο w) {sp:Spec} {off:Nat} (v:Value):fD (λΩ _=>ep s sp Ω) (λ_=>False) w (w.setCell ⟨s,off,none⟩ v):=
 let ⟨_,I⟩:=h.1;Pj I v λ_=>.inl rfl
end
theorem Pl {s d:Nat} {sp:Spec}:oQ s sp d #[]:=⟨rfl,λj e h=>by simp at h⟩
theorem rQ {s db off d:Nat} {sp:Spec} {es:Array Event} (hb:ep s sp db) (hd:0<d) (ν:∀y∈es,y.loc=.cell ⟨db,off,none⟩/\y.sync=true):oQ s sp d es:=by
 have tT:∀(es:Array Event),(∀y∈es,y.loc=.cell ⟨db,off,none⟩/\y.sync=true)->deafBehind d es=d:=by
  intro es;obtain⟨l⟩:=es;intro h;unfold deafBehind;simp only[List.foldl_toArray']
  induction l with
  | nil=>rfl
  | cons y l Β=>
   simp only[List.foldl_cons];have:=h y θ;rw[this.1];exact Β λz Θ=>h z (by simp at Θ ⊢;exact .inr Θ)
 refine⟨tT es ν,λj y Ο=>.inr (.inr ⟨db,off,y.write,?_,hb,?_⟩)⟩
 ·have:=ν y (Array.mem_of_getElem? Ο);obtain⟨l,w1,s1⟩:=y;simp only at this;rw[this.1,this.2]
 ·rw[tT]
  ·exact hd
  ·intro z Θ;exact ν z (by
    rw[Array.mem_iff_getElem?] at Θ ⊢;obtain⟨q,Ψ⟩:=Θ;rw[Array.getElem?_extract] at Ψ;split at Ψ
    ·exact⟨_,Ψ⟩
    ·cases Ψ)
end
end Go.TL
namespace Go.TL
open Go.Conc
open Go.ConcM (OsLater)
open Go.ConcN (sumTo upd sumTo_upd upd_ne upd_same sumTo_congr le_sumTo)
variable [bt]
section
variable {P:Program} {Q:Value->Prop} {mn:Bool} {x:aX} {b:Frame} {cs:List Frame} {nt:Nat} {o:Base} {k:List Item} {env:aa} {σ:List Row}
variable {ops:Array Oper} {i:Nat} {rest:List Nat} {op:Oper} {f:FuncId} {e:Array Value->Sem Value} {args:Array Operand} {vs:List Value}
def h7 (P:Program) (Q:Value->Prop) (mn:Bool) (x:aX) (b:Frame) (cs:List Frame) (nt:Nat) (o:Base) (ops:Array Oper) (rest:List Nat) (k:List Item) (op:Oper) (env:aa) (σ:List Row) (s φ:Nat) (ο:aP) (v:Value):Prop:=
 V P Q mn (one {x with view:=upd x.view s (some (φ,ο))}) b cs nt o (.inRegion ops rest::k) (cj op env (.z v)) σ
def qB (P:Program) (Q:Value->Prop) (mn:Bool) (x:aX) (b:Frame) (cs:List Frame) (nt:Nat) (o:Base) (ops:Array Oper) (rest:List Nat) (k:List Item) (op:Oper) (env:aa) (σ:List Row) (s φ:Nat) (ο:aP) (v:Value) (o':aP) (t':Tok):Prop:=
 Act ο (x.tok s) o' t'/\∀cu,cu<φ->V P Q mn (one {x with tok:=upd x.tok s t',view:=upd x.view s (some (cu,o'))}) b cs nt o (.inRegion ops rest::k) (cj op env (.z v)) σ
structure Seen (x:aX) (s:Nat) (sp:Spec) (φ:Nat) (ο:aP):Prop where
 spec:ο.toSpec=sp
 view:Gz x s φ ο
 jo:vn ο (x.tok s)
theorem V.ext (γ:eX x) {s:Nat} {sp:Spec} (b2:x.spec s=some sp) (cN:¬fZ (x.tok s)) (h:g2 P b ops i op f e args env vs nt)
  (aY:∀(w:World) (φ:Nat) (ο:aP),Seen x s sp φ ο->At s ο w->
   (∃v w' gu,(e vs.toArray).run P w=.ok v w'/\(e vs.toArray).events P w #[⟨.mark (Mark.extern f),false,true⟩]=#[⟨.mark (Mark.extern f),false,true⟩]++gu/\(∀y∈gu,y.sync=true/\∀g,y.loc≠.mark (Mark.extern g))/\
    fD (λΩ _=>ep s sp Ω) (λ_=>False) w w'/\oQ s sp x.deaf gu/\
    ((At s ο w'/\h7 P Q mn x b cs nt o ops rest k op env σ s φ ο v)\/∃o' t',At s o' w'/\qB P Q mn x b cs nt o ops rest k op env σ s φ ο v o' t'))\/
   (j5 ο (x.tok s)/\(∀bp,bp≠s->nk (x.tok bp))/\(e vs.toArray).run P w=.halt .blocked w)) :
  V P Q mn (one x) b cs nt o (.inRegion ops (i::rest)::k) env σ:=by
 obtain⟨ea,Ξ⟩:=h.call;refine .atomic γ b2 cN h.dst h.want λt w φ ο _ qA hw I U ξ Κ=>?_;rcases aY w φ ο ⟨I,ξ,Κ⟩ U with⟨v,w',gu,a1,bk,cz,gm,hO,mw⟩|⟨a1,bk,cz⟩
 ·refine .inl ⟨v,w',gu,EL h.nD h.at_ hw Ξ (qA _ _ h.AQ) a1 bk cz,gm,hO,mw.imp id λ⟨o',t',bJ,c8,fY⟩=>⟨o',t',c8,bJ,.inl (Pg h.nD h.at_ Ξ),fY⟩⟩
 ·exact .inr ⟨a1,bk,Ze h.nD h.at_ hw Ξ (qA _ _ h.AQ) cz⟩
theorem rR (cC:Addr):∀y∈(#[⟨.cell cC,false,true⟩,⟨.cell cC,true,true⟩]:Array Event),y.loc=.cell cC/\y.sync=true:=by
 intro y Ο;simp at Ο;rcases Ο with rfl|rfl<;>exact⟨rfl,rfl⟩
theorem rS (cC:Addr) (wr:Bool):∀y∈(#[⟨.cell cC,wr,true⟩]:Array Event),y.loc=.cell cC/\y.sync=true:=by
 intro y Ο;simp at Ο;subst Ο;exact⟨rfl,rfl⟩
theorem rT {cC:Addr} {es:Array Event} (h:∀y∈es,y.loc=.cell cC/\y.sync=true):∀y∈es,y.sync=true/\∀g,y.loc≠.mark (Mark.extern g):=λy Ο=>⟨(h y Ο).2,λg e=>by rw[(h y Ο).1] at e;cases e⟩
structure yn (ο o':aP):Prop where
 aW:o'.aW=ο.aW
 g:cR o'=cR ο
 w:o'.cL=ο.cL
structure rU (ο o':aP):Prop where
 aW:o'.aW=ο.aW
 g:mwd o'=mwd ο
 w:o'.c7=ο.c7
section
variable {s m:Nat} {sp:Spec} (γ:eX x) (hd:0<x.deaf) (b2:x.spec s=some sp) (cN:¬fZ (x.tok s))
include γ hd b2 cN
theorem V.ES (hm:sp.aW=some m) {old new:Int} (h:g2 P b ops i op f (Extern.Atomic.casT (.int .i32)) args env [.pointer (some ⟨m,0,none⟩),.int .i32 old,.int .i32 new] nt)
  (AR:∀φ ο,Seen x s sp φ ο->¬mwd ο=old->h7 P Q mn x b cs nt o ops rest k op env σ s φ ο (.bool false)\/∃t',qB P Q mn x b cs nt o ops rest k op env σ s φ ο (.bool false) ο t')
  (dr:∀φ ο,Seen x s sp φ ο->mwd ο=old->∃o' t',mwd o'=new/\o'.c7=ο.c7/\yn ο o'/\qB P Q mn x b cs nt o ops rest k op env σ s φ ο (.bool true) o' t') :
  V P Q mn (one x) b cs nt o (.inRegion ops (i::rest)::k) env σ:=by
 refine .ext γ b2 cN h λw φ ο ν bE=>.inl ?_;have dg:ο.aW=some m:=by rw[ν.spec];exact hm
 have ε:=bE.dD dg
 have Θ:=bE.yk dg 0;by_cases hv:mwd ο=old
 ·obtain⟨o',t',I,U,ξ,Κ⟩:=dr φ ο ν hv;subst hv;refine⟨.bool true,_,_,(congrArg (Sem.run P · w) (casT_eq _ _)).trans (run_cas_hit_entry ε Θ),?_,rT (rR ⟨m,0,none⟩),bE.ER dg hm _,rQ (.inr hm) hd (rR ⟨m,0,none⟩),.inr ⟨o',t',bE.EP dg ξ.aW ξ.g ξ.w ?_,Κ⟩⟩
  ·exact(congrArg (Sem.events P · w _) (casT_eq _ _)).trans ((events_cas_hit_entry ε Θ _).trans rfl)
  ·rw[I,U];rfl
 ·refine⟨.bool false,w,_,(congrArg (Sem.run P · w) (casT_eq _ _)).trans (run_cas_miss_entry ε Θ hv),?_,rT (rS ⟨m,0,none⟩ false),fD.refl _ _ _,rQ (.inr hm) hd (rS ⟨m,0,none⟩ false),?_⟩
  ·exact(congrArg (Sem.events P · w _) (casT_eq _ _)).trans ((events_cas_miss_entry ε Θ hv _).trans rfl)
  ·exact(AR φ ο ν hv).imp (λh=>⟨bE,h⟩) λ⟨t',h⟩=>⟨ο,t',bE,h⟩
theorem V.Pm (hm:sp.aW=some m) {d:Int} (h:g2 P b ops i op f (Extern.Atomic.update (Op.intArith .add) .i32 true) args env [.pointer (some ⟨m,0,none⟩),.int .i32 d] nt)
  (dr:∀φ ο,Seen x s sp φ ο->∃o' t',mwd o'=IntKind.i32.wrap (mwd ο+d)/\o'.c7=ο.c7/\yn ο o'/\qB P Q mn x b cs nt o ops rest k op env σ s φ ο (.int .i32 (mwd o')) o' t') :
  V P Q mn (one x) b cs nt o (.inRegion ops (i::rest)::k) env σ:=by
 refine .ext γ b2 cN h λw φ ο ν bE=>.inl ?_;have dg:ο.aW=some m:=by rw[ν.spec];exact hm
 have ε:=bE.dD dg
 have Θ:=bE.yk dg 0;obtain⟨o',t',I,U,ξ,Κ⟩:=dr φ ο ν;rw[I] at Κ;refine⟨_,_,_,run_add_entry ε Θ,(events_add_entry ε Θ _).trans rfl,rT (rR ⟨m,0,none⟩),bE.ER dg hm _,rQ (.inr hm) hd (rR ⟨m,0,none⟩),.inr ⟨o',t',bE.EP dg ξ.aW ξ.g ξ.w ?_,Κ⟩⟩;rw[I,U];rfl
theorem V.I6 (h:g2 P b ops i op f (Extern.Atomic.loadT (.int .u64)) args env [.pointer (some ⟨s,0,none⟩)] nt)
  (dr:∀φ ο,Seen x s sp φ ο->h7 P Q mn x b cs nt o ops rest k op env σ s φ ο (.int .u64 (cR ο))\/∃t',qB P Q mn x b cs nt o ops rest k op env σ s φ ο (.int .u64 (cR ο)) ο t') :
  V P Q mn (one x) b cs nt o (.inRegion ops (i::rest)::k) env σ:=by
 refine .ext γ b2 cN h λw φ ο ν bE=>.inl ?_;have ε:=bE.cV;refine⟨.int .u64 (cR ο),w,#[⟨.cell ⟨s,0,none⟩,false,true⟩],?_,?_,rT (rS _ false),fD.refl _ _ _,rQ (.inl rfl) hd (rS _ false),(dr φ ο ν).imp (λh=>⟨bE,h⟩) λ⟨t',h⟩=>⟨ο,t',bE,h⟩⟩
 ·change Sem.run P (do Extern.Atomic.read (.int .u64) (<-asAddr (.pointer (some _)))) w=_;simp[Extern.Atomic.read,asAddr,ε]
 ·change Sem.events P (do Extern.Atomic.read (.int .u64) (<-asAddr (.pointer (some _)))) w _=_;simp[Extern.Atomic.read,asAddr,ε,events_load]
theorem V.Zi {old new:Int} (h:g2 P b ops i op f (Extern.Atomic.casT (.int .u64)) args env [.pointer (some ⟨s,0,none⟩),.int .u64 old,.int .u64 new] nt)
  (AR:∀φ ο,Seen x s sp φ ο->¬cR ο=old->h7 P Q mn x b cs nt o ops rest k op env σ s φ ο (.bool false))
  (dr:∀φ ο,Seen x s sp φ ο->cR ο=old->∃o' t',cR o'=new/\o'.cL=ο.cL/\rU ο o'/\qB P Q mn x b cs nt o ops rest k op env σ s φ ο (.bool true) o' t') :
  V P Q mn (one x) b cs nt o (.inRegion ops (i::rest)::k) env σ:=by
 refine .ext γ b2 cN h λw φ ο ν bE=>.inl ?_;have ε:=bE.cV;have Θ:=bE.uM 0;by_cases hv:cR ο=old
 ·obtain⟨o',t',I,U,ξ,Κ⟩:=dr φ ο ν hv;subst hv;refine⟨.bool true,_,_,(congrArg (Sem.run P · w) (casT_eq _ _)).trans (run_cas_hit_entry ε Θ),?_,rT (rR ⟨s,0,none⟩),bE.ym _,rQ (.inl rfl) hd (rR ⟨s,0,none⟩),.inr ⟨o',t',bE.yl ξ.aW ξ.g ξ.w ?_,Κ⟩⟩
  ·exact(congrArg (Sem.events P · w _) (casT_eq _ _)).trans ((events_cas_hit_entry ε Θ _).trans rfl)
  ·rw[I,U];rfl
 ·refine⟨.bool false,w,_,(congrArg (Sem.run P · w) (casT_eq _ _)).trans (run_cas_miss_entry ε Θ hv),?_,rT (rS ⟨s,0,none⟩ false),fD.refl _ _ _,rQ (.inl rfl) hd (rS ⟨s,0,none⟩ false),.inl ⟨bE,AR φ ο ν hv⟩⟩;exact(congrArg (Sem.events P · w _) (casT_eq _ _)).trans ((events_cas_miss_entry ε Θ hv _).trans rfl)
theorem V.I7 {d:Int} (h:g2 P b ops i op f (Extern.Atomic.update (Op.intArith .add) .u64 true) args env [.pointer (some ⟨s,0,none⟩),.int .u64 d] nt)
  (dr:∀φ ο,Seen x s sp φ ο->∃o' t',cR o'=IntKind.u64.wrap (cR ο+d)/\o'.cL=ο.cL/\rU ο o'/\qB P Q mn x b cs nt o ops rest k op env σ s φ ο (.int .u64 (cR o')) o' t') :
  V P Q mn (one x) b cs nt o (.inRegion ops (i::rest)::k) env σ:=by
 refine .ext γ b2 cN h λw φ ο ν bE=>.inl ?_;have ε:=bE.cV;have Θ:=bE.uM 0;obtain⟨o',t',I,U,ξ,Κ⟩:=dr φ ο ν;rw[I] at Κ;refine⟨_,_,_,run_add_entry ε Θ,(events_add_entry ε Θ _).trans rfl,rT (rR ⟨s,0,none⟩),bE.ym _,rQ (.inl rfl) hd (rR ⟨s,0,none⟩),.inr ⟨o',t',bE.yl ξ.aW ξ.g ξ.w ?_,Κ⟩⟩;rw[I,U];rfl
end
theorem Pn {w:World} {cC:Addr} {n:Int} {vs:List Value} (γ:vs[0]?=some (.pointer (some cC))) (ε:w.cell? cC=some (.int .u32 n)) (rn:n≠0) (Θ:w.frozen? cC=false):(Extern.Sync.semacquire vs.toArray).run P w=.ok (.tuple #[]) (w.setCell cC (.int .u32 (n-1))):=by
 simp[Extern.Sync.semacquire,Extern.Sync.count,γ,ε,rn,Θ,Extern.Sync.none_,run_store P w cC (.int .u32 (n-1)) .atomic rfl,Result.andThen]
theorem Po {w:World} {cC:Addr} {n:Int} {vs:List Value} (γ:vs[0]?=some (.pointer (some cC))) (ε:w.cell? cC=some (.int .u32 n)) (rn:n≠0) (Θ:w.frozen? cC=false) (es:Array Event):(Extern.Sync.semacquire vs.toArray).events P w es=es++semEvents cC:=by
 simp[Extern.Sync.semacquire,Extern.Sync.count,γ,ε,rn,Θ,semEvents,events_load,events_store P w _ cC (.int .u32 (n-1)) .atomic rfl,run_store P w cC (.int .u32 (n-1)) .atomic rfl,Result.evThen];apply Array.ext';simp
theorem Pp {w:World} {cC:Addr} {vs:List Value} (γ:vs[0]?=some (.pointer (some cC))) (ε:w.cell? cC=some (.int .u32 0)):(Extern.Sync.semacquire vs.toArray).run P w=.halt .blocked w:=by
 simp[Extern.Sync.semacquire,Extern.Sync.count,γ,ε]
theorem Pq {w:World} {cC:Addr} {n:Int} {vs:List Value} (γ:vs[0]?=some (.pointer (some cC))) (ε:w.cell? cC=some (.int .u32 n)) (Θ:w.frozen? cC=false):(Extern.Sync.semrelease vs.toArray).run P w=.ok (.tuple #[]) (w.setCell cC (.int .u32 (IntKind.u32.wrap (n+1)))):=by
 simp[Extern.Sync.semrelease,Extern.Sync.count,γ,ε,Θ,Extern.Sync.none_,Op.intArith,run_store P w cC (.int .u32 (IntKind.u32.wrap (n+1))) .atomic rfl,Result.andThen]
theorem Pr {w:World} {cC:Addr} {n:Int} {vs:List Value} (γ:vs[0]?=some (.pointer (some cC))) (ε:w.cell? cC=some (.int .u32 n)) (Θ:w.frozen? cC=false) (es:Array Event):(Extern.Sync.semrelease vs.toArray).events P w es=es++semEvents cC:=by
 simp[Extern.Sync.semrelease,Extern.Sync.count,γ,ε,Θ,semEvents,Op.intArith,events_load,events_store P w _ cC (.int .u32 (IntKind.u32.wrap (n+1))) .atomic rfl,run_store P w cC (.int .u32 (IntKind.u32.wrap (n+1))) .atomic rfl,Result.evThen];apply Array.ext';simp
theorem ET {s db off d:Nat} {sp:Spec} (hb:ep s sp db):oQ s sp d (semEvents ⟨db,off,none⟩):=by
 refine⟨by simp[deafBehind,semEvents],λj y Ο=>?_⟩
 match j,Ο with
 | 0,Ο=>simp[semEvents] at Ο;subst Ο;exact .inl rfl
 | 1,Ο=>simp[semEvents] at Ο;subst Ο;exact .inr (.inr ⟨db,off,false,rfl,hb,by simp[semEvents,deafBehind]⟩)
 | 2,Ο=>simp[semEvents] at Ο;subst Ο;exact .inr (.inr ⟨db,off,true,rfl,hb,by simp[semEvents,deafBehind]⟩)
 | 3,Ο=>simp[semEvents] at Ο;subst Ο;exact .inr (.inl rfl)
 | j+4,Ο=>simp[semEvents] at Ο
section
variable {s m:Nat} {sp:Spec} (γ:eX x) (b2:x.spec s=some sp) (cN:¬fZ (x.tok s))
include γ b2 cN
theorem V.Zj (hm:sp.aW=some m) (ai:vs[0]?=some (.pointer (some ⟨m,1,none⟩))) (cH:∀bp,bp≠s->nk (x.tok bp)) (h:g2 P b ops i op f Extern.Sync.semacquire args env vs nt)
  (wait:∀φ ο,Seen x s sp φ ο->ο.c7=0->j5 ο (x.tok s))
  (dr:∀φ ο,Seen x s sp φ ο->0<ο.c7->∃o' t',mwd o'=mwd ο/\o'.c7=ο.c7-1/\yn ο o'/\qB P Q mn x b cs nt o ops rest k op env σ s φ ο (.tuple #[]) o' t') :
  V P Q mn (one x) b cs nt o (.inRegion ops (i::rest)::k) env σ:=by
 refine .ext γ b2 cN h λw φ ο ν bE=>?_;have dg:ο.aW=some m:=by rw[ν.spec];exact hm
 have ε:=bE.eZ dg;by_cases hv:ο.c7=0
 ·exact .inr ⟨wait φ ο ν hv,cH,Pp ai (by rw[ε,hv];rfl)⟩
 ·obtain⟨o',t',I,U,ξ,Κ⟩:=dr φ ο ν R;have Η:((ο.c7:Nat):Int)≠0:=R;refine .inl ⟨_,_,_,Pn ai ε Η (bE.yk dg 1),Po ai ε Η (bE.yk dg 1) _,semEvents_sync _,bE.ER dg hm _,ET (.inr hm),.inr ⟨o',t',bE.EP dg ξ.aW ξ.g ξ.w ?_,Κ⟩⟩;rw[I,U,show((ο.c7:Nat):Int)-1=((ο.c7-1:Nat):Int) by omega];rfl
theorem V.Zk (ai:vs[0]?=some (.pointer (some ⟨s,1,none⟩))) (cH:∀bp,bp≠s->nk (x.tok bp)) (h:g2 P b ops i op f Extern.Sync.semacquire args env vs nt)
  (wait:∀φ ο,Seen x s sp φ ο->ο.cL=0->j5 ο (x.tok s))
  (dr:∀φ ο,Seen x s sp φ ο->0<ο.cL->∃o' t',cR o'=cR ο/\o'.cL=ο.cL-1/\rU ο o'/\qB P Q mn x b cs nt o ops rest k op env σ s φ ο (.tuple #[]) o' t') :
  V P Q mn (one x) b cs nt o (.inRegion ops (i::rest)::k) env σ:=by
 refine .ext γ b2 cN h λw φ ο ν bE=>?_;have ε:=bE.Τ;by_cases hv:ο.cL=0
 ·exact .inr ⟨wait φ ο ν hv,cH,Pp ai (by rw[ε,hv];rfl)⟩
 ·obtain⟨o',t',I,U,ξ,Κ⟩:=dr φ ο ν R;have Η:((ο.cL:Nat):Int)≠0:=R;refine .inl ⟨_,_,_,Pn ai ε Η (bE.uM 1),Po ai ε Η (bE.uM 1) _,semEvents_sync _,bE.ym _,ET (.inl rfl),.inr ⟨o',t',bE.yl ξ.aW ξ.g ξ.w ?_,Κ⟩⟩;rw[I,U,show((ο.cL:Nat):Int)-1=((ο.cL-1:Nat):Int) by omega];rfl
theorem V.Ps (hm:sp.aW=some m) (ai:vs[0]?=some (.pointer (some ⟨m,1,none⟩))) (h:g2 P b ops i op f Extern.Sync.semrelease args env vs nt)
  (dr:∀φ ο,Seen x s sp φ ο->ο.c7<1000/\∃o' t',mwd o'=mwd ο/\o'.c7=ο.c7+1/\yn ο o'/\qB P Q mn x b cs nt o ops rest k op env σ s φ ο (.tuple #[]) o' t') :
  V P Q mn (one x) b cs nt o (.inRegion ops (i::rest)::k) env σ:=by
 refine .ext γ b2 cN h λw φ ο ν bE=>.inl ?_;have dg:ο.aW=some m:=by rw[ν.spec];exact hm
 have ε:=bE.eZ dg;obtain⟨aB,o',t',I,U,ξ,Κ⟩:=dr φ ο ν;refine⟨_,_,_,Pq ai ε (bE.yk dg 1),Pr ai ε (bE.yk dg 1) _,semEvents_sync _,bE.ER dg hm _,ET (.inr hm),.inr ⟨o',t',bE.EP dg ξ.aW ξ.g ξ.w ?_,Κ⟩⟩;rw[I,U,show IntKind.u32.wrap (((ο.c7:Nat):Int)+1)=((ο.c7+1:Nat):Int) by simp only[IntKind.wrap_u32];omega];rfl
end
end
end Go.TL
namespace Go.TL
open Go.Conc
open Go.ConcM (OsLater)
open Go.ConcN (sumTo upd sumTo_upd upd_ne upd_same sumTo_congr le_sumTo)
open Go.ConcR (mk)
variable [bt]
section
variable {P:Program} {T:bf} {Q:Value->Prop} {mn:Bool} {x:aX} {z:gV} {b:Frame} {cs:List Frame} {nt:Nat} {o:Base} {k:List Item} {env:aa} {σ:List Row}
variable {ops:Array Oper} {i:Nat} {rest:List Nat} {op:Oper} {f:FuncId} {e:Array Value->Sem Value} {args:Array Operand} {vs:List Value} {fn:Func}
theorem m0 {S:aH} {B:aU} {l:List Value} {vs:Array Value} (h:fJ S B σ (l.map η.z) vs):vs=l.toArray:=by
 apply Array.ext';apply List.ext_getElem?;intro i;have I:=h.1;rw[List.length_map] at I;by_cases hi:i<l.length
 ·have Δ:(l.map η.z)[i]?=some (.z l[i]):=by rw[List.getElem?_map,a5 hi];rfl
  have Γ:vs[i]?=some vs[i]:=fh R
  have:=h.2 i _ _ Δ Γ
  have:vs[i]=l[i]:=by generalize vs[i]=u at this;cases this;rfl
  rw[Array.getElem?_toList,Γ,this];simp[hi]
 ·rw[Array.getElem?_toList,Array.getElem?_eq_none R];simp;omega
theorem V.call (γ:Seq z) (bW:mZ b ops i op) (hw:fK env ops op=some true) {y:Operand} {ea:Array TypeId} (Ξ:op.op=.call ⟨.value y,args,ea⟩) {g:FuncId} {first captured:List η} (Χ:aT env y=.fn (.func g) first captured) (Ρ:Plain P g)
  (h:∀(S:aH) (B:aU) (H:χ) (t:Array Value) (vs:Array Value),e7 o.m o.S o.B o.H o.σ S B H σ->fI o.m nt S B H σ env t->fJ S B σ (first++args.toList.map (aT env)++captured) vs->
   aO P Q mn z (Frame.enter P g vs .normal) (ax b t (.inRegion ops (i::rest)::k)::cs) H):V P Q mn z b cs nt o (.inRegion ops (i::rest)::k) env σ:=by
 intro S B H t μ ψ;refine .op γ bW.run bW.op (j' ψ.cx hw) (.inr λc=>by rw[Ξ];simp) ?_;have e:execOp (br t) op=(do let d <-Deferred.ofValue (br t y) (args.map (br t));invoke d.target d.args):=by unfold execOp;rw[Ξ];rfl
 rw[e];have b3:=lV ψ.cx y;have mO:=IF ψ.cx args;rw[Χ] at b3;generalize br t y=au at b3;cases b3 with
 | fn v1 v2 I U ξ Κ=>
  refine π.bind' (π.pure' ?_);obtain⟨fn,bY,k9,D4⟩:=Ρ;unfold invoke;simp only;unfold callFunc;refine π.bind' ?_;show π P (match P.funcs[g]? with|none=>_|some fn=>_) H _ _;rw[bY];simp only[k9,D4,Bool.false_eq_true,if_false];refine π.pure' ?_;have r1:fJ S B σ first v1:=⟨I,ξ⟩
  have r2:fJ S B σ captured v2:=⟨U,Κ⟩;exact h S B H t _ μ ψ ((r1.append mO).append r2)
theorem V.qC {g:FuncId} {body:Code} (bY:P.funcs[g]?=some fn) (nz:fn.body=some body) {c:Frame} {S:aH} {B:aU} {H:χ} (ω:Holds S B σ H) (Η:vs.length<=fn.ntmps)
  (h:V P Q mn z (Frame.enter P g vs.toArray .normal) (c::cs) fn.ntmps ⟨S,[],H,[],0⟩ [.code body] (entry 0 (vs.map η.z)) []):aO P Q mn z (Frame.enter P g vs.toArray .normal) (c::cs) H:=by
 rw[qp bY nz];refine h.here (fI.enter ω.bare ⟨θ,λi a v I U=>?_⟩ (Nat.le_refl _) (by simpa using Η));simp only[List.getElem?_map,List.getElem?_toArray] at I U;rw[U] at I;cases I;exact .z v
theorem V.I8 (γ:Seq z) (hb:b.mode=.run) (cm:b.roundOf=none) (eP:b.defers=[]) (gR:b.kind=.normal) (bY:P.funcs[b.fn]?=some fn) (e5:fn.results=#[]) {c:Frame}
  (h:∀(S:aH) (B:aU) (H:χ),e7 o.m o.S o.B o.H o.σ S B H σ->Holds S B σ H->aO P Q mn z (c.finish (.tuple #[])) cs H):V P Q mn z b (c::cs) nt o (.code .ret::k) env σ:=by
 intro S B H t μ ψ;refine .ret γ hb cm (.back γ rfl eP (.inl gR) bY ?_);rw[results_none e5];exact π.pure' (h S B H μ ψ.holds)
theorem V.EU (γ:Seq z) (hb:b.mode=.run) (cm:b.roundOf=none) (eP:b.defers=[]) (gR:b.kind=.normal) (bY:P.funcs[b.fn]?=some fn) (e5:fn.results=#[]) {c:Frame}
  (h:∀(S:aH) (B:aU) (H:χ),e7 o.m o.S o.B o.H o.σ S B H σ->Holds S B σ H->aO P Q mn z (c.finish (.tuple #[])) cs H):V P Q mn z b (c::cs) nt o [] env σ:=by
 intro S B H t μ ψ;refine .sy γ hb cm (.back γ rfl eP (.inl gR) bY ?_);rw[results_none e5];exact π.pure' (h S B H μ ψ.holds)
theorem V.tg (γ:Seq z) (hb:b.mode=.run) (cm:b.roundOf=none) (eP:b.defers=[]) (gR:b.kind=.normal) (bY:P.funcs[b.fn]?=some fn) {d:Nat} (e5:fn.results=#[.tmp d]) {v:Value} (hv:a6 env d=.z v) {c:Frame}
  (h:∀(S:aH) (B:aU) (H:χ),e7 o.m o.S o.B o.H o.σ S B H σ->Holds S B σ H->aO P Q mn z (c.finish v) cs H):V P Q mn z b (c::cs) nt o (.code .ret::k) env σ:=by
 intro S B H t μ ψ;refine .ret γ hb cm (.back γ rfl eP (.inl gR) bY ?_);have e:results fn t=pure (t.getD d undef):=by unfold results;rw[e5];simp
 have lP:t.getD d undef=v:=by
  have:=ψ.cx d;rw[hv] at this;generalize t.getD d undef=u at this;cases this;rfl
 show π P (results fn t) H _ _;rw[e,lP];exact π.pure' (h S B H μ ψ.holds)
theorem Zl {w:World} {ty:TypeId} {kd:IntKind} (hu:P.underlying ty=some (.int kd)) {cC:Addr} {v:Value} (ε:w.cell? cC=some v):(Instr.loadAt ty (.pointer (some cC))).run P w=.ok v w/\(Instr.loadAt ty (.pointer (some cC))).events P w #[]=#[⟨.cell cC,false,false⟩]:=by
 constructor
 ·simp[Instr.loadAt,Instr.sureAddr,loadVar,isAgg,run_underlying hu,ε,Result.andThen]
 ·simp[Instr.loadAt,Instr.sureAddr,loadVar,isAgg,run_underlying hu,ε,events_load,Result.evThen]
theorem Zm {t:Array Value} {w:World} (bW:mZ b ops i op) (hw:Region.wanted op (yielded ops t)=true) {ty:TypeId} {y:Operand} (Ξ:op.op=.load ty y) {kd:IntKind} (hu:P.underlying ty=some (.int kd)) {cC:Addr} (Ο:br t y=.pointer (some cC)) {v:Value} (ε:w.cell? cC=some v) (Ψ:(P.funcs[b.fn]?).any (·.norace)=true) :
  stepG P mn (Go.Conc.G (ax b t (.inRegion ops (i::rest)::k)) cs) w=.go (Go.Conc.G (ax b (put op t v) (.inRegion ops rest::k)) cs) w #[]:=by
 obtain⟨r1,r2⟩:=Zl (P:=P) hu ε;have e:execOp (br t) op=(do pure (.value (<-Instr.loadAt ty (.pointer (some cC))))):=by unfold execOp;rw[Ξ,<-Ο]
 rw[gI bW.run bW.ro,gI bW.run bW.ro,<-uK];have κ:(execOp (⟨t,b.defers⟩:_root_.Go.Act).eval op).run P w=.ok (.value v) w:=by rw[mc,e];simp[r1,Result.andThen]
 have he:(execOp (⟨t,b.defers⟩:_root_.Go.Act).eval op).events P w #[]=#[⟨.cell cC,false,false⟩]:=by rw[mc,e];simp[r1,r2,Result.evThen]
 rw[stepG_value bW.op hw bW.kd κ];unfold listed;rw[he,seen_def,Ψ];simp[seenStep]
section
variable {s:Nat} {sp:Spec} (γ:eX x) (b2:x.spec s=some sp) (cN:¬fZ (x.tok s))
include γ b2 cN
theorem V.yo (bW:mZ b ops i op) (hd:h3 nt op=true) (hw:fK env ops op=some true) {ty:TypeId} {y:Operand} (Ξ:op.op=.load ty y) {kd:IntKind} (hu:P.underlying ty=some (.int kd)) {cC:Addr} (Ο:aT env y=.z (.pointer (some cC))) (Ψ:(P.funcs[b.fn]?).any (·.norace)=true)
  (val:aP->Int) (ε:∀(ο:aP) (w:World),ο.toSpec=sp->At s ο w->w.cell? cC=some (.int kd (val ο)))
  (dr:∀φ ο,Seen x s sp φ ο->h7 P Q mn x b cs nt o ops rest k op env σ s φ ο (.int kd (val ο))\/∃t',qB P Q mn x b cs nt o ops rest k op env σ s φ ο (.int kd (val ο)) ο t') :
  V P Q mn (one x) b cs nt o (.inRegion ops (i::rest)::k) env σ:=by
 refine .atomic γ b2 cN hd hw λt w φ ο dy _ q6 I U ξ Κ=>.inl ?_;refine⟨.int kd (val ο),w,#[],Zm bW q6 Ξ hu (dy _ _ Ο) (ε ο w I U) Ψ,fD.refl _ _ _,Pl,?_⟩;exact(dr φ ο ⟨I,ξ,Κ⟩).imp (λh=>⟨U,h⟩) λ⟨t',aE,bd⟩=>⟨ο,t',aE,U,.inr rfl,bd⟩
theorem V.conv (bW:mZ b ops i op) (hd:h3 nt op=true) (hw:fK env ops op=some true) {src dst t0:TypeId} {y:Operand} (Ξ:op.op=.convert src dst y) (ν:P.underlying src=some (.pointer t0)) (vH:P.underlying dst=some .unsafePointer) (cv:(P.info? t0).map (λi=>decide (i.size=0))=some false) {cC:Addr} (Ο:aT env y=.z (.pointer (some cC)))
  (ε:∀(ο:aP) (w:World),ο.toSpec=sp->At s ο w->∃v,w.cell? cC=some v)
  (dr:∀φ ο,Seen x s sp φ ο->h7 P Q mn x b cs nt o ops rest k op env σ s φ ο (.pointer (some cC))) :
  V P Q mn (one x) b cs nt o (.inRegion ops (i::rest)::k) env σ:=by
 refine .atomic γ b2 cN hd hw λt w φ ο dy _ q6 I U ξ Κ=>.inl ?_;obtain⟨v,hv⟩:=ε ο w I U;refine⟨.pointer (some cC),w,#[],?_,fD.refl _ _ _,Pl,.inl ⟨U,dr φ ο ⟨I,ξ,Κ⟩⟩⟩;have r1:=run_convert_to_unsafe (P:=P) ν vH cv hv;have r2:=events_convert_to_unsafe (P:=P) ν vH cv hv #[];have e:execOp (br t) op=(do pure (.value (<-convert src dst (.pointer (some cC))))):=by unfold execOp;rw[Ξ,<-dy _ _ Ο]
 rw[gI bW.run bW.ro,gI bW.run bW.ro,<-uK];have κ:(execOp (⟨t,b.defers⟩:_root_.Go.Act).eval op).run P w=.ok (.value (.pointer (some cC))) w:=by rw[mc,e];simp[r1,Result.andThen]
 have he:(execOp (⟨t,b.defers⟩:_root_.Go.Act).eval op).events P w #[]=#[]:=by rw[mc,e];simp[r1,r2,Result.evThen]
 rw[stepG_value bW.op q6 bW.kd κ];unfold listed;rw[he,seen_none]
end
theorem Zn (w:World):OsLater w.os w.later.os:=⟨w.tick,rfl⟩
theorem dJ.later {H:χ} {w:World} (h:Fits H w):dJ H w H w.later #[]:=
 ⟨⟨h.aL,h.row,h.obj⟩,⟨Nat.le_refl _,λb c t dQ hb=>⟨c,hb,rfl,λ_ _=>rfl⟩,λb x hb _ _=>hb,Zn w,rfl,rfl⟩,⟨λb o v p h=>.inr ⟨v,p,h,id⟩,λb h=>.inr h⟩,λe he=>by simp at he⟩
theorem V.nano (γ:Seq z) (h:g2 P b ops i op f Extern.OsHooks.nano args env vs nt) (Ψ:(P.funcs[f]?).any (·.norace)=true) (ς:∀τ:Int,V P Q mn z b cs nt o (.inRegion ops rest::k) (cj op env (.z (.int .i64 τ))) σ):V P Q mn z b cs nt o (.inRegion ops (i::rest)::k) env σ:=by
 intro S B H t μ ψ;obtain⟨fn,I,U,ξ,Κ,aE⟩:=h.nD;obtain⟨ea,Ξ⟩:=h.call;rw[I] at Ψ;refine aO.own γ λw Χ=>⟨_,_,_,_,H,?_,dJ.later Χ,ς ((w.os.mono+w.tick:Nat):Int) S B H _ μ (ψ.put h.dst (.z _))⟩;rw[gI h.at_.run h.at_.ro,stepG_nanotime (a:=⟨t,b.defers⟩) h.at_.op (j' ψ.cx h.want) h.at_.kd Ξ I U ξ Κ aE (by simpa using Ψ),uK,<-gI h.at_.run h.at_.ro]
theorem V.canSpin (γ:Seq z) {n:Int} (h:g2 P b ops i op f Extern.Sync.canSpin args env [.int .i64 n] nt) (ς:∀y:Bool,(y=true->n<4)->V P Q mn z b cs nt o (.inRegion ops rest::k) (cj op env (.z (.bool y))) σ):V P Q mn z b cs nt o (.inRegion ops (i::rest)::k) env σ:=by
 intro S B H t μ ψ;obtain⟨fn,I,U,ξ,Κ,aE⟩:=h.nD;obtain⟨ea,Ξ⟩:=h.call;have hM:args.map (⟨t,b.defers⟩:_root_.Go.Act).eval=#[.int .i64 n]:=by rw[mc];exact h.AQ.br ψ.cx
 by_cases bd:n<4
 ·refine aO.own γ λw Χ=>⟨_,_,_,_,H,?_,(dJ.start Χ).draw (w.drawn+1),ς w.spins (λ_=>bd) S B H _ μ (ψ.put h.dst (.z _))⟩;rw[gI h.at_.run h.at_.ro,stepG_canSpin_ask (a:=⟨t,b.defers⟩) h.at_.op (j' ψ.cx h.want) h.at_.kd Ξ I U ξ Κ aE hM bd,uK,<-gI h.at_.run h.at_.ro];rfl
 ·refine aO.own γ λw Χ=>⟨_,_,w,#[],H,?_,dJ.start Χ,ς false (λh=>by cases h) S B H _ μ (ψ.put h.dst (.z _))⟩;rw[gI h.at_.run h.at_.ro,stepG_canSpin_no (a:=⟨t,b.defers⟩) h.at_.op (j' ψ.cx h.want) h.at_.kd Ξ I U ξ Κ aE hM R,uK,<-gI h.at_.run h.at_.ro]
theorem V.EV (γ:Seq z) {v:Value} (h:g2 P b ops i op f (λ_=>pure v) args env vs nt) (ς:V P Q mn z b cs nt o (.inRegion ops rest::k) (cj op env (.z v)) σ):V P Q mn z b cs nt o (.inRegion ops (i::rest)::k) env σ:=
 λS B H t μ ψ=>aO.own γ λw Χ=>⟨_,_,w,#[],H,h.step ψ.cx θ θ θ,dJ.start Χ,ς S B H _ μ (ψ.put h.dst (.z v))⟩
theorem V.I9 (γ:Seq z) (bW:mZ b ops i op) (hw:fK env ops op=some true) (rA:op.dst=none) {ea:Array TypeId} (Ξ:op.op=.defer ⟨.value (.func f),#[],ea⟩)
  (h:V P Q mn z {b with defers:=Go.Conc.dcall f #[]::b.defers} cs nt o (.inRegion ops rest::k) env σ):V P Q mn z b cs nt o (.inRegion ops (i::rest)::k) env σ:=by
 intro S B H t μ ψ;have OC:put op t undef=t:=by unfold put;rw[rA]
 refine aO.still γ (f':=ax {b with defers:=Go.Conc.dcall f #[]::b.defers} t (.inRegion ops rest::k)) (cs':=cs) (λw=>?_) (h S B H t μ ψ);rw[gI bW.run bW.ro,stepG_defer (a:=⟨t,b.defers⟩) bW.op (j' ψ.cx hw) bW.kd Ξ];have:(⟨t,Go.Conc.dcall f #[]::b.defers⟩:_root_.Go.Act).put op.dst undef=⟨t,Go.Conc.dcall f #[]::b.defers⟩:=by rw[rA];rfl
 simp only[Array.map_empty,List.map_toArray,List.map_nil];rw[this,gI (b:={b with defers:=Go.Conc.dcall f #[]::b.defers}) bW.run bW.ro];rfl
theorem cw.Zo (γ:eX x) (hd:0<x.deaf) (hb:b.mode=.run) (cm:b.roundOf=none) {ds:List Deferred} (eP:b.defers=Go.Conc.dcall f #[]::ds) (he:Entry P f (λ_=>do mark .enable;pure Extern.Race.none_)) {H:χ} {t:Array Value}
  (h:cw P Q mn {x with deaf:=x.deaf-1} {ax {b with defers:=ds} t k with mode:=.returning} cs H):cw P Q mn x {ax b t k with mode:=.returning} cs H:=by
 obtain⟨fn,I,U,ξ,Κ,aE⟩:=he;refine Goes.step γ.ok (.inr ⟨⟨rfl,rfl⟩,.inr (.inl ⟨Go.Conc.G {ax {b with defers:=ds} t k with mode:=.returning} cs,⟨rfl,rfl⟩,.inr ⟨hd,λw _=>⟨?_,h⟩⟩⟩)⟩);rw[gI hb cm,gI (b:={b with defers:=ds}) hb cm];exact stepG_unwind_entry (a:=⟨t,b.defers⟩) (v:=.tuple #[]) eP I U ξ Κ aE (EN .enable) (EO .enable _) (rP θ)
end
inductive Quiet (P:Program) (mn:Bool):Goroutine->Goroutine->Prop where
 | nil (g:Goroutine):Quiet P mn g g
 | cons {g g' Pt:Goroutine}:iE g->(∀w,stepG P mn g w=.go g' w #[])->Quiet P mn g' Pt->Quiet P mn g Pt
section
variable {P:Program} {Q:Value->Prop} {mn:Bool} {x:aX} {g g':Goroutine}
theorem Quiet.runs (h:Quiet P mn g g') (κ:iE g'):iE g:=by
 cases h with
 | nil=>exact κ
 | cons I=>exact I
theorem Quiet.goes (h:Quiet P mn g g') (γ:eX x) (κ:iE g') (Ρ:Goes P Q mn g' x):Goes P Q mn g x:=by
 induction h with
 | nil=>exact Ρ
 | cons I U ξ Β=>
  refine Goes.step γ.ok (.inr ⟨I,.inl λw Χ hv=>?_⟩);rw[U w];refine⟨x.G,x.aK,ξ.runs κ,fD.refl _ _ _,Χ,hv,⟨λb o v p h=>.inr ⟨v,p,h,id⟩,λb h=>.inr h⟩,λb c h=>.inl h,λe he=>by simp at he,λb c _ _ e he=>by simp at he,Β κ Ρ⟩
end
end Go.TL
namespace Go.TL
open Go.Conc Go.Proofs
variable [bt]
def th (P:Program) (Q:Value->Prop) (mn:Bool) (x:gV) (b:Frame) (cs:List Frame) (nt:Nat) (o:Base) (L:Nat) (r:Loop) (k:List Item) (env:aa) (σ:List Row):Prop:=
 ∀(S:aH) (B:aU) (H:χ) (t:Array Value),e7 o.m o.S o.B o.H o.σ S B H σ->fI o.m nt S B H σ env t->¬B.has L->H.obj L=some (.loop r)->aO P Q mn x (ax b t k) cs H
theorem qD {S aA:aH} {B B':aU} {H H':χ} (he:Ext S B H aA B' H') {L:Nat} {y:Obj} (Η:¬B.has L) (aG:H.obj L=some y):¬B'.has L/\H'.obj L=some y:=by
 have Χ:¬H.fresh L:=λh=>by rw[h.2.2.1] at aG;cases aG
 exact⟨λh=>(he.blocks L h).elim Η Χ,by rw[(he.fQ L Η Χ).2.2];exact aG⟩
theorem Zp {H:χ} {L:Nat} {y:Obj} (aG:H.e9 L):∀b,(H.bL L y).fresh b↔H.fresh b:=by
 obtain⟨z,Θ⟩:=aG;have key:∀b,((H.bL L y).obj b=none↔H.obj b=none):=λb=>by
  by_cases e:b=L
  ·subst e;simp[χ.bL,Θ]
  ·simp[χ.bL,e]
 exact λb=>⟨λh=>⟨h.1,h.2.1,(key b).1 h.2.2.1,λΩ hb=>⟨(h.2.2.2 Ω hb).1,(h.2.2.2 Ω hb).2.1,(key Ω).1 (h.2.2.2 Ω hb).2.2⟩⟩,
  λh=>⟨h.1,h.2.1,(key b).2 h.2.2.1,λΩ hb=>⟨(h.2.2.2 Ω hb).1,(h.2.2.2 Ω hb).2.1,(key Ω).2 (h.2.2.2 Ω hb).2.2⟩⟩⟩
theorem Holds.bL {S:aH} {B:aU} {σ:List Row} {H:χ} {L:Nat} {y:Obj} (ω:Holds S B σ H) (Η:¬B.has L):Holds S B σ (H.bL L y):=by
 have aV:∀b,b≠L->kH H (H.bL L y) b:=λb hb=>⟨λ_=>rfl,rfl,by simp[χ.bL,hb]⟩
 have ne:∀(id b N:Nat),B[id]?=some (some (b,N))->b≠L:=λid b N h e=>Η (e▸o3 h);refine⟨ω.di,ω.len,λid r bo κ e6=>?_,ω.inj,ω.sep⟩;by_cases fr:r.live
 ·refine(ω.row id r bo κ e6).later (b'.refl S B σ) (λb N e=>aV b (ne id b N (by rw[e6,e]))) λm left cur e=>⟨rfl,rfl,λb N hb=>aV b (ne m b N hb)⟩
 ·cases r<;>first|exact absurd trivial fr|trivial
theorem Ext.bL {fq S:aH} {eC B:aU} {dS H:χ} {L:Nat} {y:Obj} (he:Ext fq eC dS S B H) (Χ:dS.fresh L) (aG:H.e9 L):Ext fq eC dS S B (H.bL L y):=by
 refine⟨he.di,λb hb o5=>?_,he.blocks,he.rh,λb hb=>he.grow b ((Zp aG b).1 hb)⟩;have:b≠L:=λe=>o5 (e▸Χ);obtain⟨I,U,ξ⟩:=he.fQ b hb o5;exact⟨I,U,by simp[χ.bL,this,ξ]⟩
section
variable {P:Program} {T:bf} {Q:Value->Prop} {mn:Bool} {x:gV} {b:Frame} {cs:List Frame} {nt:Nat} {o:Base} {L:Nat} {r:Loop} {k:List Item} {env:aa} {σ:List Row}
theorem th.fL (γ:Seq x) (hb:b.mode=.run) (h:W P o.m nt k env σ (th P Q mn x b cs nt o L r) (λ_ _ _=>False)):th P Q mn x b cs nt o L r k env σ:=
 λS B H t μ ψ lp aG=>h Q mn x cs b S B H t γ hb ψ (λj env' σ' aA B' H' t' ae Θ eo gf υ=>by
  have e:ae=j:=υ;subst e;obtain⟨I,U⟩:=qD eo.ext lp aG;exact Θ aA B' H' t' (μ.trans eo) gf I U) (λa env' σ' aA B' H' t' ae v he=>he.elim)
theorem th.yield (γ:Seq x) {ops:Array Oper} {i:Nat} {rest:List Nat} {op:Oper} (bW:mZ b ops i op) (hw:fK env ops op=some true) {y:Operand} {args:Array Operand} {ea:Array TypeId} (Ξ:op.op=.call ⟨.value y,args,ea⟩) (Χ:aT env y=.fn (.yield L) [] []) (cv:args.size=r.params.size)
  (h:∀(S:aH) (B:aU) (H:χ) (t:Array Value) (vs:Array Value),e7 o.m o.S o.B o.H o.σ S B H σ->fI o.m nt S B H σ env t->¬B.has L->H.obj L=some (.loop r)->fJ S B σ (args.toList.map (aT env)) vs->
   aO P Q mn x (Frame.round L r.fn ((r.params.zip vs).foldl (λtmps (t,a)=>tmps.setIfInBounds t a) r.tmps) r.assign r.body .normal) (ax b t (.inRegion ops (i::rest)::k)::cs) H):th P Q mn x b cs nt o L r (.inRegion ops (i::rest)::k) env σ:=by
 intro S B H t μ ψ lp aG;refine aO.op γ bW.run bW.op (j' ψ.cx hw) (.inr λc=>by rw[Ξ];simp) ?_;have e:execOp (br t) op=(do let d <-Deferred.ofValue (br t y) (args.map (br t));invoke d.target d.args):=by unfold execOp;rw[Ξ];rfl
 rw[e];have b3:=lV ψ.cx y;have mO:=IF ψ.cx args;rw[Χ] at b3;generalize br t y=au at b3;cases b3 with
 | fn v1 v2 I U ξ Κ=>
  have Δ:v1=#[]:=Array.eq_empty_of_size_eq_zero (by rw[<-I];rfl)
  have Γ:v2=#[]:=Array.eq_empty_of_size_eq_zero (by rw[<-U];rfl);subst Δ;subst Γ;refine π.bind' (π.pure' ?_);have xv:invoke (Target.fn (Fn.yield L) #[]) (#[]++args.map (br t))=Instr.yield L (args.map (br t)):=by simp[invoke]
  show π P (invoke (Target.fn (Fn.yield L) #[]) (#[]++args.map (br t))) H _ _;rw[xv];unfold Instr.yield;refine π.bind' (π.getLoop aG ?_);rw[if_neg (by simp[cv])];refine π.bind' (π.pure' (π.pure' ?_));exact h S B H t _ μ ψ lp aG mO
end
end Go.TL
namespace Go.TL
open Go.Conc Go.Proofs
def qE (n:Nat) (l:List Nat):Nat->Option Nat
 | 0=>none
 | e+1=>if l.getD e 0+l.length=n+e then qE n l e else some e
def m1 (l:List Nat) (i:Nat) (k:Nat):List Nat:=l.take i++((List.range k).map λj=>l.getD i 0+1+j)++l.drop (i+k)
def qF (n:Nat) (l:List Nat):Option (List Nat):=(qE n l l.length).map λi=>m1 l i (l.length-i)
def oz (n:Nat):Nat->List Nat->List (List Nat)
 | 0,l=>[l]
 | f+1,l=>l::match qF n l with|none=>[]|some m=>oz n f m
def qG (n:Nat):Nat->List Nat->Bool
 | 0,l=>l.all (· < n)&&(qF n l).isNone
 | f+1,l=>l.all (· < n)&&match qF n l with|none=>true|some m=>qG n f m
def kP (n c:Nat):List (List Nat):=(List.range' c (n+1-c)).flatMap λm=>oz n 300 (List.range m)
theorem Zq:∀n<11,∀m<n+1,qG n 300 (List.range m)=true:=by decide +kernel
theorem Zr {n c:Nat} (h:c<n+1):kP n c=oz n 300 (List.range c)++kP n (c+1):=by
 unfold kP;have:n+1-c=(n+1-(c+1))+1:=R;rw[this,List.range'_succ,List.flatMap_cons]
theorem Zs {n:Nat}:kP n (n+1)=[]:=by simp[kP]
theorem Zt {n f:Nat} {l:List Nat} (h:qG n f l=true):∀x∈l,x<n:=by
 cases f<;>simp only[qG,Bool.and_eq_true,List.all_eq_true,decide_eq_true_eq] at h<;>exact h.1
theorem Zu {n f:Nat} {l:List Nat} (h:qF n l=none):oz n f l=[l]:=by
 cases f<;>simp[oz,h]
theorem Zv {n f:Nat} {l m:List Nat} (Α:qG n f l=true) (h:qF n l=some m):∃g,f=g+1/\oz n f l=l::oz n g m/\qG n g m=true:=by
 cases f with
 | zero=>simp[qG,h] at Α
 | succ g=>exact⟨g,rfl,by simp[oz,h],by simp[qG,h] at Α;exact Α.2⟩
theorem Pu {l:List Nat} {i k:Nat} (h:i+k<=l.length):(m1 l i k).length=l.length:=by simp[m1];omega
theorem Zw {l:List Nat} {i:Nat} (h:i<l.length):m1 l i 1=l.set i (l[i]+1):=by
 unfold m1;rw[List.set_eq_take_append_cons_drop,if_pos h];simp[h]
theorem Zx {l:List Nat} {i k:Nat} (ς:0<k) (h:i+k<=l.length):(m1 l i k).getD (i+k-1) 0=l.getD i 0+k:=by
 unfold m1;have Δ:(l.take i).length=i:=by simp;omega
 rw[List.getD_eq_getElem?_getD,List.append_assoc,gl R,Δ,dE (by simp;omega)];have:i+k-1-i=k-1:=R;rw[this,List.getElem?_map,List.getElem?_range R];simp;omega
theorem Zy {l:List Nat} {i k:Nat} (h:i+k<l.length):(m1 l i k).set (i+k) (l.getD i 0+k+1)=m1 l i (k+1):=by
 unfold m1;have Δ:(l.take i++(List.range k).map λj=>l.getD i 0+1+j).length=i+k:=by simp;omega
 rw[List.set_append_right _ _ R,Δ,Nat.sub_self,List.range_succ,List.map_append];have Γ:l.drop (i+k)=l[i+k]::l.drop (i+k+1):=List.drop_eq_getElem_cons h;rw[Γ,List.set_cons_zero];simp;constructor<;>omega
end Go.TL
