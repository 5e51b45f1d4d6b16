import Derived.Conc.AtomicLaws2
import Derived.Conc.ClockLaws
import Derived.Conc.MarkLaws
import Derived.Test.YtlabjopijpkiaaaGreatQBA
import Derived.Test.YtlabjopijpkiaaaGreatQBD
set_option maxHeartbeats 16000000
set_option maxRecDepth 20000
set_option linter.unusedSectionVars false
set_option linter.unusedSimpArgs false
set_option linter.unusedVariables false
namespace Go.TL
open Go.Conc Go.Proofs
variable [bd]
section
variable {P:Program} {Q:Value→Prop} {mn:Bool} {x:gy} {cs rest:List Frame} {H:ψ} {b f c:Frame} {t:Array Value} {k:List Item} {fn:Func}
theorem ς.getLoop {L:Nat} {r:Loop} (h:H.obj L=some (.loop r)) {K:Loop→ψ→Prop} {E:Value→ψ→Prop} (υ:K r H):ς P (Instr.getLoop L) H K E:=by
 unfold Instr.getLoop;refine ς.bind' ?_;exact⟨_,h,rfl,ς.pure' υ⟩
theorem ς.Hd {L:Nat} {r r':Loop} (h:H.obj L=some (.loop r)) {K:Unit→ψ→Prop} {E:Value→ψ→Prop} (υ:K () (H.bD L (.loop r'))):ς P (setObj L (.loop r')) H K E:=
 ⟨⟨_,h⟩,rfl,rfl,ς.pure' υ⟩
abbrev MD (st:LoopState) (Wa:Option Code) (f:FuncId) (t:Array Value) (cK:Array Tmp) (a re:Code) (d:Nat):Loop:={state:=st,pending:=Wa,fn:=f,tmps:=t,params:=cK,assign:=a,body:=re,defers:=d}
theorem aJ.rangeFunc (δ:Seq x) (hb:b.mode=.run) (b7:b.roundOf=none) {fo:Operand} {cK:Array Tmp} {assign body:Code} {g:FuncId} {lZ:Array Value} (Wb:bk t fo=.func (.func g) #[] lZ) (Τ:Plain P g)
  (h:∀r1 r2,H.fresh r1→(H.bD r1 (.deferred (some []))).fresh r2→aJ P Q mn x (Frame.enter P g (#[.func (.yield r2) #[] #[]]++lZ) .normal) ({ao b t (.inRangeFunc r2::k) with defers:=⟨.collected r1,#[]⟩::b.defers}::cs)
   ((H.bD r1 (.deferred (some []))).bD r2 (.loop (MD .ready none b.fn t cK assign body r1)))) :
  aJ P Q mn x (ao b t (.code (.rangeFunc fo cK assign body)::k)) cs H:=by
 refine .own δ fun w Ρ=>?_;have ez:ς P (Instr.enterLoop b.fn t cK assign body none) H (fun v H'=>∃r1 r2,H.fresh r1∧(H.bD r1 (.deferred (some []))).fresh r2∧v=(r2,[⟨.collected r1,#[]⟩])∧H'=(H.bD r1 (.deferred (some []))).bD r2 (.loop (MD .ready none b.fn t cK assign body r1))) (fun _ _=>False):=by
  unfold Instr.enterLoop;refine ς.bind' (fun r1 R=>ς.pure' (ς.bind' (ς.pure' ?_)));refine ς.bind' (fun r2 γ=>ς.pure' (ς.pure' ?_));exact⟨r1,r2,R,γ,rfl,rfl⟩
 obtain⟨H',w',es',hu,hx⟩:=ς.sound (P:=P) (G0:=H) (w0:=w) _ ez (dz.start Ρ);rcases hx with⟨v,dD,r1,r2,R,γ,rfl,rfl⟩|⟨v,dD,c9⟩
 ·refine⟨_,_,w',seen P b.fn es',_,?_,hu.sub fun e he=>mem_seen he,h r1 r2 R γ⟩;have dm:∀F:Frame,F.tmps=t→resolve F.eval {callee:=.value fo,args:=#[.const (.func (.yield r2) #[] #[])],argTypes:=#[]} 0=Deferred.ofValue (.func (.func g) #[] lZ) #[.func (.yield r2) #[] #[]]:=fun F gx=>by
   have:F.eval fo=.func (.func g) #[] lZ:=by rw[←Wb,←gx];cases fo<;>rfl
   unfold resolve;simp only;rw[this];simp[Frame.eval]
  have hinv:((do let d ←Deferred.ofValue (.func (.func g) #[] lZ) #[.func (.yield r2) #[] #[]];invoke d.target d.args:Sem Next)).runT P w' #[]=(.ok (.enter g (#[.func (.yield r2) #[] #[]]++lZ)) w',#[]):=by
   have:=Τ.enter (#[.func (.yield r2) #[] #[]]++lZ) w';simpa[Deferred.ofValue,invoke] using this
  rw[iB hb];unfold stepG.exec;simp only[ao,b7,dD];rw[dm _ rfl];unfold stepG.apply;simp only[if_true,hinv];simp[GStep.after,Go.Conc.G,ao,seen_none]
 ·exact c9.elim
theorem aJ.ME (δ:Seq x) (hb:b.mode=.run) {L:Nat} {r:Loop} (aD:H.obj L=some (.loop r)) (ξ:r.state≠.busy)
  (h:aJ P Q mn x (ao b t ((r.pending.map Item.code).toList++k)) cs (H.bD L (.loop {r with state:=.exhausted}))):aJ P Q mn x (ao b t (.endRangeFunc L::k)) cs H:=by
 refine .own δ fun w Ρ=>?_;have ez:ς P (Instr.endLoop L) H (fun v H'=>v=r.pending∧H'=H.bD L (.loop {r with state:=.exhausted})) (fun _ _=>False):=by
  unfold Instr.endLoop;refine ς.bind' (ς.getLoop aD ?_);have e:(r.state==.busy)=false:=by cases Υ:r.state<;>first|rfl|exact absurd Υ ξ
  simp only[e,Bool.false_eq_true,if_false];exact ς.bind' (ς.Hd aD (ς.pure' ⟨rfl,rfl⟩))
 obtain⟨H',w',es',hu,hx⟩:=ς.sound (P:=P) (G0:=H) (w0:=w) _ ez (dz.start Ρ);rcases hx with⟨v,dD,rfl,rfl⟩|⟨v,dD,c9⟩
 ·refine⟨_,_,w',seen P b.fn es',_,?_,hu.sub fun e he=>mem_seen he,h⟩;rw[iB hb];unfold stepG.exec;simp only[ao,dD];simp[GStep.after,Go.Conc.G]
 ·exact c9.elim
theorem aJ.beginRound (δ:Seq x) (hb:b.mode=.run) {L:Nat} (b7:b.roundOf=some L) {r:Loop} (aD:H.obj L=some (.loop r)) (ξ:r.state=.ready)
  (h:aJ P Q mn x (ao b t k) cs (H.bD L (.loop {r with state:=.busy}))):aJ P Q mn x (ao b t (.beginRound::k)) cs H:=by
 refine .own δ fun w Ρ=>?_;have ez:ς P (Instr.beginRound L) H (fun _ H'=>H'=H.bD L (.loop {r with state:=.busy})) (fun _ _=>False):=by
  unfold Instr.beginRound;refine ς.bind' (ς.getLoop aD (ς.bind' (ς.Hd aD ?_)));rw[ξ];exact ς.pure' rfl
 have Wc:ς P (do Instr.beginRound L;pure Next.skip:Sem Next) H (fun v H'=>v=.skip∧H'=H.bD L (.loop {r with state:=.busy})) (fun _ _=>False):=
  ς.bind' (ς.mono (fun _ _ e=>ς.pure' ⟨rfl,e⟩) (fun _ _ h=>h) _ ez)
 obtain⟨H',w',es',hu,hx⟩:=ς.sound (P:=P) (G0:=H) (w0:=w) _ Wc (dz.start Ρ);rcases hx with⟨v,dD,rfl,rfl⟩|⟨v,dD,c9⟩
 ·generalize fD:(if b.kind==.early then #[] else es')=m8;have ju:∀e∈seen P b.fn m8,e∈es':=fun e he=>by
   have:=mem_seen he;rw[←fD] at this;split at this
   ·simp at this
   ·exact this
  refine⟨_,_,w',seen P b.fn m8,_,?_,hu.sub ju,h⟩;rw[iB hb];unfold stepG.exec;simp only[ao,b7,Option.elim];unfold stepG.apply;simp only[if_true,dD];rw[fD];simp[GStep.after,Go.Conc.G,Frame.finish]
 ·exact c9.elim
theorem aJ.endRound (δ:Seq x) (hb:b.mode=.run) {L:Nat} (b7:b.roundOf=some L) (υ:b.kind=.normal) {r:Loop} (aD:H.obj L=some (.loop r)) {jump:Option Code} (ε:(jump=none∧k=[])∨(jump=some .ret∧∃Ω,k=.code .ret::Ω)∨∃id Ω,jump=some (.exit id)∧k=.code (.exit id)::Ω∧exitTo id Ω=none)
  (h:aJ P Q mn x (c.finish (.bool jump.isNone)) rest (H.bD L (.loop {r with state:=if jump.isNone then .ready else .done,pending:=jump}))):aJ P Q mn x (ao b t k) (c::rest) H:=by
 refine .own δ fun w Ρ=>?_;have ez:ς P (Instr.endRound L jump) H (fun v H'=>v=.bool jump.isNone∧H'=H.bD L (.loop {r with state:=if jump.isNone then .ready else .done,pending:=jump})) (fun _ _=>False):=by
  unfold Instr.endRound;exact ς.bind' (ς.getLoop aD (ς.bind' (ς.Hd aD (ς.pure' ⟨rfl,rfl⟩))))
 obtain⟨H',w',es',hu,hx⟩:=ς.sound (P:=P) (G0:=H) (w0:=w) _ ez (dz.start Ρ);rcases hx with⟨v,dD,rfl,rfl⟩|⟨v,dD,c9⟩
 ·refine⟨_,_,w',seen P b.fn es',_,?_,hu.sub fun e he=>mem_seen he,h⟩;rw[iB hb];unfold stepG.exec;rcases ε with⟨rfl,rfl⟩|⟨rfl,Ω,rfl⟩|⟨id,Ω,rfl,rfl,he⟩
  ·simp only[ao,b7,dD];simp[GStep.after,Go.Conc.G,doReturn,υ]
  ·simp only[ao,b7,dD];simp[GStep.after,Go.Conc.G,doReturn,υ]
  ·simp only[ao,b7,he,Option.elim,dD];simp[GStep.after,Go.Conc.G,doReturn,υ]
 ·exact c9.elim
theorem aJ.collected (δ:Seq x) (hm:f.mode=.returning) {r:Nat} {ds:List Deferred} (hd:f.defers=⟨.collected r,#[]⟩::ds) (κ:H.obj r=some (.deferred (some [])))
  (h:aJ P Q mn x {f with defers:=ds} cs (H.bD r (.deferred none))):aJ P Q mn x f cs H:=by
 refine .own δ fun w Ρ=>?_;have ez:ς P (Instr.takeDeferred r) H (fun v H'=>v=[]∧H'=H.bD r (.deferred none)) (fun _ _=>False):=by
  unfold Instr.takeDeferred;refine ς.bind' ?_;exact⟨_,κ,rfl,ς.pure' (ς.bind' ⟨⟨_,κ⟩,rfl,rfl,ς.pure' (ς.pure' ⟨rfl,rfl⟩)⟩)⟩
 obtain⟨H',w',es',hu,hx⟩:=ς.sound (P:=P) (G0:=H) (w0:=w) _ ez (dz.start Ρ);rcases hx with⟨v,dD,rfl,rfl⟩|⟨v,dD,c9⟩
 ·refine⟨_,_,w',seen P f.fn es',_,?_,hu.sub fun e he=>mem_seen he,h⟩;rw[vW (by rw[hm];simp)];unfold unwind;simp only[hd,dD];simp[GStep.after,Go.Conc.G]
 ·exact c9.elim
end
end Go.TL
namespace Go.TL
open Go.Conc
open Go.ConcM (OsLater)
open Go.ConcN (sumTo upd sumTo_upd upd_ne upd_same sumTo_congr le_sumTo)
open Go.ConcR (mk)
variable [bd]
theorem gf {b:Frame} (hb:b.mode=.run) (κ:b.roundOf=none) (t:Array Value) (k:List Item):ao b t k=b.at ⟨t,b.defers⟩ k:=by
 obtain⟨fn,vV,td,RX,sD,kd,ro⟩:=b;simp only at hb κ;subst hb;subst κ;rfl
theorem te (o:Oper) (t:Array Value) (ds:List Deferred) (v:Value):(⟨t,ds⟩:_root_.Go.Act).put o.dst v=⟨put o t v,ds⟩:=by
 unfold _root_.Go.Act.put put;cases o.dst<;>rfl
theorem k' (t:Array Value) (ds:List Deferred):(⟨t,ds⟩:_root_.Go.Act).eval=bk t:=by funext o;cases o<;>rfl
def Entry (P:Program) (f:FuncId) (e:Array Value→Sem Value):Prop:=∃fn,P.funcs[f]?=some fn∧(fn.name == "runtime.NumGoroutine")=false∧fn.body.isNone=true∧Extern.findNext fn=none∧Extern.find fn=some e
structure l3 (b:Frame) (ops:Array Oper) (i:Nat) (op:Oper):Prop where
 run:b.mode=.run
 ro:b.roundOf=none
 kd:b.kind≠.early
 op:ops[i]?=some op
def eE (x:aR):Prop:=x.rel=false∨∃s,¬Gone (x.tok s)
theorem eE.ok {P:Program} {g:Goroutine} {x:aR} (h:eE x):x0 P g x:=fun R γ=>by
 rcases h with h|⟨s,h⟩
 ·rw[h] at R;cases R
 ·exact absurd (γ s) h
def one (x:aR):gy:=fun y=>y=x
@[reducible] def eF:bd:=⟨fun _=>True⟩
theorem Seq.tf {x:aR} (Υ:bd.q (one x)) (κ:x.rel=false) (hv:x.aC=fun _=>none):Seq (one x):=⟨Υ,fun y h=>by cases h;exact κ,fun y h=>by cases h;exact hv⟩
theorem Seq.here {x:aR} (h:Seq (one x)):eE x:=.inl (h.rel x rfl)
section
variable {P:Program} {Q:Value→Prop} {mn:Bool} {x:aR} {b:Frame} {cs:List Frame} {nt:Nat} {o:Base} {k:List Item} {env:Χ} {σ:List Row} {S:aA} {B:aN} {H:ψ} {t:Array Value}
variable {ops:Array Oper} {i:Nat} {rest:List Nat} {op:Oper} {f:FuncId} {e:Array Value→Sem Value} {args:Array Operand} {dL:Array TypeId} {w w':World}
theorem C3 (he:Entry P f e) (bO:l3 b ops i op) (hw:Region.wanted op (yielded ops t)=true) (Κ:op.op=.call ⟨.value (.func f),args,dL⟩) {vs:Array Value} (px:args.map (bk t)=vs) {v:Value} {fQ:Array Event}
  (dD:(e vs).run P w=.ok v w') (dm:(e vs).events P w #[⟨.mark (Mark.extern f),false,true⟩]=#[⟨.mark (Mark.extern f),false,true⟩]++fQ) (ξ:∀y∈fQ,y.sync=true∧∀g,y.loc≠.mark (Mark.extern g)) :
  stepG P mn (Go.Conc.G (ao b t (.inRegion ops (i::rest)::k)) cs) w=.go (Go.Conc.G (ao b (put op t v) (.inRegion ops rest::k)) cs) w' fQ:=by
 obtain⟨fn,R,γ,ο,Ι,ay⟩:=he;rw[gf bO.run bO.ro,gf bO.run bO.ro,←te];exact stepG_entry (a:=⟨t,b.defers⟩) bO.op hw bO.kd Κ R γ ο Ι ay (by rw[k',px];exact dD) (by rw[k',px];exact dm) ξ
theorem Wd (he:Entry P f e) (bO:l3 b ops i op) (hw:Region.wanted op (yielded ops t)=true) (Κ:op.op=.call ⟨.value (.func f),args,dL⟩) {vs:Array Value} (px:args.map (bk t)=vs)
  (dD:(e vs).run P w=.halt .blocked w') :
  stepG P mn (Go.Conc.G (ao b t (.inRegion ops (i::rest)::k)) cs) w=.go {Go.Conc.G (ao b t (.inRegion ops (i::rest)::k)) cs with status:=.blocked} w' #[]:=by
 obtain⟨fn,R,γ,ο,Ι,ay⟩:=he;rw[gf bO.run bO.ro];exact stepG_entry_blocked (a:=⟨t,b.defers⟩) bO.op hw Κ R γ ο Ι ay (by rw[k',px];exact dD)
theorem MF (he:Entry P f e) (bO:l3 b ops i op) (Κ:op.op=.call ⟨.value (.func f),args,dL⟩):mayWake P (Go.Conc.G (ao b t (.inRegion ops (i::rest)::k)) cs)=true:=by
 obtain⟨fn,R,γ,ο,Ι,ay⟩:=he;have a6:fn.body=none:=by simpa using ο
 have MG:(ao b t (.inRegion ops (i::rest)::k)).eval (.func f)=.func (.func f) #[] #[]:=rfl;simp[mayWake,Go.Conc.G,ao,bO.run,bO.op,Κ] at MG ⊢;simp[MG,R,a6]
def zv (env:Χ) (args:Array Operand) (vs:List Value):Prop:=args.toList.map (aL env)=vs.map θ.z
theorem C4 (ξ:c7 S B σ env t) {y:Operand} {v:Value} (h:aL env y=.z v):bk t y=v:=by
 have:=kW ξ y;rw[h] at this;generalize bk t y=u at this;cases this;rfl
theorem zv.bk (ξ:c7 S B σ env t) {vs:List Value} (h:zv env args vs):args.map (bk t)=vs.toArray:=by
 apply Array.ext';rw[Array.toList_map];have:∀(l:List Operand) (vs:List Value),l.map (aL env)=vs.map θ.z→l.map (Go.TL.bk t)=vs:=by
  intro l
  induction l with
  | nil=>intro vs h;cases vs with
   | nil=>rfl
   | cons=>cases h
  | cons y l Γ=>
   intro vs h;cases vs with
   | nil=>cases h
   | cons v vs=>
    simp only[List.map_cons,List.cons.injEq] at h ⊢;exact⟨C4 ξ h.1,Γ vs h.2⟩
 exact this _ _ h
theorem C5 (m:Mark):((fun _=>do mark m;pure Extern.Race.none_:Array Value→Sem Value) #[]).run P w=.ok (.tuple #[]) w:=by simp[Extern.Race.none_]
theorem C6 (m:Mark) (es:Array Event):((fun _=>do mark m;pure Extern.Race.none_:Array Value→Sem Value) #[]).events P w es=es.push ⟨.mark m,false,true⟩:=by simp
theorem wV (m:Addr→Mark) (cn:Addr):(Extern.Race.marked m #[.pointer (some cn)]).run P w=.ok (.tuple #[]) w:=by simp[Extern.Race.marked,Extern.Race.at_,Extern.Race.none_]
theorem wW (m:Addr→Mark) (cn:Addr) (es:Array Event):(Extern.Race.marked m #[.pointer (some cn)]).events P w es=es.push ⟨.mark (m cn),false,true⟩:=by simp[Extern.Race.marked,Extern.Race.at_]
theorem qB {m:Mark} (hm:∀g,m≠Mark.extern g):∀y∈(#[⟨.mark m,false,true⟩]:Array Event),y.sync=true∧∀g,y.loc≠.mark (Mark.extern g):=by
 intro y Ο;simp at Ο;subst Ο;exact⟨rfl,fun g h=>hm g (by cases h;rfl)⟩
structure gC (P:Program) (b:Frame) (ops:Array Oper) (i:Nat) (op:Oper) (f:FuncId) (e:Array Value→Sem Value) (args:Array Operand) (env:Χ) (vs:List Value) (nt:Nat):Prop where
 at_:l3 b ops i op
 nm:Entry P f e
 call:∃dL,op.op=.call ⟨.value (.func f),args,dL⟩
 want:fp env ops op=some true
 dst:hB nt op=true
 zw:zv env args vs
theorem gC.step {vs:List Value} (h:gC P b ops i op f e args env vs nt) (ξ:c7 S B σ env t) {v:Value} {fQ:Array Event} (dD:(e vs.toArray).run P w=.ok v w')
  (dm:(e vs.toArray).events P w #[⟨.mark (Mark.extern f),false,true⟩]=#[⟨.mark (Mark.extern f),false,true⟩]++fQ) (We:∀y∈fQ,y.sync=true∧∀g,y.loc≠.mark (Mark.extern g)) :
  stepG P mn (Go.Conc.G (ao b t (.inRegion ops (i::rest)::k)) cs) w=.go (Go.Conc.G (ao b (put op t v) (.inRegion ops rest::k)) cs) w' fQ:=
 let ⟨_,Κ⟩:=h.call
 C3 h.nm h.at_ (jx ξ h.want) Κ (h.zw.bk ξ) dD dm We
abbrev nB:θ:=.z (.tuple #[])
theorem V.disable (δ:eE x) (h:gC P b ops i op f (fun _=>do mark .disable;pure Extern.Race.none_) args env [] nt) (υ:V P Q mn (one {x with deaf:=x.deaf+1}) b cs nt o (.inRegion ops rest::k) (b5 op env nB) σ):V P Q mn (one x) b cs nt o (.inRegion ops (i::rest)::k) env σ:=
 fun S B H t μ χ y Ο=>by
 cases Ο;exact Goes.step δ.ok (.inr ⟨⟨rfl,rfl⟩,.inr (.inl ⟨Go.Conc.G (ao b (put op t (.tuple #[])) (.inRegion ops rest::k)) cs,⟨rfl,rfl⟩,.inl fun w _=>
  ⟨h.step χ.cj (C5 .disable) (C6 .disable _) (qB (by simp)),υ S B H _ μ (χ.put h.dst (.z _)) _ rfl⟩⟩)⟩)
theorem V.enable (δ:eE x) (hd:0<x.deaf) (h:gC P b ops i op f (fun _=>do mark .enable;pure Extern.Race.none_) args env [] nt) (υ:V P Q mn (one {x with deaf:=x.deaf-1}) b cs nt o (.inRegion ops rest::k) (b5 op env nB) σ):V P Q mn (one x) b cs nt o (.inRegion ops (i::rest)::k) env σ:=
 fun S B H t μ χ y Ο=>by
 cases Ο;exact Goes.step δ.ok (.inr ⟨⟨rfl,rfl⟩,.inr (.inl ⟨Go.Conc.G (ao b (put op t (.tuple #[])) (.inRegion ops rest::k)) cs,⟨rfl,rfl⟩,.inr ⟨hd,fun w _=>
  ⟨h.step χ.cj (C5 .enable) (C6 .enable _) (qB (by simp)),υ S B H _ μ (χ.put h.dst (.z _)) _ rfl⟩⟩⟩)⟩)
theorem V.Wf (δ:x.rel=false) {s off n p:Nat} {aB:qX} (Μ:x.tok s=.par n p aB) (jL:aB≠.bw) (h:gC P b ops i op f (Extern.Race.marked .read) args env [.pointer (some ⟨s,off,none⟩)] nt) (υ:V P Q mn (one x) b cs nt o (.inRegion ops rest::k) (b5 op env nB) σ):V P Q mn (one x) b cs nt o (.inRegion ops (i::rest)::k) env σ:=
 fun S B H t μ χ y Ο=>by
 cases Ο;exact Goes.step (eE.ok (.inl δ)) (.inr ⟨⟨rfl,rfl⟩,.inr (.inr (.inl ⟨s,n,p,aB,Go.Conc.G (ao b (put op t (.tuple #[])) (.inRegion ops rest::k)) cs,off,false,Μ,jL,δ,⟨rfl,rfl⟩,fun w _=>
  ⟨h.step χ.cj (wV .read _) (wW .read _ _) (qB (by simp)),υ S B H _ μ (χ.put h.dst (.z _)) _ rfl⟩⟩))⟩)
theorem V.Wg (δ:x.rel=false) {s off n p:Nat} {aB:qX} (Μ:x.tok s=.par n p aB) (jL:aB≠.bw) (h:gC P b ops i op f (Extern.Race.marked .write) args env [.pointer (some ⟨s,off,none⟩)] nt) (υ:V P Q mn (one x) b cs nt o (.inRegion ops rest::k) (b5 op env nB) σ):V P Q mn (one x) b cs nt o (.inRegion ops (i::rest)::k) env σ:=
 fun S B H t μ χ y Ο=>by
 cases Ο;exact Goes.step (eE.ok (.inl δ)) (.inr ⟨⟨rfl,rfl⟩,.inr (.inr (.inl ⟨s,n,p,aB,Go.Conc.G (ao b (put op t (.tuple #[])) (.inRegion ops rest::k)) cs,off,true,Μ,jL,δ,⟨rfl,rfl⟩,fun w _=>
  ⟨h.step χ.cj (wV .write _) (wW .write _ _) (qB (by simp)),υ S B H _ μ (χ.put h.dst (.z _)) _ rfl⟩⟩))⟩)
theorem V.A5 (δ:x.rel=false) (hd:x.deaf=0) {s m n:Nat} {sp:Spec} (bQ:x.spec s=some sp) (hm:sp.aQ=some m) (Μ:x.tok s=.ch n .own .work) (h:gC P b ops i op f (Extern.Race.marked .acquire) args env [.pointer (some ⟨m,0,none⟩)] nt)
  (υ:∀(S:aA) (B:aN) (H:ψ) (t:Array Value) (L:List Nat) (E:ψ),eO o.m o.S o.B o.H o.σ S B H σ→fj o.m nt S B H σ (b5 op env nB) t→sp.aG L E→Apart H E→(L.Nodup∧n∉L∧∃w,Fits H w∧Fits E w)→
   cf P Q mn {x with tok:=upd x.tok s (.ch n (.c5 L) .work),view:=upd x.view s none} (ao b t (.inRegion ops rest::k)) cs (join H E)):V P Q mn (one x) b cs nt o (.inRegion ops (i::rest)::k) env σ:=
 fun S B H t μ χ y Ο=>by
 cases Ο;exact Goes.step (eE.ok (.inl δ)) (.inr ⟨⟨rfl,rfl⟩,.inr (.inr (.inr (.inr (.inl ⟨s,sp,m,n,Go.Conc.G (ao b (put op t (.tuple #[])) (.inRegion ops rest::k)) cs,bQ,hm,Μ,hd,⟨rfl,rfl⟩,δ,fun w _=>
  h.step χ.cj (wV .acquire _) (wW .acquire _ _) (qB (by simp)),fun L E da h5 hw=>υ S B H _ L E μ (χ.put h.dst (.z _)) da h5 hw⟩))))⟩)
theorem V.E3 (δ:x.rel=false) (hd:x.deaf=0) {s m n:Nat} {L:List Nat} {sp:Spec} (bQ:x.spec s=some sp) (hm:sp.aQ=some m) (Μ:x.tok s=.ch n (.c5 L) .work) (h:gC P b ops i op f (Extern.Race.marked .releaseMerge) args env [.pointer (some ⟨m,0,none⟩)] nt)
  (υ:∀(S:aA) (B:aN) (H:ψ) (t:Array Value),eO o.m o.S o.B o.H o.σ S B H σ→fj o.m nt S B H σ (b5 op env nB) t→∃H' E,Split H H' E∧sp.aG (L++[n]) E∧
   cf P Q mn {x with tok:=upd x.tok s (.ch n .fin .work),view:=upd x.view s none} (ao b t (.inRegion ops rest::k)) cs H'):V P Q mn (one x) b cs nt o (.inRegion ops (i::rest)::k) env σ:=
 fun S B H t μ χ y Ο=>by
 cases Ο;obtain⟨H',E,R,γ,ο⟩:=υ S B H _ μ (χ.put h.dst (.z (.tuple #[])));exact Goes.step (eE.ok (.inl δ)) (.inr ⟨⟨rfl,rfl⟩,.inr (.inr (.inr (.inr (.inr (.inl ⟨s,sp,m,n,L,Go.Conc.G (ao b (put op t (.tuple #[])) (.inRegion ops rest::k)) cs,H',E,bQ,hm,Μ,hd,⟨rfl,rfl⟩,δ,fun w _=>
  h.step χ.cj (wV .releaseMerge _) (wW .releaseMerge _ _) (qB (by simp)),R,γ,ο⟩)))))⟩)
theorem V.A6 (δ:x.rel=false) (hd:x.deaf=0) {s n:Nat} {aB:qX} {sp:Spec} (bQ:x.spec s=some sp) (Μ:x.tok s=.par n 0 aB) (jL:aB=.lp∨aB=.w4) (h:gC P b ops i op f (Extern.Race.marked .acquire) args env [.pointer (some ⟨s,0,none⟩)] nt)
  (υ:∀(S:aA) (B:aN) (H:ψ) (t:Array Value) (fM fh:List Nat) (gj ej:ψ),eO o.m o.S o.B o.H o.σ S B H σ→fj o.m nt S B H σ (b5 op env nB) t→
   fM.Perm (List.range n)→kM sp.D fM gj→(sp.aQ≠none→fh.Perm (List.range n)∧sp.aG fh ej)→(sp.aQ=none→ej=ψ.empty)→Apart H gj→Apart H ej→Apart gj ej→(∃w,Fits H w∧Fits gj w∧Fits ej w)→
   cf P Q mn {x with tok:=upd x.tok s (.par n 0 .bw),view:=upd x.view s none} (ao b t (.inRegion ops rest::k)) cs (join (join H gj) ej)):V P Q mn (one x) b cs nt o (.inRegion ops (i::rest)::k) env σ:=
 fun S B H t μ χ y Ο=>by
 cases Ο;exact Goes.step (eE.ok (.inl δ)) (.inr ⟨⟨rfl,rfl⟩,.inr (.inr (.inr (.inr (.inr (.inr (.inr (.inl ⟨s,sp,n,aB,Go.Conc.G (ao b (put op t (.tuple #[])) (.inRegion ops rest::k)) cs,bQ,Μ,jL,hd,⟨rfl,rfl⟩,δ,fun w _=>
  h.step χ.cj (wV .acquire _) (wW .acquire _ _) (qB (by simp)),fun fM fh gj ej a1 bg cv fK ha lx tJ si=>υ S B H _ fM fh gj ej μ (χ.put h.dst (.z _)) a1 bg cv fK ha lx tJ si⟩)))))))⟩)
theorem V.atomic (δ:eE x) {s:Nat} {sp:Spec} (bQ:x.spec s=some sp) (cM:¬fC (x.tok s)) (hd:hB nt op=true) (hw:fp env ops op=some true)
  (h:∀(t:Array Value) (w:World) (φ:Nat) (π:aK),(∀y u,aL env y=.z u→bk t y=u)→(∀(as9:Array Operand) (vs:List Value),zv env as9 vs→as9.map (bk t)=vs.toArray)→Region.wanted op (yielded ops t)=true→π.toSpec=sp→At s π w→EC x s φ π→tM π (x.tok s)→
   (∃v w' fQ,stepG P mn (Go.Conc.G (ao b t (.inRegion ops (i::rest)::k)) cs) w=.go (Go.Conc.G (ao b (put op t v) (.inRegion ops rest::k)) cs) w' fQ∧fe (fun Φ _=>dW s sp Φ) (fun _=>False) w w'∧nR s sp x.deaf fQ∧
    ((At s π w'∧V P Q mn (one {x with view:=upd x.view s (some (φ,π))}) b cs nt o (.inRegion ops rest::k) (b5 op env (.z v)) σ)∨
     ∃o' t',Act π (x.tok s) o' t'∧At s o' w'∧(mayWake P (Go.Conc.G (ao b t (.inRegion ops (i::rest)::k)) cs)=true∨o'=π)∧∀cb,cb<φ→V P Q mn (one {x with tok:=upd x.tok s t',view:=upd x.view s (some (cb,o'))}) b cs nt o (.inRegion ops rest::k) (b5 op env (.z v)) σ))∨
   (jr π (x.tok s)∧(∀bj,bj≠s→ml (x.tok bj))∧stepG P mn (Go.Conc.G (ao b t (.inRegion ops (i::rest)::k)) cs) w=.go {Go.Conc.G (ao b t (.inRegion ops (i::rest)::k)) cs with status:=.blocked} w #[])) :
  V P Q mn (one x) b cs nt o (.inRegion ops (i::rest)::k) env σ:=by
 intro S B H t μ χ y Ο;cases Ο;refine Goes.step δ.ok (.inr ⟨⟨rfl,rfl⟩,.inr (.inr (.inr (.inl ⟨s,sp,bQ,cM,fun w φ π Ρ hv Β bx x1 He=>?_⟩)))⟩);rcases h t w φ π (fun y u Ο=>C4 χ.cj Ο) (fun as9 vs px=>px.bk χ.cj) (jx χ.cj hw) Β bx x1 He with⟨v,w',fQ,R,γ,ο,Ι⟩|⟨R,γ,ο⟩
 ·refine .inl ?_;rw[R];refine⟨⟨rfl,rfl⟩,γ,ο,?_⟩;rcases Ι with⟨ay,a6⟩|⟨o',t',ay,a6,gv,m2⟩
  ·exact .inl ⟨ay,a6 S B H _ μ (χ.put hd (.z _)) _ rfl⟩
  ·exact .inr ⟨o',t',ay,a6,gv,fun cb ec=>m2 cb ec S B H _ μ (χ.put hd (.z _)) _ rfl⟩
 ·exact .inr ⟨R,γ,ο⟩
theorem MH {cU off:Nat} {c:Array Value} {ty:TypeId} (hb:w.heap[cU]?=some (.cells c ty (0,0))) (v:Value) {own:Nat→Nat→Prop} (fF:∀o,own cU o):fe own (fun _=>False) w (w.setCell ⟨cU,off,none⟩ v):=by
 have aS:=heap_setCell (w:=w) (a:=⟨cU,off,none⟩) (v:=v) rfl hb
 have aE:=ff hb
 have Co:(w.setCell ⟨cU,off,none⟩ v).os=w.os:=rfl;refine⟨by rw[aS];simp,fun Φ c' t' KB dv=>?_,fun Φ y dv Ο _=>?_,by rw[Co];exact OsLater.refl _,rfl,rfl⟩
 ·by_cases e:Φ=cU
  ·subst e;rw[hb] at dv;cases dv;exact⟨_,by rw[aS,Array.getElem?_setIfInBounds_self_of_lt aE],by simp,fun o' iX=>absurd (fF o') iX⟩
  ·exact⟨c',by rw[aS,Array.getElem?_setIfInBounds_ne (Ne.symm e)];exact dv,rfl,fun _ _=>rfl⟩
 ·have e:cU≠Φ:=fun e=>by subst e;rw[hb] at dv;cases dv;cases Ο
  rw[aS,Array.getElem?_setIfInBounds_ne e];exact dv
section
variable {s m:Nat} {π o':aK}
theorem At.ne (h:At s π w) (hm:π.aQ=some m):m≠s:=fun e=>by
 obtain⟨⟨ty,R⟩,γ⟩:=h;obtain⟨iS,ο⟩:=γ m hm;subst e;rw[R] at ο;simp at ο
theorem At.mu (h:At s π w) (hm:π.aQ=some m):∃ty,w.heap[m]?=some (.cells #[.int .i32 (mwd π),.int .u32 π.cR] ty (0,0)):=h.2 m hm
theorem At.du (h:At s π w) (hm:π.aQ=some m):w.cell? ⟨m,0,none⟩=some (.int .i32 (mwd π)):=let ⟨_,R⟩:=h.mu hm;mX R rfl
theorem At.eH (h:At s π w) (hm:π.aQ=some m):w.cell? ⟨m,1,none⟩=some (.int .u32 π.cR):=let ⟨_,R⟩:=h.mu hm;mX R rfl
theorem At.cH (h:At s π w):w.cell? ⟨s,0,none⟩=some (.int .u64 (cF π)):=let ⟨_,R⟩:=h.1;mX R rfl
theorem At.Ξ (h:At s π w):w.cell? ⟨s,1,none⟩=some (.int .u32 π.cz):=let ⟨_,R⟩:=h.1;mX R rfl
theorem MI {cU off:Nat} {c:Array Value} {ty:TypeId} (hb:w.heap[cU]?=some (.cells c ty (0,0))):w.frozen? ⟨cU,off,none⟩=false:=by
 simp[World.frozen?,hb]
theorem At.wX (h:At s π w) (hm:π.aQ=some m) (off:Nat):w.frozen? ⟨m,off,none⟩=false:=let ⟨_,R⟩:=h.mu hm;MI R
theorem At.tg (h:At s π w) (off:Nat):w.frozen? ⟨s,off,none⟩=false:=let ⟨_,R⟩:=h.1;MI R
theorem At.C7 (h:At s π w) (hm:π.aQ=some m) (c0:o'.aQ=π.aQ) (Τ:cF o'=cF π) (hw:o'.cz=π.cz) {off:Nat} {v:Value} (hv:(#[.int .i32 (mwd π),.int .u32 π.cR]:Array Value).setIfInBounds off v=#[.int .i32 (mwd o'),.int .u32 o'.cR]):At s o' (w.setCell ⟨m,off,none⟩ v):=by
 have bu:=h.ne hm;obtain⟨iS,ο⟩:=h.mu hm;obtain⟨⟨ty,R⟩,γ⟩:=h;have aS:=heap_setCell (w:=w) (a:=⟨m,off,none⟩) (v:=v) rfl ο;refine⟨⟨ty,?_⟩,fun bW jj=>⟨iS,?_⟩⟩
 ·rw[aS,Array.getElem?_setIfInBounds_ne bu,Τ,hw];exact R
 ·rw[c0,hm] at jj;cases jj;rw[aS,Array.getElem?_setIfInBounds_self_of_lt (ff ο),hv]
theorem At.wY (h:At s π w) (c0:o'.aQ=π.aQ) (Τ:mwd o'=mwd π) (hw:o'.cR=π.cR) {off:Nat} {v:Value} (hv:(#[.int .u64 (cF π),.int .u32 π.cz]:Array Value).setIfInBounds off v=#[.int .u64 (cF o'),.int .u32 o'.cz]):At s o' (w.setCell ⟨s,off,none⟩ v):=by
 have bu:=fun m hm=>h.ne (m:=m) hm;obtain⟨⟨ty,R⟩,γ⟩:=h;have aS:=heap_setCell (w:=w) (a:=⟨s,off,none⟩) (v:=v) rfl R;refine⟨⟨ty,?_⟩,fun bW jj=>?_⟩
 ·rw[aS,Array.getElem?_setIfInBounds_self_of_lt (ff R),hv]
 ·rw[c0] at jj;obtain⟨iS,ο⟩:=γ bW jj;exact⟨iS,by rw[aS,Array.getElem?_setIfInBounds_ne (Ne.symm (bu bW jj)),Τ,hw];exact ο⟩
theorem At.C8 (h:At s π w) (hm:π.aQ=some m) {sp:Spec} (ξ:sp.aQ=some m) {off:Nat} (v:Value):fe (fun Φ _=>dW s sp Φ) (fun _=>False) w (w.setCell ⟨m,off,none⟩ v):=
 let ⟨_,R⟩:=h.mu hm;MH R v fun _=>.inr ξ
theorem At.wZ (h:At s π w) {sp:Spec} {off:Nat} (v:Value):fe (fun Φ _=>dW s sp Φ) (fun _=>False) w (w.setCell ⟨s,off,none⟩ v):=
 let ⟨_,R⟩:=h.1;MH R v fun _=>.inl rfl
end
theorem MJ {s d:Nat} {sp:Spec}:nR s sp d #[]:=⟨rfl,fun j e h=>by simp at h⟩
theorem qC {s cU off d:Nat} {sp:Spec} {es:Array Event} (hb:dW s sp cU) (hd:0<d) (ξ:∀y∈es,y.loc=.cell ⟨cU,off,none⟩∧y.sync=true):nR s sp d es:=by
 have sF:∀(es:Array Event),(∀y∈es,y.loc=.cell ⟨cU,off,none⟩∧y.sync=true)→deafBehind d es=d:=by
  intro es;obtain⟨l⟩:=es;intro h;unfold deafBehind;simp only[List.foldl_toArray']
  induction l with
  | nil=>rfl
  | cons y l Γ=>
   simp only[List.foldl_cons];have:=h y (by simp);rw[this.1];exact Γ fun z Ν=>h z (by simp at Ν ⊢;exact .inr Ν)
 refine⟨sF es ξ,fun j y Ο=>.inr (.inr ⟨cU,off,y.write,?_,hb,?_⟩)⟩
 ·have:=ξ y (Array.mem_of_getElem? Ο);obtain⟨l,w1,s1⟩:=y;simp only at this;rw[this.1,this.2]
 ·rw[sF]
  ·exact hd
  ·intro z Ν;exact ξ z (by
    rw[Array.mem_iff_getElem?] at Ν ⊢;obtain⟨q,Υ⟩:=Ν;rw[Array.getElem?_extract] at Υ;split at Υ
    ·exact⟨_,Υ⟩
    ·cases Υ)
end
end Go.TL
