import Derived.Conc.QuitsD
import Derived.Conc.SmallLaws
import Derived.Test.YtlabjopijpkiaaaGreatQAT
set_option maxHeartbeats 16000000
set_option maxRecDepth 20000
set_option linter.unusedSectionVars false
set_option linter.unusedSimpArgs false
set_option linter.unusedVariables false
namespace Go.TL
open Go.Conc
open Go.ConcM (OsLater)
open Go.ConcN (sumTo upd sumTo_upd upd_ne upd_same sumTo_congr le_sumTo)
open Go.ConcR (mk)
variable [bn]
section
variable {P:Program} {T:bd} {Q:Value->Prop} {mn:Bool} {x:aU} {z:gL} {b:Frame} {cs:List Frame} {nt:Nat} {o:Base} {k:List Item} {env:Ω} {σ:List Row}
variable {ops:Array Oper} {i:Nat} {rest:List Nat} {op:Oper} {f:FuncId} {e:Array Value->Sem Value} {args:Array Operand} {vs:List Value} {fn:Func}
theorem mH {S:aC} {B:aP} {l:List Value} {vs:Array Value} (h:fg S B σ (l.map θ.z) vs):vs=l.toArray:=by
 apply Array.ext';apply List.ext_getElem?;intro i;have J:=h.1;rw[List.length_map] at J;by_cases hi:i<l.length
 ·have Ε:(l.map θ.z)[i]?=some (.z l[i]):=by rw[List.getElem?_map,a2 hi];rfl
  have Ζ:vs[i]?=some vs[i]:=e9 (by omega)
  have:=h.2 i _ _ Ε Ζ
  have:vs[i]=l[i]:=by generalize vs[i]=u at this;cases this;rfl
  rw[Array.getElem?_toList,Ζ,this];simp[hi]
 ·rw[Array.getElem?_toList,Array.getElem?_eq_none (by omega)];simp;omega
theorem V.call (U:Seq z) (bU:mG b ops i op) (hw:fA env ops op=some true) {y:Operand} {dW:Array TypeId} (Ν:op.op=.call ⟨.value y,args,dW⟩) {g:FuncId} {first captured:List θ} (Τ:aO env y=.fn (.func g) first captured) (Υ:Plain P g)
  (h:∀(S:aC) (B:aP) (H:ψ) (t:Array Value) (vs:Array Value),eJ o.m o.S o.B o.H o.σ S B H σ->ff o.m nt S B H σ env t->fg S B σ (first++args.toList.map (aO env)++captured) vs->
   aE P Q mn z (Frame.enter P g vs .normal) (au b t (.inRegion ops (i::rest)::k)::cs) H):V P Q mn z b cs nt o (.inRegion ops (i::rest)::k) env σ:=by
 intro S B H t ν ω;refine .op U bU.run bU.op (jX ω.b6 hw) (.inr λc=>by rw[Ν];simp) ?_;have e:execOp (br t) op=(do let d <-Deferred.ofValue (br t y) (args.map (br t));invoke d.target d.args):=by unfold execOp;rw[Ν];rfl
 rw[e];have bR:=lz ω.b6 y;have mq:=Ib ω.b6 args;rw[Τ] at bR;generalize br t y=an at bR;cases bR with
 | fn v1 v2 J γ π Μ=>
  refine υ.bind' (υ.pure' ?_);obtain⟨fn,bY,kL,DK⟩:=Υ;unfold invoke;simp only;unfold callFunc;refine υ.bind' ?_;show υ P (match P.funcs[g]? with|none=>_|some fn=>_) H _ _;rw[bY];simp only[kL,DK,Bool.false_eq_true,if_false];refine υ.pure' ?_;have r1:fg S B σ first v1:=⟨J,π⟩
  have r2:fg S B σ captured v2:=⟨γ,Μ⟩;exact h S B H t _ ν ω ((r1.append mq).append r2)
theorem V.p' {g:FuncId} {body:Code} (bY:P.funcs[g]?=some fn) (nf:fn.body=some body) {c:Frame} {S:aC} {B:aP} {H:ψ} (Β:Holds S B σ H) (Ι:vs.length<=fn.ntmps)
  (h:V P Q mn z (Frame.enter P g vs.toArray .normal) (c::cs) fn.ntmps ⟨S,[],H,[],0⟩ [.code body] (entry 0 (vs.map θ.z)) []):aE P Q mn z (Frame.enter P g vs.toArray .normal) (c::cs) H:=by
 rw[n4 bY nf];refine h.here (ff.enter Β.bare ⟨by simp,λi a v J γ=>?_⟩ (Nat.le_refl _) (by simpa using Ι));simp only[List.getElem?_map,List.getElem?_toArray] at J γ;rw[γ] at J;cases J;exact .z v
theorem V.Iy (U:Seq z) (hb:b.mode=.run) (cf:b.roundOf=none) (eo:b.defers=[]) (gq:b.kind=.normal) (bY:P.funcs[b.fn]?=some fn) (eY:fn.results=#[]) {c:Frame}
  (h:∀(S:aC) (B:aP) (H:ψ),eJ o.m o.S o.B o.H o.σ S B H σ->Holds S B σ H->aE P Q mn z (c.finish (.tuple #[])) cs H):V P Q mn z b (c::cs) nt o (.code .ret::k) env σ:=by
 intro S B H t ν ω;refine .ret U hb cf (.back U rfl eo (.inl gq) bY ?_);rw[results_none eY];exact υ.pure' (h S B H ν ω.holds)
theorem V.EA (U:Seq z) (hb:b.mode=.run) (cf:b.roundOf=none) (eo:b.defers=[]) (gq:b.kind=.normal) (bY:P.funcs[b.fn]?=some fn) (eY:fn.results=#[]) {c:Frame}
  (h:∀(S:aC) (B:aP) (H:ψ),eJ o.m o.S o.B o.H o.σ S B H σ->Holds S B σ H->aE P Q mn z (c.finish (.tuple #[])) cs H):V P Q mn z b (c::cs) nt o [] env σ:=by
 intro S B H t ν ω;refine .sa U hb cf (.back U rfl eo (.inl gq) bY ?_);rw[results_none eY];exact υ.pure' (h S B H ν ω.holds)
theorem V.sP (U:Seq z) (hb:b.mode=.run) (cf:b.roundOf=none) (eo:b.defers=[]) (gq:b.kind=.normal) (bY:P.funcs[b.fn]?=some fn) {d:Nat} (eY:fn.results=#[.tmp d]) {v:Value} (hv:a5 env d=.z v) {c:Frame}
  (h:∀(S:aC) (B:aP) (H:ψ),eJ o.m o.S o.B o.H o.σ S B H σ->Holds S B σ H->aE P Q mn z (c.finish v) cs H):V P Q mn z b (c::cs) nt o (.code .ret::k) env σ:=by
 intro S B H t ν ω;refine .ret U hb cf (.back U rfl eo (.inl gq) bY ?_);have e:results fn t=pure (t.getD d undef):=by unfold results;rw[eY];simp
 have ln:t.getD d undef=v:=by
  have:=ω.b6 d;rw[hv] at this;generalize t.getD d undef=u at this;cases this;rfl
 show υ P (results fn t) H _ _;rw[e,ln];exact υ.pure' (h S B H ν ω.holds)
theorem X' {w:World} {ty:TypeId} {kd:IntKind} (hu:P.underlying ty=some (.int kd)) {cx:Addr} {v:Value} (ζ:w.cell? cx=some v):(Instr.loadAt ty (.pointer (some cx))).run P w=.ok v w/\(Instr.loadAt ty (.pointer (some cx))).events P w #[]=#[⟨.cell cx,false,false⟩]:=by
 constructor
 ·simp[Instr.loadAt,Instr.sureAddr,loadVar,isAgg,run_underlying hu,ζ,Result.andThen]
 ·simp[Instr.loadAt,Instr.sureAddr,loadVar,isAgg,run_underlying hu,ζ,events_load,Result.evThen]
theorem Ya {t:Array Value} {w:World} (bU:mG b ops i op) (hw:Region.wanted op (yielded ops t)=true) {ty:TypeId} {y:Operand} (Ν:op.op=.load ty y) {kd:IntKind} (hu:P.underlying ty=some (.int kd)) {cx:Addr} (Ο:br t y=.pointer (some cx)) {v:Value} (ζ:w.cell? cx=some v) (Χ:(P.funcs[b.fn]?).any (·.norace)=true) :
  stepG P mn (Go.Conc.G (au b t (.inRegion ops (i::rest)::k)) cs) w=.go (Go.Conc.G (au b (put op t v) (.inRegion ops rest::k)) cs) w #[]:=by
 obtain⟨r1,r2⟩:=X' (P:=P) hu ζ;have e:execOp (br t) op=(do pure (.value (<-Instr.loadAt ty (.pointer (some cx))))):=by unfold execOp;rw[Ν,<-Ο]
 rw[gD bU.run bU.ro,gD bU.run bU.ro,<-uA];have μ:(execOp (⟨t,b.defers⟩:_root_.Go.Act).eval op).run P w=.ok (.value v) w:=by rw[lP,e];simp[r1,Result.andThen]
 have he:(execOp (⟨t,b.defers⟩:_root_.Go.Act).eval op).events P w #[]=#[⟨.cell cx,false,false⟩]:=by rw[lP,e];simp[r1,r2,Result.evThen]
 rw[stepG_value bU.op hw bU.kd μ];unfold listed;rw[he,seen_def,Χ];simp[seenStep]
section
variable {s:Nat} {sp:Spec} (U:eR x) (bX:x.spec s=some sp) (cQ:¬fO (x.tok s))
include U bX cQ
theorem V.yr (bU:mG b ops i op) (hd:h2 nt op=true) (hw:fA env ops op=some true) {ty:TypeId} {y:Operand} (Ν:op.op=.load ty y) {kd:IntKind} (hu:P.underlying ty=some (.int kd)) {cx:Addr} (Ο:aO env y=.z (.pointer (some cx))) (Χ:(P.funcs[b.fn]?).any (·.norace)=true)
  (val:aM->Int) (ζ:∀(ς:aM) (w:World),ς.toSpec=sp->At s ς w->w.cell? cx=some (.int kd (val ς)))
  (dq:∀φ ς,Seen x s sp φ ς->h8 P Q mn x b cs nt o ops rest k op env σ s φ ς (.int kd (val ς))\/∃t',p9 P Q mn x b cs nt o ops rest k op env σ s φ ς (.int kd (val ς)) ς t') :
  V P Q mn (one x) b cs nt o (.inRegion ops (i::rest)::k) env σ:=by
 refine .atomic U bX cQ hd hw λt w φ ς dy _ qH J γ π Μ=>.inl ?_;refine⟨.int kd (val ς),w,#[],Ya bU qH Ν hu (dy _ _ Ο) (ζ ς w J γ) Χ,ft.refl _ _ _,Oj,?_⟩;exact(dq φ ς ⟨J,π,Μ⟩).imp (λh=>⟨γ,h⟩) λ⟨t',aB,bc⟩=>⟨ς,t',aB,γ,.inr rfl,bc⟩
theorem V.conv (bU:mG b ops i op) (hd:h2 nt op=true) (hw:fA env ops op=some true) {src dst t0:TypeId} {y:Operand} (Ν:op.op=.convert src dst y) (ο:P.underlying src=some (.pointer t0)) (vu:P.underlying dst=some .unsafePointer) (cp:(P.info? t0).map (λi=>decide (i.size=0))=some false) {cx:Addr} (Ο:aO env y=.z (.pointer (some cx)))
  (ζ:∀(ς:aM) (w:World),ς.toSpec=sp->At s ς w->∃v,w.cell? cx=some v)
  (dq:∀φ ς,Seen x s sp φ ς->h8 P Q mn x b cs nt o ops rest k op env σ s φ ς (.pointer (some cx))) :
  V P Q mn (one x) b cs nt o (.inRegion ops (i::rest)::k) env σ:=by
 refine .atomic U bX cQ hd hw λt w φ ς dy _ qH J γ π Μ=>.inl ?_;obtain⟨v,hv⟩:=ζ ς w J γ;refine⟨.pointer (some cx),w,#[],?_,ft.refl _ _ _,Oj,.inl ⟨γ,dq φ ς ⟨J,π,Μ⟩⟩⟩;have r1:=run_convert_to_unsafe (P:=P) ο vu cp hv;have r2:=events_convert_to_unsafe (P:=P) ο vu cp hv #[];have e:execOp (br t) op=(do pure (.value (<-convert src dst (.pointer (some cx))))):=by unfold execOp;rw[Ν,<-dy _ _ Ο]
 rw[gD bU.run bU.ro,gD bU.run bU.ro,<-uA];have μ:(execOp (⟨t,b.defers⟩:_root_.Go.Act).eval op).run P w=.ok (.value (.pointer (some cx))) w:=by rw[lP,e];simp[r1,Result.andThen]
 have he:(execOp (⟨t,b.defers⟩:_root_.Go.Act).eval op).events P w #[]=#[]:=by rw[lP,e];simp[r1,r2,Result.evThen]
 rw[stepG_value bU.op qH bU.kd μ];unfold listed;rw[he,seen_none]
end
theorem Yb (w:World):OsLater w.os w.later.os:=⟨w.tick,rfl⟩
theorem dN.later {H:ψ} {w:World} (h:Fits H w):dN H w H w.later #[]:=
 ⟨⟨h.aG,h.row,h.obj⟩,⟨Nat.le_refl _,λb c t dR hb=>⟨c,hb,rfl,λ_ _=>rfl⟩,λb x hb _ _=>hb,Yb w,rfl,rfl⟩,⟨λb o v p h=>.inr ⟨v,p,h,id⟩,λb h=>.inr h⟩,λe he=>by simp at he⟩
theorem V.nano (U:Seq z) (h:gW P b ops i op f Extern.OsHooks.nano args env vs nt) (Χ:(P.funcs[f]?).any (·.norace)=true) (χ:∀τ:Int,V P Q mn z b cs nt o (.inRegion ops rest::k) (ca op env (.z (.int .i64 τ))) σ):V P Q mn z b cs nt o (.inRegion ops (i::rest)::k) env σ:=by
 intro S B H t ν ω;obtain⟨fn,J,γ,π,Μ,aB⟩:=h.kQ;obtain⟨dW,Ν⟩:=h.call;rw[J] at Χ;refine aE.own U λw Τ=>⟨_,_,_,_,H,?_,dN.later Τ,χ ((w.os.mono+w.tick:Nat):Int) S B H _ ν (ω.put h.dst (.z _))⟩;rw[gD h.at_.run h.at_.ro,stepG_nanotime (a:=⟨t,b.defers⟩) h.at_.op (jX ω.b6 h.want) h.at_.kd Ν J γ π Μ aB (by simpa using Χ),uA,<-gD h.at_.run h.at_.ro]
theorem V.canSpin (U:Seq z) {n:Int} (h:gW P b ops i op f Extern.Sync.canSpin args env [.int .i64 n] nt) (χ:∀y:Bool,(y=true->n<4)->V P Q mn z b cs nt o (.inRegion ops rest::k) (ca op env (.z (.bool y))) σ):V P Q mn z b cs nt o (.inRegion ops (i::rest)::k) env σ:=by
 intro S B H t ν ω;obtain⟨fn,J,γ,π,Μ,aB⟩:=h.kQ;obtain⟨dW,Ν⟩:=h.call;have hF:args.map (⟨t,b.defers⟩:_root_.Go.Act).eval=#[.int .i64 n]:=by rw[lP];exact h.AQ.br ω.b6
 by_cases bc:n<4
 ·refine aE.own U λw Τ=>⟨_,_,_,_,H,?_,(dN.start Τ).draw (w.drawn+1),χ w.spins (λ_=>bc) S B H _ ν (ω.put h.dst (.z _))⟩;rw[gD h.at_.run h.at_.ro,stepG_canSpin_ask (a:=⟨t,b.defers⟩) h.at_.op (jX ω.b6 h.want) h.at_.kd Ν J γ π Μ aB hF bc,uA,<-gD h.at_.run h.at_.ro];rfl
 ·refine aE.own U λw Τ=>⟨_,_,w,#[],H,?_,dN.start Τ,χ false (λh=>by cases h) S B H _ ν (ω.put h.dst (.z _))⟩;rw[gD h.at_.run h.at_.ro,stepG_canSpin_no (a:=⟨t,b.defers⟩) h.at_.op (jX ω.b6 h.want) h.at_.kd Ν J γ π Μ aB hF (by omega),uA,<-gD h.at_.run h.at_.ro]
theorem V.EB (U:Seq z) {v:Value} (h:gW P b ops i op f (λ_=>pure v) args env vs nt) (χ:V P Q mn z b cs nt o (.inRegion ops rest::k) (ca op env (.z v)) σ):V P Q mn z b cs nt o (.inRegion ops (i::rest)::k) env σ:=
 λS B H t ν ω=>aE.own U λw Τ=>⟨_,_,w,#[],H,h.step ω.b6 (by simp) (by simp) (by simp),dN.start Τ,χ S B H _ ν (ω.put h.dst (.z v))⟩
theorem V.Iz (U:Seq z) (bU:mG b ops i op) (hw:fA env ops op=some true) (q4:op.dst=none) {dW:Array TypeId} (Ν:op.op=.defer ⟨.value (.func f),#[],dW⟩)
  (h:V P Q mn z {b with defers:=Go.Conc.dcall f #[]::b.defers} cs nt o (.inRegion ops rest::k) env σ):V P Q mn z b cs nt o (.inRegion ops (i::rest)::k) env σ:=by
 intro S B H t ν ω;have NH:put op t undef=t:=by unfold put;rw[q4]
 refine aE.still U (f':=au {b with defers:=Go.Conc.dcall f #[]::b.defers} t (.inRegion ops rest::k)) (cs':=cs) (λw=>?_) (h S B H t ν ω);rw[gD bU.run bU.ro,stepG_defer (a:=⟨t,b.defers⟩) bU.op (jX ω.b6 hw) bU.kd Ν];have:(⟨t,Go.Conc.dcall f #[]::b.defers⟩:_root_.Go.Act).put op.dst undef=⟨t,Go.Conc.dcall f #[]::b.defers⟩:=by rw[q4];rfl
 simp only[Array.map_empty,List.map_toArray,List.map_nil];rw[this,gD (b:={b with defers:=Go.Conc.dcall f #[]::b.defers}) bU.run bU.ro];rfl
theorem cq.Yc (U:eR x) (hd:0<x.deaf) (hb:b.mode=.run) (cf:b.roundOf=none) {ds:List Deferred} (eo:b.defers=Go.Conc.dcall f #[]::ds) (he:Entry P f (λ_=>do mark .enable;pure Extern.Race.none_)) {H:ψ} {t:Array Value}
  (h:cq P Q mn {x with deaf:=x.deaf-1} {au {b with defers:=ds} t k with mode:=.returning} cs H):cq P Q mn x {au b t k with mode:=.returning} cs H:=by
 obtain⟨fn,J,γ,π,Μ,aB⟩:=he;refine Goes.step U.ok (.inr ⟨⟨rfl,rfl⟩,.inr (.inl ⟨Go.Conc.G {au {b with defers:=ds} t k with mode:=.returning} cs,⟨rfl,rfl⟩,.inr ⟨hd,λw _=>⟨?_,h⟩⟩⟩)⟩);rw[gD hb cf,gD (b:={b with defers:=ds}) hb cf];exact stepG_unwind_entry (a:=⟨t,b.defers⟩) (v:=.tuple #[]) eo J γ π Μ aB (Eu .enable) (Ev .enable _) (rm (by simp))
end
inductive Quiet (P:Program) (mn:Bool):Goroutine->Goroutine->Prop where
 | nil (g:Goroutine):Quiet P mn g g
 | cons {g g' Ov:Goroutine}:iD g->(∀w,stepG P mn g w=.go g' w #[])->Quiet P mn g' Ov->Quiet P mn g Ov
section
variable {P:Program} {Q:Value->Prop} {mn:Bool} {x:aU} {g g':Goroutine}
theorem Quiet.runs (h:Quiet P mn g g') (μ:iD g'):iD g:=by
 cases h with
 | nil=>exact μ
 | cons J=>exact J
theorem Quiet.goes (h:Quiet P mn g g') (U:eR x) (μ:iD g') (Υ:Goes P Q mn g' x):Goes P Q mn g x:=by
 induction h with
 | nil=>exact Υ
 | cons J γ π Δ=>
  refine Goes.step U.ok (.inr ⟨J,.inl λw Τ hv=>?_⟩);rw[γ w];refine⟨x.G,x.aF,π.runs μ,ft.refl _ _ _,Τ,hv,⟨λb o v p h=>.inr ⟨v,p,h,id⟩,λb h=>.inr h⟩,λb c h=>.inl h,λe he=>by simp at he,λb c _ _ e he=>by simp at he,Δ μ Υ⟩
end
end Go.TL
namespace Go.TL
open Go.Conc Go.Proofs
variable [bn]
def sQ (P:Program) (Q:Value->Prop) (mn:Bool) (x:gL) (b:Frame) (cs:List Frame) (nt:Nat) (o:Base) (L:Nat) (r:Loop) (k:List Item) (env:Ω) (σ:List Row):Prop:=
 ∀(S:aC) (B:aP) (H:ψ) (t:Array Value),eJ o.m o.S o.B o.H o.σ S B H σ->ff o.m nt S B H σ env t->¬B.has L->H.obj L=some (.loop r)->aE P Q mn x (au b t k) cs H
theorem iP {S ay:aC} {B B':aP} {H H':ψ} (he:Ext S B H ay B' H') {L:Nat} {y:Obj} (Ι:¬B.has L) (aD:H.obj L=some y):¬B'.has L/\H'.obj L=some y:=by
 have Τ:¬H.fresh L:=λh=>by rw[h.2.2.1] at aD;cases aD
 exact⟨λh=>(he.blocks L h).elim Ι Τ,by rw[(he.fF L Ι Τ).2.2];exact aD⟩
theorem Yd {H:ψ} {L:Nat} {y:Obj} (aD:H.e0 L):∀b,(H.aY L y).fresh b↔H.fresh b:=by
 obtain⟨z,Η⟩:=aD;have key:∀b,((H.aY L y).obj b=none↔H.obj b=none):=λb=>by
  by_cases e:b=L
  ·subst e;simp[ψ.aY,Η]
  ·simp[ψ.aY,e]
 exact λb=>⟨λh=>⟨h.1,h.2.1,(key b).1 h.2.2.1,λΦ hb=>⟨(h.2.2.2 Φ hb).1,(h.2.2.2 Φ hb).2.1,(key Φ).1 (h.2.2.2 Φ hb).2.2⟩⟩,
  λh=>⟨h.1,h.2.1,(key b).2 h.2.2.1,λΦ hb=>⟨(h.2.2.2 Φ hb).1,(h.2.2.2 Φ hb).2.1,(key Φ).2 (h.2.2.2 Φ hb).2.2⟩⟩⟩
theorem Holds.aY {S:aC} {B:aP} {σ:List Row} {H:ψ} {L:Nat} {y:Obj} (Β:Holds S B σ H) (Ι:¬B.has L):Holds S B σ (H.aY L y):=by
 have aW:∀b,b≠L->kn H (H.aY L y) b:=λb hb=>⟨λ_=>rfl,rfl,by simp[ψ.aY,hb]⟩
 have ne:∀(id b N:Nat),B[id]?=some (some (b,N))->b≠L:=λid b N h e=>Ι (e▸oF h);refine⟨Β.dg,Β.len,λid r bo μ eZ=>?_,Β.inj,Β.sep⟩;by_cases fe:r.live
 ·refine(Β.row id r bo μ eZ).later (bZ.refl S B σ) (λb N e=>aW b (ne id b N (by rw[eZ,e]))) λm left cur e=>⟨rfl,rfl,λb N hb=>aW b (ne m b N hb)⟩
 ·cases r<;>first|exact absurd trivial fe|trivial
theorem Ext.aY {ee S:aC} {ef B:aP} {dh H:ψ} {L:Nat} {y:Obj} (he:Ext ee ef dh S B H) (Τ:dh.fresh L) (aD:H.e0 L):Ext ee ef dh S B (H.aY L y):=by
 refine⟨he.dg,λb hb oH=>?_,he.blocks,he.qP,λb hb=>he.grow b ((Yd aD b).1 hb)⟩;have:b≠L:=λe=>oH (e▸Τ);obtain⟨J,γ,π⟩:=he.fF b hb oH;exact⟨J,γ,by simp[ψ.aY,this,π]⟩
section
variable {P:Program} {T:bd} {Q:Value->Prop} {mn:Bool} {x:gL} {b:Frame} {cs:List Frame} {nt:Nat} {o:Base} {L:Nat} {r:Loop} {k:List Item} {env:Ω} {σ:List Row}
theorem sQ.a' (U:Seq x) (hb:b.mode=.run) (h:W P o.m nt k env σ (sQ P Q mn x b cs nt o L r) (λ_ _ _=>False)):sQ P Q mn x b cs nt o L r k env σ:=
 λS B H t ν ω jg aD=>h Q mn x cs b S B H t U hb ω (λj env' σ' ay B' H' t' ab Η eh hU Α=>by
  have e:ab=j:=Α;subst e;obtain⟨J,γ⟩:=iP eh.ext jg aD;exact Η ay B' H' t' (ν.trans eh) hU J γ) (λa env' σ' ay B' H' t' ab v he=>he.elim)
theorem sQ.yield (U:Seq x) {ops:Array Oper} {i:Nat} {rest:List Nat} {op:Oper} (bU:mG b ops i op) (hw:fA env ops op=some true) {y:Operand} {args:Array Operand} {dW:Array TypeId} (Ν:op.op=.call ⟨.value y,args,dW⟩) (Τ:aO env y=.fn (.yield L) [] []) (cp:args.size=r.params.size)
  (h:∀(S:aC) (B:aP) (H:ψ) (t:Array Value) (vs:Array Value),eJ o.m o.S o.B o.H o.σ S B H σ->ff o.m nt S B H σ env t->¬B.has L->H.obj L=some (.loop r)->fg S B σ (args.toList.map (aO env)) vs->
   aE P Q mn x (Frame.round L r.fn ((r.params.zip vs).foldl (λtmps (t,a)=>tmps.setIfInBounds t a) r.tmps) r.assign r.body .normal) (au b t (.inRegion ops (i::rest)::k)::cs) H):sQ P Q mn x b cs nt o L r (.inRegion ops (i::rest)::k) env σ:=by
 intro S B H t ν ω jg aD;refine aE.op U bU.run bU.op (jX ω.b6 hw) (.inr λc=>by rw[Ν];simp) ?_;have e:execOp (br t) op=(do let d <-Deferred.ofValue (br t y) (args.map (br t));invoke d.target d.args):=by unfold execOp;rw[Ν];rfl
 rw[e];have bR:=lz ω.b6 y;have mq:=Ib ω.b6 args;rw[Τ] at bR;generalize br t y=an at bR;cases bR with
 | fn v1 v2 J γ π Μ=>
  have Ε:v1=#[]:=Array.eq_empty_of_size_eq_zero (by rw[<-J];rfl)
  have Ζ:v2=#[]:=Array.eq_empty_of_size_eq_zero (by rw[<-γ];rfl);subst Ε;subst Ζ;refine υ.bind' (υ.pure' ?_);have xw:invoke (Target.fn (Fn.yield L) #[]) (#[]++args.map (br t))=Instr.yield L (args.map (br t)):=by simp[invoke]
  show υ P (invoke (Target.fn (Fn.yield L) #[]) (#[]++args.map (br t))) H _ _;rw[xw];unfold Instr.yield;refine υ.bind' (υ.getLoop aD ?_);rw[if_neg (by simp[cp])];refine υ.bind' (υ.pure' (υ.pure' ?_));exact h S B H t _ ν ω jg aD mq
end
end Go.TL
namespace Go.TL
open Go.Conc Go.Proofs
def qa (n:Nat) (l:List Nat):Nat->Option Nat
 | 0=>none
 | e+1=>if l.getD e 0+l.length=n+e then qa n l e else some e
def mI (l:List Nat) (i:Nat) (k:Nat):List Nat:=l.take i++((List.range k).map λj=>l.getD i 0+1+j)++l.drop (i+k)
def qb (n:Nat) (l:List Nat):Option (List Nat):=(qa n l l.length).map λi=>mI l i (l.length-i)
def oa (n:Nat):Nat->List Nat->List (List Nat)
 | 0,l=>[l]
 | f+1,l=>l::match qb n l with|none=>[]|some m=>oa n f m
def qc (n:Nat):Nat->List Nat->Bool
 | 0,l=>l.all (· < n)&&(qb n l).isNone
 | f+1,l=>l.all (· < n)&&match qb n l with|none=>true|some m=>qc n f m
def iQ (n c:Nat):List (List Nat):=(List.range' c (n+1-c)).flatMap λm=>oa n 300 (List.range m)
theorem Ye:∀n<11,∀m<n+1,qc n 300 (List.range m)=true:=by decide +kernel
theorem Yf {n c:Nat} (h:c<n+1):iQ n c=oa n 300 (List.range c)++iQ n (c+1):=by
 unfold iQ;have:n+1-c=(n+1-(c+1))+1:=by omega
 rw[this,List.range'_succ,List.flatMap_cons]
theorem Yg {n:Nat}:iQ n (n+1)=[]:=by simp[iQ]
theorem Yh {n f:Nat} {l:List Nat} (h:qc n f l=true):∀x∈l,x<n:=by
 cases f<;>simp only[qc,Bool.and_eq_true,List.all_eq_true,decide_eq_true_eq] at h<;>exact h.1
theorem Yi {n f:Nat} {l:List Nat} (h:qb n l=none):oa n f l=[l]:=by
 cases f<;>simp[oa,h]
theorem Yj {n f:Nat} {l m:List Nat} (Γ:qc n f l=true) (h:qb n l=some m):∃g,f=g+1/\oa n f l=l::oa n g m/\qc n g m=true:=by
 cases f with
 | zero=>simp[qc,h] at Γ
 | succ g=>exact⟨g,rfl,by simp[oa,h],by simp[qc,h] at Γ;exact Γ.2⟩
theorem Ow {l:List Nat} {i k:Nat} (h:i+k<=l.length):(mI l i k).length=l.length:=by simp[mI];omega
theorem Yk {l:List Nat} {i:Nat} (h:i<l.length):mI l i 1=l.set i (l[i]+1):=by
 unfold mI;rw[List.set_eq_take_append_cons_drop,if_pos h];simp[h]
theorem Yl {l:List Nat} {i k:Nat} (χ:0<k) (h:i+k<=l.length):(mI l i k).getD (i+k-1) 0=l.getD i 0+k:=by
 unfold mI;have Ε:(l.take i).length=i:=by simp;omega
 rw[List.getD_eq_getElem?_getD,List.append_assoc,hE (by omega),Ε,ea (by simp;omega)];have:i+k-1-i=k-1:=by omega
 rw[this,List.getElem?_map,List.getElem?_range (by omega)];simp;omega
theorem Ym {l:List Nat} {i k:Nat} (h:i+k<l.length):(mI l i k).set (i+k) (l.getD i 0+k+1)=mI l i (k+1):=by
 unfold mI;have Ε:(l.take i++(List.range k).map λj=>l.getD i 0+1+j).length=i+k:=by simp;omega
 rw[List.set_append_right _ _ (by omega),Ε,Nat.sub_self,List.range_succ,List.map_append];have Ζ:l.drop (i+k)=l[i+k]::l.drop (i+k+1):=List.drop_eq_getElem_cons h;rw[Ζ,List.set_cons_zero];simp;constructor<;>omega
end Go.TL
