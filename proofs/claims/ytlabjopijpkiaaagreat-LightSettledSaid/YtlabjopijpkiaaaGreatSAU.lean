import Derived.Conc.QuitsD
import Derived.Conc.SmallLaws
import Derived.Test.YtlabjopijpkiaaaGreatSAT
set_option maxHeartbeats 16000000
set_option maxRecDepth 20000
set_option linter.unusedSectionVars false
set_option linter.unusedSimpArgs false
set_option linter.unusedVariables false
namespace Go.TL
open Go.Conc
open Go.ConcM (OsLater)
open Go.ConcN (sumTo upd sumTo_upd upd_ne upd_same sumTo_congr le_sumTo)
open Go.ConcR (mk)
variable [bm]
section
variable {P:Program} {T:bd} {Q:Value->Prop} {mn:Bool} {x:aV} {z:gN} {b:Frame} {cs:List Frame} {nt:Nat} {o:Base} {k:List Item} {env:aa} {σ:List Row}
variable {ops:Array Oper} {i:Nat} {rest:List Nat} {op:Oper} {f:FuncId} {e:Array Value->Sem Value} {args:Array Operand} {vs:List Value} {fn:Func}
theorem mV {S:aB} {B:aR} {l:List Value} {vs:Array Value} (h:fy S B σ (l.map θ.z) vs):vs=l.toArray:=by
 apply Array.ext';apply List.ext_getElem?;intro i;have J:=h.1;rw[List.length_map] at J;by_cases hi:i<l.length
 ·have Ζ:(l.map θ.z)[i]?=some (.z l[i]):=by rw[List.getElem?_map,aW hi];rfl
  have Ε:vs[i]?=some vs[i]:=e7 (by omega)
  have:=h.2 i _ _ Ζ Ε
  have:vs[i]=l[i]:=by generalize vs[i]=u at this;cases this;rfl
  rw[Array.getElem?_toList,Ε,this];simp[hi]
 ·rw[Array.getElem?_toList,Array.getElem?_eq_none (by omega)];simp;omega
theorem V.call (U:Seq z) (bS:mU b ops i op) (hw:fz env ops op=some true) {y:Operand} {dS:Array TypeId} (Ν:op.op=.call ⟨.value y,args,dS⟩) {g:FuncId} {first captured:List θ} (Φ:aQ env y=.fn (.func g) first captured) (Υ:Plain P g)
  (h:∀(S:aB) (B:aR) (H:Α) (t:Array Value) (vs:Array Value),eU o.m o.S o.B o.H o.σ S B H σ->fx o.m nt S B H σ env t->fy S B σ (first++args.toList.map (aQ env)++captured) vs->
   aM P Q mn z (Frame.enter P g vs .normal) (ar b t (.inRegion ops (i::rest)::k)::cs) H):V P Q mn z b cs nt o (.inRegion ops (i::rest)::k) env σ:=by
 intro S B H t ξ ψ;refine .op U bS.run bS.op (j3 ψ.cp hw) (.inr λc=>by rw[Ν];simp) ?_;have e:execOp (bs t) op=(do let d <-Deferred.ofValue (bs t y) (args.map (bs t));invoke d.target d.args):=by unfold execOp;rw[Ν];rfl
 rw[e];have bV:=lJ ψ.cp y;have mG:=Iq ψ.cp args;rw[Φ] at bV;generalize bs t y=an at bV;cases bV with
 | fn v1 v2 J γ π Μ=>
  refine υ.bind' (υ.pure' ?_);obtain⟨fn,cf,kS,Dx⟩:=Υ;unfold invoke;simp only;unfold callFunc;refine υ.bind' ?_;show υ P (match P.funcs[g]? with|none=>_|some fn=>_) H _ _;rw[cf];simp only[kS,Dx,Bool.false_eq_true,if_false];refine υ.pure' ?_;have r1:fy S B σ first v1:=⟨J,π⟩
  have r2:fy S B σ captured v2:=⟨γ,Μ⟩;exact h S B H t _ ξ ψ ((r1.append mG).append r2)
theorem V.qt {g:FuncId} {body:Code} (cf:P.funcs[g]?=some fn) (nv:fn.body=some body) {c:Frame} {S:aB} {B:aR} {H:Α} (Β:Holds S B σ H) (Η:vs.length<=fn.ntmps)
  (h:V P Q mn z (Frame.enter P g vs.toArray .normal) (c::cs) fn.ntmps ⟨S,[],H,[],0⟩ [.code body] (entry 0 (vs.map θ.z)) []):aM P Q mn z (Frame.enter P g vs.toArray .normal) (c::cs) H:=by
 rw[qj cf nv];refine h.here (fx.enter Β.bare ⟨by simp,λi a v J γ=>?_⟩ (Nat.le_refl _) (by simpa using Η));simp only[List.getElem?_map,List.getElem?_toArray] at J γ;rw[γ] at J;cases J;exact .z v
theorem V.IS (U:Seq z) (hb:b.mode=.run) (cd:b.roundOf=none) (eC:b.defers=[]) (gJ:b.kind=.normal) (cf:P.funcs[b.fn]?=some fn) (eT:fn.results=#[]) {c:Frame}
  (h:∀(S:aB) (B:aR) (H:Α),eU o.m o.S o.B o.H o.σ S B H σ->Holds S B σ H->aM P Q mn z (c.finish (.tuple #[])) cs H):V P Q mn z b (c::cs) nt o (.code .ret::k) env σ:=by
 intro S B H t ξ ψ;refine .ret U hb cd (.back U rfl eC (.inl gJ) cf ?_);rw[results_none eT];exact υ.pure' (h S B H ξ ψ.holds)
theorem V.Ev (U:Seq z) (hb:b.mode=.run) (cd:b.roundOf=none) (eC:b.defers=[]) (gJ:b.kind=.normal) (cf:P.funcs[b.fn]?=some fn) (eT:fn.results=#[]) {c:Frame}
  (h:∀(S:aB) (B:aR) (H:Α),eU o.m o.S o.B o.H o.σ S B H σ->Holds S B σ H->aM P Q mn z (c.finish (.tuple #[])) cs H):V P Q mn z b (c::cs) nt o [] env σ:=by
 intro S B H t ξ ψ;refine .sm U hb cd (.back U rfl eC (.inl gJ) cf ?_);rw[results_none eT];exact υ.pure' (h S B H ξ ψ.holds)
theorem V.s5 (U:Seq z) (hb:b.mode=.run) (cd:b.roundOf=none) (eC:b.defers=[]) (gJ:b.kind=.normal) (cf:P.funcs[b.fn]?=some fn) {d:Nat} (eT:fn.results=#[.tmp d]) {v:Value} (hv:a3 env d=.z v) {c:Frame}
  (h:∀(S:aB) (B:aR) (H:Α),eU o.m o.S o.B o.H o.σ S B H σ->Holds S B σ H->aM P Q mn z (c.finish v) cs H):V P Q mn z b (c::cs) nt o (.code .ret::k) env σ:=by
 intro S B H t ξ ψ;refine .ret U hb cd (.back U rfl eC (.inl gJ) cf ?_);have e:results fn t=pure (t.getD d undef):=by unfold results;rw[eT];simp
 have lE:t.getD d undef=v:=by
  have:=ψ.cp d;rw[hv] at this;generalize t.getD d undef=u at this;cases this;rfl
 show υ P (results fn t) H _ _;rw[e,lE];exact υ.pure' (h S B H ξ ψ.holds)
theorem Zl {w:World} {ty:TypeId} {kd:IntKind} (hu:P.underlying ty=some (.int kd)) {cu:Addr} {v:Value} (ζ:w.cell? cu=some v):(Instr.loadAt ty (.pointer (some cu))).run P w=.ok v w/\(Instr.loadAt ty (.pointer (some cu))).events P w #[]=#[⟨.cell cu,false,false⟩]:=by
 constructor
 ·simp[Instr.loadAt,Instr.sureAddr,loadVar,isAgg,run_underlying hu,ζ,Result.andThen]
 ·simp[Instr.loadAt,Instr.sureAddr,loadVar,isAgg,run_underlying hu,ζ,events_load,Result.evThen]
theorem Zm {t:Array Value} {w:World} (bS:mU b ops i op) (hw:Region.wanted op (yielded ops t)=true) {ty:TypeId} {y:Operand} (Ν:op.op=.load ty y) {kd:IntKind} (hu:P.underlying ty=some (.int kd)) {cu:Addr} (Ξ:bs t y=.pointer (some cu)) {v:Value} (ζ:w.cell? cu=some v) (Ρ:(P.funcs[b.fn]?).any (·.norace)=true) :
  stepG P mn (Go.Conc.G (ar b t (.inRegion ops (i::rest)::k)) cs) w=.go (Go.Conc.G (ar b (put op t v) (.inRegion ops rest::k)) cs) w #[]:=by
 obtain⟨r1,r2⟩:=Zl (P:=P) hu ζ;have e:execOp (bs t) op=(do pure (.value (<-Instr.loadAt ty (.pointer (some cu))))):=by unfold execOp;rw[Ν,<-Ξ]
 rw[gA bS.run bS.ro,gA bS.run bS.ro,<-uD];have μ:(execOp (⟨t,b.defers⟩:_root_.Go.Act).eval op).run P w=.ok (.value v) w:=by rw[lY,e];simp[r1,Result.andThen]
 have he:(execOp (⟨t,b.defers⟩:_root_.Go.Act).eval op).events P w #[]=#[⟨.cell cu,false,false⟩]:=by rw[lY,e];simp[r1,r2,Result.evThen]
 rw[stepG_value bS.op hw bS.kd μ];unfold listed;rw[he,seen_def,Ρ];simp[seenStep]
section
variable {s:Nat} {sp:Spec} (U:eL x) (bU:x.spec s=some sp) (cH:¬fU (x.tok s))
include U bU cH
theorem V.yd (bS:mU b ops i op) (hd:hT nt op=true) (hw:fz env ops op=some true) {ty:TypeId} {y:Operand} (Ν:op.op=.load ty y) {kd:IntKind} (hu:P.underlying ty=some (.int kd)) {cu:Addr} (Ξ:aQ env y=.z (.pointer (some cu))) (Ρ:(P.funcs[b.fn]?).any (·.norace)=true)
  (val:aN->Int) (ζ:∀(ς:aN) (w:World),ς.toSpec=sp->At s ς w->w.cell? cu=some (.int kd (val ς)))
  (dk:∀φ ς,Seen x s sp φ ς->h0 P Q mn x b cs nt o ops rest k op env σ s φ ς (.int kd (val ς))\/∃t',qs P Q mn x b cs nt o ops rest k op env σ s φ ς (.int kd (val ς)) ς t') :
  V P Q mn (one x) b cs nt o (.inRegion ops (i::rest)::k) env σ:=by
 refine .atomic U bU cH hd hw λt w φ ς dt _ qV J γ π Μ=>.inl ?_;refine⟨.int kd (val ς),w,#[],Zm bS qV Ν hu (dt _ _ Ξ) (ζ ς w J γ) Ρ,fq.refl _ _ _,O1,?_⟩;exact(dk φ ς ⟨J,π,Μ⟩).imp (λh=>⟨γ,h⟩) λ⟨t',aA,bc⟩=>⟨ς,t',aA,γ,.inr rfl,bc⟩
theorem V.conv (bS:mU b ops i op) (hd:hT nt op=true) (hw:fz env ops op=some true) {src dst t0:TypeId} {y:Operand} (Ν:op.op=.convert src dst y) (ο:P.underlying src=some (.pointer t0)) (vB:P.underlying dst=some .unsafePointer) (cm:(P.info? t0).map (λi=>decide (i.size=0))=some false) {cu:Addr} (Ξ:aQ env y=.z (.pointer (some cu)))
  (ζ:∀(ς:aN) (w:World),ς.toSpec=sp->At s ς w->∃v,w.cell? cu=some v)
  (dk:∀φ ς,Seen x s sp φ ς->h0 P Q mn x b cs nt o ops rest k op env σ s φ ς (.pointer (some cu))) :
  V P Q mn (one x) b cs nt o (.inRegion ops (i::rest)::k) env σ:=by
 refine .atomic U bU cH hd hw λt w φ ς dt _ qV J γ π Μ=>.inl ?_;obtain⟨v,hv⟩:=ζ ς w J γ;refine⟨.pointer (some cu),w,#[],?_,fq.refl _ _ _,O1,.inl ⟨γ,dk φ ς ⟨J,π,Μ⟩⟩⟩;have r1:=run_convert_to_unsafe (P:=P) ο vB cm hv;have r2:=events_convert_to_unsafe (P:=P) ο vB cm hv #[];have e:execOp (bs t) op=(do pure (.value (<-convert src dst (.pointer (some cu))))):=by unfold execOp;rw[Ν,<-dt _ _ Ξ]
 rw[gA bS.run bS.ro,gA bS.run bS.ro,<-uD];have μ:(execOp (⟨t,b.defers⟩:_root_.Go.Act).eval op).run P w=.ok (.value (.pointer (some cu))) w:=by rw[lY,e];simp[r1,Result.andThen]
 have he:(execOp (⟨t,b.defers⟩:_root_.Go.Act).eval op).events P w #[]=#[]:=by rw[lY,e];simp[r1,r2,Result.evThen]
 rw[stepG_value bS.op qV bS.kd μ];unfold listed;rw[he,seen_none]
end
theorem Zn (w:World):OsLater w.os w.later.os:=⟨w.tick,rfl⟩
theorem dF.later {H:Α} {w:World} (h:Fits H w):dF H w H w.later #[]:=
 ⟨⟨h.aG,h.row,h.obj⟩,⟨Nat.le_refl _,λb c t dI hb=>⟨c,hb,rfl,λ_ _=>rfl⟩,λb x hb _ _=>hb,Zn w,rfl,rfl⟩,⟨λb o v p h=>.inr ⟨v,p,h,id⟩,λb h=>.inr h⟩,λe he=>by simp at he⟩
theorem V.nano (U:Seq z) (h:gS P b ops i op f Extern.OsHooks.nano args env vs nt) (Ρ:(P.funcs[f]?).any (·.norace)=true) (χ:∀τ:Int,V P Q mn z b cs nt o (.inRegion ops rest::k) (ca op env (.z (.int .i64 τ))) σ):V P Q mn z b cs nt o (.inRegion ops (i::rest)::k) env σ:=by
 intro S B H t ξ ψ;obtain⟨fn,J,γ,π,Μ,aA⟩:=h.kX;obtain⟨dS,Ν⟩:=h.call;rw[J] at Ρ;refine aM.own U λw Φ=>⟨_,_,_,_,H,?_,dF.later Φ,χ ((w.os.mono+w.tick:Nat):Int) S B H _ ξ (ψ.put h.dst (.z _))⟩;rw[gA h.at_.run h.at_.ro,stepG_nanotime (a:=⟨t,b.defers⟩) h.at_.op (j3 ψ.cp h.want) h.at_.kd Ν J γ π Μ aA (by simpa using Ρ),uD,<-gA h.at_.run h.at_.ro]
theorem V.canSpin (U:Seq z) {n:Int} (h:gS P b ops i op f Extern.Sync.canSpin args env [.int .i64 n] nt) (χ:∀y:Bool,(y=true->n<4)->V P Q mn z b cs nt o (.inRegion ops rest::k) (ca op env (.z (.bool y))) σ):V P Q mn z b cs nt o (.inRegion ops (i::rest)::k) env σ:=by
 intro S B H t ξ ψ;obtain⟨fn,J,γ,π,Μ,aA⟩:=h.kX;obtain⟨dS,Ν⟩:=h.call;have hy:args.map (⟨t,b.defers⟩:_root_.Go.Act).eval=#[.int .i64 n]:=by rw[lY];exact h.AB.bs ψ.cp
 by_cases bc:n<4
 ·refine aM.own U λw Φ=>⟨_,_,_,_,H,?_,(dF.start Φ).draw (w.drawn+1),χ w.spins (λ_=>bc) S B H _ ξ (ψ.put h.dst (.z _))⟩;rw[gA h.at_.run h.at_.ro,stepG_canSpin_ask (a:=⟨t,b.defers⟩) h.at_.op (j3 ψ.cp h.want) h.at_.kd Ν J γ π Μ aA hy bc,uD,<-gA h.at_.run h.at_.ro];rfl
 ·refine aM.own U λw Φ=>⟨_,_,w,#[],H,?_,dF.start Φ,χ false (λh=>by cases h) S B H _ ξ (ψ.put h.dst (.z _))⟩;rw[gA h.at_.run h.at_.ro,stepG_canSpin_no (a:=⟨t,b.defers⟩) h.at_.op (j3 ψ.cp h.want) h.at_.kd Ν J γ π Μ aA hy (by omega),uD,<-gA h.at_.run h.at_.ro]
theorem V.Ew (U:Seq z) {v:Value} (h:gS P b ops i op f (λ_=>pure v) args env vs nt) (χ:V P Q mn z b cs nt o (.inRegion ops rest::k) (ca op env (.z v)) σ):V P Q mn z b cs nt o (.inRegion ops (i::rest)::k) env σ:=
 λS B H t ξ ψ=>aM.own U λw Φ=>⟨_,_,w,#[],H,h.step ψ.cp (by simp) (by simp) (by simp),dF.start Φ,χ S B H _ ξ (ψ.put h.dst (.z v))⟩
theorem V.IT (U:Seq z) (bS:mU b ops i op) (hw:fz env ops op=some true) (rf:op.dst=none) {dS:Array TypeId} (Ν:op.op=.defer ⟨.value (.func f),#[],dS⟩)
  (h:V P Q mn z {b with defers:=Go.Conc.dcall f #[]::b.defers} cs nt o (.inRegion ops rest::k) env σ):V P Q mn z b cs nt o (.inRegion ops (i::rest)::k) env σ:=by
 intro S B H t ξ ψ;have Oj:put op t undef=t:=by unfold put;rw[rf]
 refine aM.still U (f':=ar {b with defers:=Go.Conc.dcall f #[]::b.defers} t (.inRegion ops rest::k)) (cs':=cs) (λw=>?_) (h S B H t ξ ψ);rw[gA bS.run bS.ro,stepG_defer (a:=⟨t,b.defers⟩) bS.op (j3 ψ.cp hw) bS.kd Ν];have:(⟨t,Go.Conc.dcall f #[]::b.defers⟩:_root_.Go.Act).put op.dst undef=⟨t,Go.Conc.dcall f #[]::b.defers⟩:=by rw[rf];rfl
 simp only[Array.map_empty,List.map_toArray,List.map_nil];rw[this,gA (b:={b with defers:=Go.Conc.dcall f #[]::b.defers}) bS.run bS.ro];rfl
theorem cn.Zo (U:eL x) (hd:0<x.deaf) (hb:b.mode=.run) (cd:b.roundOf=none) {ds:List Deferred} (eC:b.defers=Go.Conc.dcall f #[]::ds) (he:Entry P f (λ_=>do mark .enable;pure Extern.Race.none_)) {H:Α} {t:Array Value}
  (h:cn P Q mn {x with deaf:=x.deaf-1} {ar {b with defers:=ds} t k with mode:=.returning} cs H):cn P Q mn x {ar b t k with mode:=.returning} cs H:=by
 obtain⟨fn,J,γ,π,Μ,aA⟩:=he;refine Goes.step U.ok (.inr ⟨⟨rfl,rfl⟩,.inr (.inl ⟨Go.Conc.G {ar {b with defers:=ds} t k with mode:=.returning} cs,⟨rfl,rfl⟩,.inr ⟨hd,λw _=>⟨?_,h⟩⟩⟩)⟩);rw[gA hb cd,gA (b:={b with defers:=ds}) hb cd];exact stepG_unwind_entry (a:=⟨t,b.defers⟩) (v:=.tuple #[]) eC J γ π Μ aA (Eo .enable) (Ep .enable _) (rB (by simp))
end
inductive Quiet (P:Program) (mn:Bool):Goroutine->Goroutine->Prop where
 | nil (g:Goroutine):Quiet P mn g g
 | cons {g g' O9:Goroutine}:iv g->(∀w,stepG P mn g w=.go g' w #[])->Quiet P mn g' O9->Quiet P mn g O9
section
variable {P:Program} {Q:Value->Prop} {mn:Bool} {x:aV} {g g':Goroutine}
theorem Quiet.runs (h:Quiet P mn g g') (μ:iv g'):iv g:=by
 cases h with
 | nil=>exact μ
 | cons J=>exact J
theorem Quiet.goes (h:Quiet P mn g g') (U:eL x) (μ:iv g') (Υ:Goes P Q mn g' x):Goes P Q mn g x:=by
 induction h with
 | nil=>exact Υ
 | cons J γ π Δ=>
  refine Goes.step U.ok (.inr ⟨J,.inl λw Φ hv=>?_⟩);rw[γ w];refine⟨x.G,x.aF,π.runs μ,fq.refl _ _ _,Φ,hv,⟨λb o v p h=>.inr ⟨v,p,h,id⟩,λb h=>.inr h⟩,λb c h=>.inl h,λe he=>by simp at he,λb c _ _ e he=>by simp at he,Δ μ Υ⟩
end
end Go.TL
namespace Go.TL
open Go.Conc Go.Proofs
variable [bm]
def s6 (P:Program) (Q:Value->Prop) (mn:Bool) (x:gN) (b:Frame) (cs:List Frame) (nt:Nat) (o:Base) (L:Nat) (r:Loop) (k:List Item) (env:aa) (σ:List Row):Prop:=
 ∀(S:aB) (B:aR) (H:Α) (t:Array Value),eU o.m o.S o.B o.H o.σ S B H σ->fx o.m nt S B H σ env t->¬B.has L->H.obj L=some (.loop r)->aM P Q mn x (ar b t k) cs H
theorem qu {S ax:aB} {B B':aR} {H H':Α} (he:Ext S B H ax B' H') {L:Nat} {y:Obj} (Η:¬B.has L) (aC:H.obj L=some y):¬B'.has L/\H'.obj L=some y:=by
 have Φ:¬H.fresh L:=λh=>by rw[h.2.2.1] at aC;cases aC
 exact⟨λh=>(he.blocks L h).elim Η Φ,by rw[(he.fD L Η Φ).2.2];exact aC⟩
theorem Zp {H:Α} {L:Nat} {y:Obj} (aC:H.eY L):∀b,(H.bI L y).fresh b↔H.fresh b:=by
 obtain⟨z,Θ⟩:=aC;have key:∀b,((H.bI L y).obj b=none↔H.obj b=none):=λb=>by
  by_cases e:b=L
  ·subst e;simp[Α.bI,Θ]
  ·simp[Α.bI,e]
 exact λb=>⟨λh=>⟨h.1,h.2.1,(key b).1 h.2.2.1,λΧ hb=>⟨(h.2.2.2 Χ hb).1,(h.2.2.2 Χ hb).2.1,(key Χ).1 (h.2.2.2 Χ hb).2.2⟩⟩,
  λh=>⟨h.1,h.2.1,(key b).2 h.2.2.1,λΧ hb=>⟨(h.2.2.2 Χ hb).1,(h.2.2.2 Χ hb).2.1,(key Χ).2 (h.2.2.2 Χ hb).2.2⟩⟩⟩
theorem Holds.bI {S:aB} {B:aR} {σ:List Row} {H:Α} {L:Nat} {y:Obj} (Β:Holds S B σ H) (Η:¬B.has L):Holds S B σ (H.bI L y):=by
 have aS:∀b,b≠L->ks H (H.bI L y) b:=λb hb=>⟨λ_=>rfl,rfl,by simp[Α.bI,hb]⟩
 have ne:∀(id b N:Nat),B[id]?=some (some (b,N))->b≠L:=λid b N h e=>Η (e▸oY h);refine⟨Β.dd,Β.len,λid r bo μ ez=>?_,Β.inj,Β.sep⟩;by_cases fc:r.live
 ·refine(Β.row id r bo μ ez).later (b3.refl S B σ) (λb N e=>aS b (ne id b N (by rw[ez,e]))) λm left cur e=>⟨rfl,rfl,λb N hb=>aS b (ne m b N hb)⟩
 ·cases r<;>first|exact absurd trivial fc|trivial
theorem Ext.bI {fb S:aB} {ek B:aR} {dK H:Α} {L:Nat} {y:Obj} (he:Ext fb ek dK S B H) (Φ:dK.fresh L) (aC:H.eY L):Ext fb ek dK S B (H.bI L y):=by
 refine⟨he.dd,λb hb o0=>?_,he.blocks,he.q3,λb hb=>he.grow b ((Zp aC b).1 hb)⟩;have:b≠L:=λe=>o0 (e▸Φ);obtain⟨J,γ,π⟩:=he.fD b hb o0;exact⟨J,γ,by simp[Α.bI,this,π]⟩
section
variable {P:Program} {T:bd} {Q:Value->Prop} {mn:Bool} {x:gN} {b:Frame} {cs:List Frame} {nt:Nat} {o:Base} {L:Nat} {r:Loop} {k:List Item} {env:aa} {σ:List Row}
theorem s6.bh (U:Seq x) (hb:b.mode=.run) (h:W P o.m nt k env σ (s6 P Q mn x b cs nt o L r) (λ_ _ _=>False)):s6 P Q mn x b cs nt o L r k env σ:=
 λS B H t ξ ψ k5 aC=>h Q mn x cs b S B H t U hb ψ (λj env' σ' ax B' H' t' ab Θ dO fX ω=>by
  have e:ab=j:=ω;subst e;obtain⟨J,γ⟩:=qu dO.ext k5 aC;exact Θ ax B' H' t' (ξ.trans dO) fX J γ) (λa env' σ' ax B' H' t' ab v he=>he.elim)
theorem s6.yield (U:Seq x) {ops:Array Oper} {i:Nat} {rest:List Nat} {op:Oper} (bS:mU b ops i op) (hw:fz env ops op=some true) {y:Operand} {args:Array Operand} {dS:Array TypeId} (Ν:op.op=.call ⟨.value y,args,dS⟩) (Φ:aQ env y=.fn (.yield L) [] []) (cm:args.size=r.params.size)
  (h:∀(S:aB) (B:aR) (H:Α) (t:Array Value) (vs:Array Value),eU o.m o.S o.B o.H o.σ S B H σ->fx o.m nt S B H σ env t->¬B.has L->H.obj L=some (.loop r)->fy S B σ (args.toList.map (aQ env)) vs->
   aM P Q mn x (Frame.round L r.fn ((r.params.zip vs).foldl (λtmps (t,a)=>tmps.setIfInBounds t a) r.tmps) r.assign r.body .normal) (ar b t (.inRegion ops (i::rest)::k)::cs) H):s6 P Q mn x b cs nt o L r (.inRegion ops (i::rest)::k) env σ:=by
 intro S B H t ξ ψ k5 aC;refine aM.op U bS.run bS.op (j3 ψ.cp hw) (.inr λc=>by rw[Ν];simp) ?_;have e:execOp (bs t) op=(do let d <-Deferred.ofValue (bs t y) (args.map (bs t));invoke d.target d.args):=by unfold execOp;rw[Ν];rfl
 rw[e];have bV:=lJ ψ.cp y;have mG:=Iq ψ.cp args;rw[Φ] at bV;generalize bs t y=an at bV;cases bV with
 | fn v1 v2 J γ π Μ=>
  have Ζ:v1=#[]:=Array.eq_empty_of_size_eq_zero (by rw[<-J];rfl)
  have Ε:v2=#[]:=Array.eq_empty_of_size_eq_zero (by rw[<-γ];rfl);subst Ζ;subst Ε;refine υ.bind' (υ.pure' ?_);have xn:invoke (Target.fn (Fn.yield L) #[]) (#[]++args.map (bs t))=Instr.yield L (args.map (bs t)):=by simp[invoke]
  show υ P (invoke (Target.fn (Fn.yield L) #[]) (#[]++args.map (bs t))) H _ _;rw[xn];unfold Instr.yield;refine υ.bind' (υ.getLoop aC ?_);rw[if_neg (by simp[cm])];refine υ.bind' (υ.pure' (υ.pure' ?_));exact h S B H t _ ξ ψ k5 aC mG
end
end Go.TL
namespace Go.TL
open Go.Conc Go.Proofs
def qv (n:Nat) (l:List Nat):Nat->Option Nat
 | 0=>none
 | e+1=>if l.getD e 0+l.length=n+e then qv n l e else some e
def mW (l:List Nat) (i:Nat) (k:Nat):List Nat:=l.take i++((List.range k).map λj=>l.getD i 0+1+j)++l.drop (i+k)
def qw (n:Nat) (l:List Nat):Option (List Nat):=(qv n l l.length).map λi=>mW l i (l.length-i)
def ou (n:Nat):Nat->List Nat->List (List Nat)
 | 0,l=>[l]
 | f+1,l=>l::match qw n l with|none=>[]|some m=>ou n f m
def qx (n:Nat):Nat->List Nat->Bool
 | 0,l=>l.all (· < n)&&(qw n l).isNone
 | f+1,l=>l.all (· < n)&&match qw n l with|none=>true|some m=>qx n f m
def h1 (n c:Nat):List (List Nat):=(List.range' c (n+1-c)).flatMap λm=>ou n 300 (List.range m)
theorem Zq:∀n<11,∀m<n+1,qx n 300 (List.range m)=true:=by decide +kernel
theorem Zr {n c:Nat} (h:c<n+1):h1 n c=ou n 300 (List.range c)++h1 n (c+1):=by
 unfold h1;have:n+1-c=(n+1-(c+1))+1:=by omega
 rw[this,List.range'_succ,List.flatMap_cons]
theorem Zs {n:Nat}:h1 n (n+1)=[]:=by simp[h1]
theorem Zt {n f:Nat} {l:List Nat} (h:qx n f l=true):∀x∈l,x<n:=by
 cases f<;>simp only[qx,Bool.and_eq_true,List.all_eq_true,decide_eq_true_eq] at h<;>exact h.1
theorem Zu {n f:Nat} {l:List Nat} (h:qw n l=none):ou n f l=[l]:=by
 cases f<;>simp[ou,h]
theorem Zv {n f:Nat} {l m:List Nat} (Γ:qx n f l=true) (h:qw n l=some m):∃g,f=g+1/\ou n f l=l::ou n g m/\qx n g m=true:=by
 cases f with
 | zero=>simp[qx,h] at Γ
 | succ g=>exact⟨g,rfl,by simp[ou,h],by simp[qx,h] at Γ;exact Γ.2⟩
theorem Pa {l:List Nat} {i k:Nat} (h:i+k<=l.length):(mW l i k).length=l.length:=by simp[mW];omega
theorem Zw {l:List Nat} {i:Nat} (h:i<l.length):mW l i 1=l.set i (l[i]+1):=by
 unfold mW;rw[List.set_eq_take_append_cons_drop,if_pos h];simp[h]
theorem Zx {l:List Nat} {i k:Nat} (χ:0<k) (h:i+k<=l.length):(mW l i k).getD (i+k-1) 0=l.getD i 0+k:=by
 unfold mW;have Ζ:(l.take i).length=i:=by simp;omega
 rw[List.getD_eq_getElem?_getD,List.append_assoc,fS (by omega),Ζ,dB (by simp;omega)];have:i+k-1-i=k-1:=by omega
 rw[this,List.getElem?_map,List.getElem?_range (by omega)];simp;omega
theorem Zy {l:List Nat} {i k:Nat} (h:i+k<l.length):(mW l i k).set (i+k) (l.getD i 0+k+1)=mW l i (k+1):=by
 unfold mW;have Ζ:(l.take i++(List.range k).map λj=>l.getD i 0+1+j).length=i+k:=by simp;omega
 rw[List.set_append_right _ _ (by omega),Ζ,Nat.sub_self,List.range_succ,List.map_append];have Ε:l.drop (i+k)=l[i+k]::l.drop (i+k+1):=List.drop_eq_getElem_cons h;rw[Ε,List.set_cons_zero];simp;constructor<;>omega
end Go.TL
