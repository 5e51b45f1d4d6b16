import Derived.Conc.QuitsD
import Derived.Conc.SmallLaws
import Derived.Test.YtlabjopijpkiaaaGreatDAT
set_option maxHeartbeats 16000000
set_option maxRecDepth 20000
set_option linter.unusedSectionVars false
set_option linter.unusedSimpArgs false
set_option linter.unusedVariables false
namespace Go.TL
open Go.Conc
open Go.ConcM (OsLater)
open Go.ConcN (sumTo upd sumTo_upd upd_ne upd_same sumTo_congr le_sumTo)
open Go.ConcR (mk)
variable [bj]
section
variable {P:Program} {T:a9} {Q:Value->Prop} {mn:Bool} {x:aW} {z:gJ} {b:Frame} {cs:List Frame} {nt:Nat} {o:Base} {k:List Item} {env:ab} {σ:List Row}
variable {ops:Array Oper} {i:Nat} {rest:List Nat} {op:Oper} {f:FuncId} {e:Array Value->Sem Value} {args:Array Operand} {vs:List Value} {fn:Func}
theorem mD {S:aD} {B:aP} {l:List Value} {vs:Array Value} (h:fj S B σ (l.map θ.z) vs):vs=l.toArray:=by
 apply Array.ext';apply List.ext_getElem?;intro i;have I:=h.1;rw[List.length_map] at I;by_cases hi:i<l.length
 ·have Γ:(l.map θ.z)[i]?=some (.z l[i]):=by rw[List.getElem?_map,ba hi];rfl
  have Θ:vs[i]?=some vs[i]:=gF γ
  have:=h.2 i _ _ Γ Θ
  have:vs[i]=l[i]:=by generalize vs[i]=u at this;cases this;rfl
  rw[Array.getElem?_toList,Θ,this];simp[hi]
 ·rw[Array.getElem?_toList,Array.getElem?_eq_none γ];simp;omega
theorem V.call (U:Seq z) (bR:mC b ops i op) (hw:fl env ops op=some true) {y:Operand} {ej:Array TypeId} (Κ:op.op=.call ⟨.value y,args,ej⟩) {g:FuncId} {first captured:List θ} (Υ:aM env y=.fn (.func g) first captured) (Ο:Plain P g)
  (h:∀(S:aD) (B:aP) (H:π) (t:Array Value) (vs:Array Value),eO o.m o.S o.B o.H o.σ S B H σ->fi o.m nt S B H σ env t->fj S B σ (first++args.toList.map (aM env)++captured) vs->
   aE P Q mn z (Frame.enter P g vs .normal) (ax b t (.inRegion ops (i::rest)::k)::cs) H):V P Q mn z b cs nt o (.inRegion ops (i::rest)::k) env σ:=by
 intro S B H t κ ς;refine .op U bR.run bR.op (j6 ς.b5 hw) (.inr λc=>by rw[Κ];simp) ?_;have e:execOp (br t) op=(do let d <-Deferred.ofValue (br t y) (args.map (br t));invoke d.target d.args):=by unfold execOp;rw[Κ];rfl
 rw[e];have bu:=lB ς.b5 y;have nI:=Hm ς.b5 args;rw[Υ] at bu;generalize br t y=ag at bu;cases bu with
 | fn v1 v2 I R ν Ι=>
  refine ξ.bind' (ξ.pure' ?_);obtain⟨fn,cf,oN,C4⟩:=Ο;unfold invoke;simp only;unfold callFunc;refine ξ.bind' ?_;show ξ P (match P.funcs[g]? with|none=>_|some fn=>_) H _ _;rw[cf];simp only[oN,C4,Bool.false_eq_true,if_false];refine ξ.pure' ?_;have r1:fj S B σ first v1:=⟨I,ν⟩
  have r2:fj S B σ captured v2:=⟨R,Ι⟩;exact h S B H t _ κ ς ((r1.append nI).append r2)
theorem V.qb {g:FuncId} {body:Code} (cf:P.funcs[g]?=some fn) (m6:fn.body=some body) {c:Frame} {S:aD} {B:aP} {H:π} (χ:Holds S B σ H) (Ε:vs.length<=fn.ntmps)
  (h:V P Q mn z (Frame.enter P g vs.toArray .normal) (c::cs) fn.ntmps ⟨S,[],H,[],0⟩ [.code body] (entry 0 (vs.map θ.z)) []):aE P Q mn z (Frame.enter P g vs.toArray .normal) (c::cs) H:=by
 rw[nR cf m6];refine h.here (fi.enter χ.bare ⟨η,λi a v I R=>?_⟩ (Nat.le_refl _) (by simpa using Ε));simp only[List.getElem?_map,List.getElem?_toArray] at I R;rw[R] at I;cases I;exact .z v
theorem V.HK (U:Seq z) (hb:b.mode=.run) (cr:b.roundOf=none) (eu:b.defers=[]) (gn:b.kind=.normal) (cf:P.funcs[b.fn]?=some fn) (e5:fn.results=#[]) {c:Frame}
  (h:∀(S:aD) (B:aP) (H:π),eO o.m o.S o.B o.H o.σ S B H σ->Holds S B σ H->aE P Q mn z (c.finish (.tuple #[])) cs H):V P Q mn z b (c::cs) nt o (.code .ret::k) env σ:=by
 intro S B H t κ ς;refine .ret U hb cr (.back U rfl eu (.inl gn) cf ?_);rw[results_none e5];exact ξ.pure' (h S B H κ ς.holds)
theorem V.DT (U:Seq z) (hb:b.mode=.run) (cr:b.roundOf=none) (eu:b.defers=[]) (gn:b.kind=.normal) (cf:P.funcs[b.fn]?=some fn) (e5:fn.results=#[]) {c:Frame}
  (h:∀(S:aD) (B:aP) (H:π),eO o.m o.S o.B o.H o.σ S B H σ->Holds S B σ H->aE P Q mn z (c.finish (.tuple #[])) cs H):V P Q mn z b (c::cs) nt o [] env σ:=by
 intro S B H t κ ς;refine .rO U hb cr (.back U rfl eu (.inl gn) cf ?_);rw[results_none e5];exact ξ.pure' (h S B H κ ς.holds)
theorem V.sD (U:Seq z) (hb:b.mode=.run) (cr:b.roundOf=none) (eu:b.defers=[]) (gn:b.kind=.normal) (cf:P.funcs[b.fn]?=some fn) {d:Nat} (e5:fn.results=#[.tmp d]) {v:Value} (hv:bc env d=.z v) {c:Frame}
  (h:∀(S:aD) (B:aP) (H:π),eO o.m o.S o.B o.H o.σ S B H σ->Holds S B σ H->aE P Q mn z (c.finish v) cs H):V P Q mn z b (c::cs) nt o (.code .ret::k) env σ:=by
 intro S B H t κ ς;refine .ret U hb cr (.back U rfl eu (.inl gn) cf ?_);have e:results fn t=pure (t.getD d undef):=by unfold results;rw[e5];simp
 have ly:t.getD d undef=v:=by
  have:=ς.b5 d;rw[hv] at this;generalize t.getD d undef=u at this;cases this;rfl
 show ξ P (results fn t) H _ _;rw[e,ly];exact ξ.pure' (h S B H κ ς.holds)
theorem Xb {w:World} {ty:TypeId} {kd:IntKind} (hu:P.underlying ty=some (.int kd)) {cv:Addr} {v:Value} (ε:w.cell? cv=some v):(Instr.loadAt ty (.pointer (some cv))).run P w=.ok v w/\(Instr.loadAt ty (.pointer (some cv))).events P w #[]=#[⟨.cell cv,false,false⟩]:=by
 constructor
 ·simp[Instr.loadAt,Instr.sureAddr,loadVar,isAgg,run_underlying hu,ε,Result.andThen]
 ·simp[Instr.loadAt,Instr.sureAddr,loadVar,isAgg,run_underlying hu,ε,events_load,Result.evThen]
theorem Xc {t:Array Value} {w:World} (bR:mC b ops i op) (hw:Region.wanted op (yielded ops t)=true) {ty:TypeId} {y:Operand} (Κ:op.op=.load ty y) {kd:IntKind} (hu:P.underlying ty=some (.int kd)) {cv:Addr} (Φ:br t y=.pointer (some cv)) {v:Value} (ε:w.cell? cv=some v) (Χ:(P.funcs[b.fn]?).any (·.norace)=true) :
  stepG P mn (Go.Conc.G (ax b t (.inRegion ops (i::rest)::k)) cs) w=.go (Go.Conc.G (ax b (put op t v) (.inRegion ops rest::k)) cs) w #[]:=by
 obtain⟨r1,r2⟩:=Xb (P:=P) hu ε;have e:execOp (br t) op=(do pure (.value (<-Instr.loadAt ty (.pointer (some cv))))):=by unfold execOp;rw[Κ,<-Φ]
 rw[gB bR.run bR.ro,gB bR.run bR.ro,<-tL];have ι:(execOp (⟨t,b.defers⟩:_root_.Go.Act).eval op).run P w=.ok (.value v) w:=by rw[lQ,e];simp[r1,Result.andThen]
 have he:(execOp (⟨t,b.defers⟩:_root_.Go.Act).eval op).events P w #[]=#[⟨.cell cv,false,false⟩]:=by rw[lQ,e];simp[r1,r2,Result.evThen]
 rw[stepG_value bR.op hw bR.kd ι];unfold listed;rw[he,seen_def,Χ];simp[seenStep]
section
variable {s:Nat} {sp:Spec} (U:eZ x) (b2:x.spec s=some sp) (cQ:¬fQ (x.tok s))
include U b2 cQ
theorem V.xL (bR:mC b ops i op) (hd:g4 nt op=true) (hw:fl env ops op=some true) {ty:TypeId} {y:Operand} (Κ:op.op=.load ty y) {kd:IntKind} (hu:P.underlying ty=some (.int kd)) {cv:Addr} (Φ:aM env y=.z (.pointer (some cv))) (Χ:(P.funcs[b.fn]?).any (·.norace)=true)
  (val:aN->Int) (ε:∀(ο:aN) (w:World),ο.toSpec=sp->At s ο w->w.cell? cv=some (.int kd (val ο)))
  (dp:∀φ ο,Seen x s sp φ ο->h3 P Q mn x b cs nt o ops rest k op env σ s φ ο (.int kd (val ο))\/∃t',qa P Q mn x b cs nt o ops rest k op env σ s φ ο (.int kd (val ο)) ο t') :
  V P Q mn (one x) b cs nt o (.inRegion ops (i::rest)::k) env σ:=by
 refine .atomic U b2 cQ hd hw λt w φ ο dx _ qF I R ν Ι=>.inl ?_;refine⟨.int kd (val ο),w,#[],Xc bR qF Κ hu (dx _ _ Φ) (ε ο w I R) Χ,fv.refl _ _ _,NC,?_⟩;exact(dp φ ο ⟨I,ν,Ι⟩).imp (λh=>⟨R,h⟩) λ⟨t',aB,bn⟩=>⟨ο,t',aB,R,.inr rfl,bn⟩
theorem V.conv (bR:mC b ops i op) (hd:g4 nt op=true) (hw:fl env ops op=some true) {src dst t0:TypeId} {y:Operand} (Κ:op.op=.convert src dst y) (μ:P.underlying src=some (.pointer t0)) (uT:P.underlying dst=some .unsafePointer) (cC:(P.info? t0).map (λi=>decide (i.size=0))=some false) {cv:Addr} (Φ:aM env y=.z (.pointer (some cv)))
  (ε:∀(ο:aN) (w:World),ο.toSpec=sp->At s ο w->∃v,w.cell? cv=some v)
  (dp:∀φ ο,Seen x s sp φ ο->h3 P Q mn x b cs nt o ops rest k op env σ s φ ο (.pointer (some cv))) :
  V P Q mn (one x) b cs nt o (.inRegion ops (i::rest)::k) env σ:=by
 refine .atomic U b2 cQ hd hw λt w φ ο dx _ qF I R ν Ι=>.inl ?_;obtain⟨v,hv⟩:=ε ο w I R;refine⟨.pointer (some cv),w,#[],?_,fv.refl _ _ _,NC,.inl ⟨R,dp φ ο ⟨I,ν,Ι⟩⟩⟩;have r1:=run_convert_to_unsafe (P:=P) μ uT cC hv;have r2:=events_convert_to_unsafe (P:=P) μ uT cC hv #[];have e:execOp (br t) op=(do pure (.value (<-convert src dst (.pointer (some cv))))):=by unfold execOp;rw[Κ,<-dx _ _ Φ]
 rw[gB bR.run bR.ro,gB bR.run bR.ro,<-tL];have ι:(execOp (⟨t,b.defers⟩:_root_.Go.Act).eval op).run P w=.ok (.value (.pointer (some cv))) w:=by rw[lQ,e];simp[r1,Result.andThen]
 have he:(execOp (⟨t,b.defers⟩:_root_.Go.Act).eval op).events P w #[]=#[]:=by rw[lQ,e];simp[r1,r2,Result.evThen]
 rw[stepG_value bR.op qF bR.kd ι];unfold listed;rw[he,seen_none]
end
theorem Xd (w:World):OsLater w.os w.later.os:=⟨w.tick,rfl⟩
theorem dL.later {H:π} {w:World} (h:Fits H w):dL H w H w.later #[]:=
 ⟨⟨h.aJ,h.row,h.obj⟩,⟨Nat.le_refl _,λb c t dV hb=>⟨c,hb,rfl,λ_ _=>rfl⟩,λb x hb _ _=>hb,Xd w,rfl,rfl⟩,⟨λb o v p h=>.inr ⟨v,p,h,id⟩,λb h=>.inr h⟩,λe he=>by simp at he⟩
theorem V.nano (U:Seq z) (h:gQ P b ops i op f Extern.OsHooks.nano args env vs nt) (Χ:(P.funcs[f]?).any (·.norace)=true) (ψ:∀τ:Int,V P Q mn z b cs nt o (.inRegion ops rest::k) (b6 op env (.z (.int .i64 τ))) σ):V P Q mn z b cs nt o (.inRegion ops (i::rest)::k) env σ:=by
 intro S B H t κ ς;obtain⟨fn,I,R,ν,Ι,aB⟩:=h.oS;obtain⟨ej,Κ⟩:=h.call;rw[I] at Χ;refine aE.own U λw Υ=>⟨_,_,_,_,H,?_,dL.later Υ,ψ ((w.os.mono+w.tick:Nat):Int) S B H _ κ (ς.put h.dst (.z _))⟩;rw[gB h.at_.run h.at_.ro,stepG_nanotime (a:=⟨t,b.defers⟩) h.at_.op (j6 ς.b5 h.want) h.at_.kd Κ I R ν Ι aB (by simpa using Χ),tL,<-gB h.at_.run h.at_.ro]
theorem V.canSpin (U:Seq z) {n:Int} (h:gQ P b ops i op f Extern.Sync.canSpin args env [.int .i64 n] nt) (ψ:∀y:Bool,(y=true->n<4)->V P Q mn z b cs nt o (.inRegion ops rest::k) (b6 op env (.z (.bool y))) σ):V P Q mn z b cs nt o (.inRegion ops (i::rest)::k) env σ:=by
 intro S B H t κ ς;obtain⟨fn,I,R,ν,Ι,aB⟩:=h.oS;obtain⟨ej,Κ⟩:=h.call;have hy:args.map (⟨t,b.defers⟩:_root_.Go.Act).eval=#[.int .i64 n]:=by rw[lQ];exact h.Ae.br ς.b5
 by_cases bn:n<4
 ·refine aE.own U λw Υ=>⟨_,_,_,_,H,?_,(dL.start Υ).draw (w.drawn+1),ψ w.spins (λ_=>bn) S B H _ κ (ς.put h.dst (.z _))⟩;rw[gB h.at_.run h.at_.ro,stepG_canSpin_ask (a:=⟨t,b.defers⟩) h.at_.op (j6 ς.b5 h.want) h.at_.kd Κ I R ν Ι aB hy bn,tL,<-gB h.at_.run h.at_.ro];rfl
 ·refine aE.own U λw Υ=>⟨_,_,w,#[],H,?_,dL.start Υ,ψ false (λh=>by cases h) S B H _ κ (ς.put h.dst (.z _))⟩;rw[gB h.at_.run h.at_.ro,stepG_canSpin_no (a:=⟨t,b.defers⟩) h.at_.op (j6 ς.b5 h.want) h.at_.kd Κ I R ν Ι aB hy γ,tL,<-gB h.at_.run h.at_.ro]
theorem V.DU (U:Seq z) {v:Value} (h:gQ P b ops i op f (λ_=>pure v) args env vs nt) (ψ:V P Q mn z b cs nt o (.inRegion ops rest::k) (b6 op env (.z v)) σ):V P Q mn z b cs nt o (.inRegion ops (i::rest)::k) env σ:=
 λS B H t κ ς=>aE.own U λw Υ=>⟨_,_,w,#[],H,h.step ς.b5 η η η,dL.start Υ,ψ S B H _ κ (ς.put h.dst (.z v))⟩
theorem V.HL (U:Seq z) (bR:mC b ops i op) (hw:fl env ops op=some true) (q2:op.dst=none) {ej:Array TypeId} (Κ:op.op=.defer ⟨.value (.func f),#[],ej⟩)
  (h:V P Q mn z {b with defers:=Go.Conc.dcall f #[]::b.defers} cs nt o (.inRegion ops rest::k) env σ):V P Q mn z b cs nt o (.inRegion ops (i::rest)::k) env σ:=by
 intro S B H t κ ς;have MX:put op t undef=t:=by unfold put;rw[q2]
 refine aE.still U (f':=ax {b with defers:=Go.Conc.dcall f #[]::b.defers} t (.inRegion ops rest::k)) (cs':=cs) (λw=>?_) (h S B H t κ ς);rw[gB bR.run bR.ro,stepG_defer (a:=⟨t,b.defers⟩) bR.op (j6 ς.b5 hw) bR.kd Κ];have:(⟨t,Go.Conc.dcall f #[]::b.defers⟩:_root_.Go.Act).put op.dst undef=⟨t,Go.Conc.dcall f #[]::b.defers⟩:=by rw[q2];rfl
 simp only[Array.map_empty,List.map_toArray,List.map_nil];rw[this,gB (b:={b with defers:=Go.Conc.dcall f #[]::b.defers}) bR.run bR.ro];rfl
theorem cm.Xe (U:eZ x) (hd:0<x.deaf) (hb:b.mode=.run) (cr:b.roundOf=none) {ds:List Deferred} (eu:b.defers=Go.Conc.dcall f #[]::ds) (he:Entry P f (λ_=>do mark .enable;pure Extern.Race.none_)) {H:π} {t:Array Value}
  (h:cm P Q mn {x with deaf:=x.deaf-1} {ax {b with defers:=ds} t k with mode:=.returning} cs H):cm P Q mn x {ax b t k with mode:=.returning} cs H:=by
 obtain⟨fn,I,R,ν,Ι,aB⟩:=he;refine Goes.step U.ok (.inr ⟨⟨rfl,rfl⟩,.inr (.inl ⟨Go.Conc.G {ax {b with defers:=ds} t k with mode:=.returning} cs,⟨rfl,rfl⟩,.inr ⟨hd,λw _=>⟨?_,h⟩⟩⟩)⟩);rw[gB hb cr,gB (b:={b with defers:=ds}) hb cr];exact stepG_unwind_entry (a:=⟨t,b.defers⟩) (v:=.tuple #[]) eu I R ν Ι aB (DL .enable) (DN .enable _) (ra η)
end
inductive Quiet (P:Program) (mn:Bool):Goroutine->Goroutine->Prop where
 | nil (g:Goroutine):Quiet P mn g g
 | cons {g g' NL:Goroutine}:ir g->(∀w,stepG P mn g w=.go g' w #[])->Quiet P mn g' NL->Quiet P mn g NL
section
variable {P:Program} {Q:Value->Prop} {mn:Bool} {x:aW} {g g':Goroutine}
theorem Quiet.runs (h:Quiet P mn g g') (ι:ir g'):ir g:=by
 cases h with
 | nil=>exact ι
 | cons I=>exact I
theorem Quiet.goes (h:Quiet P mn g g') (U:eZ x) (ι:ir g') (Ο:Goes P Q mn g' x):Goes P Q mn g x:=by
 induction h with
 | nil=>exact Ο
 | cons I R ν ω=>
  refine Goes.step U.ok (.inr ⟨I,.inl λw Υ hv=>?_⟩);rw[R w];refine⟨x.G,x.aG,ν.runs ι,fv.refl _ _ _,Υ,hv,⟨λb o v p h=>.inr ⟨v,p,h,id⟩,λb h=>.inr h⟩,λb c h=>.inl h,λe he=>by simp at he,λb c _ _ e he=>by simp at he,ω ι Ο⟩
end
end Go.TL
namespace Go.TL
open Go.Conc Go.Proofs
variable [bj]
def sE (P:Program) (Q:Value->Prop) (mn:Bool) (x:gJ) (b:Frame) (cs:List Frame) (nt:Nat) (o:Base) (L:Nat) (r:Loop) (k:List Item) (env:ab) (σ:List Row):Prop:=
 ∀(S:aD) (B:aP) (H:π) (t:Array Value),eO o.m o.S o.B o.H o.σ S B H σ->fi o.m nt S B H σ env t->¬B.has L->H.obj L=some (.loop r)->aE P Q mn x (ax b t k) cs H
theorem iI {S az:aD} {B B':aP} {H H':π} (he:Ext S B H az B' H') {L:Nat} {y:Obj} (Ε:¬B.has L) (av:H.obj L=some y):¬B'.has L/\H'.obj L=some y:=by
 have Υ:¬H.fresh L:=λh=>by rw[h.2.2.1] at av;cases av
 exact⟨λh=>(he.blocks L h).elim Ε Υ,by rw[(he.fH L Ε Υ).2.2];exact av⟩
theorem Xf {H:π} {L:Nat} {y:Obj} (av:H.e7 L):∀b,(H.aZ L y).fresh b↔H.fresh b:=by
 obtain⟨z,Μ⟩:=av;have key:∀b,((H.aZ L y).obj b=none↔H.obj b=none):=λb=>by
  by_cases e:b=L
  ·subst e;simp[π.aZ,Μ]
  ·simp[π.aZ,e]
 exact λb=>⟨λh=>⟨h.1,h.2.1,(key b).1 h.2.2.1,λΨ hb=>⟨(h.2.2.2 Ψ hb).1,(h.2.2.2 Ψ hb).2.1,(key Ψ).1 (h.2.2.2 Ψ hb).2.2⟩⟩,
  λh=>⟨h.1,h.2.1,(key b).2 h.2.2.1,λΨ hb=>⟨(h.2.2.2 Ψ hb).1,(h.2.2.2 Ψ hb).2.1,(key Ψ).2 (h.2.2.2 Ψ hb).2.2⟩⟩⟩
theorem Holds.aZ {S:aD} {B:aP} {σ:List Row} {H:π} {L:Nat} {y:Obj} (χ:Holds S B σ H) (Ε:¬B.has L):Holds S B σ (H.aZ L y):=by
 have a6:∀b,b≠L->ky H (H.aZ L y) b:=λb hb=>⟨λ_=>rfl,rfl,by simp[π.aZ,hb]⟩
 have ne:∀(id b N:Nat),B[id]?=some (some (b,N))->b≠L:=λid b N h e=>Ε (e▸oE h);refine⟨χ.dc,χ.len,λid r bo ι ek=>?_,χ.inj,χ.sep⟩;by_cases e4:r.live
 ·refine(χ.row id r bo ι ek).later (bQ.refl S B σ) (λb N e=>a6 b (ne id b N (by rw[ek,e]))) λm left cur e=>⟨rfl,rfl,λb N hb=>a6 b (ne m b N hb)⟩
 ·cases r<;>first|exact absurd trivial e4|trivial
theorem Ext.aZ {eg S:aD} {eh B:aP} {di H:π} {L:Nat} {y:Obj} (he:Ext eg eh di S B H) (Υ:di.fresh L) (av:H.e7 L):Ext eg eh di S B (H.aZ L y):=by
 refine⟨he.dc,λb hb oG=>?_,he.blocks,he.qQ,λb hb=>he.grow b ((Xf av b).1 hb)⟩;have:b≠L:=λe=>oG (e▸Υ);obtain⟨I,R,ν⟩:=he.fH b hb oG;exact⟨I,R,by simp[π.aZ,this,ν]⟩
section
variable {P:Program} {T:a9} {Q:Value->Prop} {mn:Bool} {x:gJ} {b:Frame} {cs:List Frame} {nt:Nat} {o:Base} {L:Nat} {r:Loop} {k:List Item} {env:ab} {σ:List Row}
theorem sE.eY (U:Seq x) (hb:b.mode=.run) (h:W P o.m nt k env σ (sE P Q mn x b cs nt o L r) (λ_ _ _=>False)):sE P Q mn x b cs nt o L r k env σ:=
 λS B H t κ ς jk av=>h Q mn x cs b S B H t U hb ς (λj env' σ' az B' H' t' af Μ eo hO υ=>by
  have e:af=j:=υ;subst e;obtain⟨I,R⟩:=iI eo.ext jk av;exact Μ az B' H' t' (κ.trans eo) hO I R) (λa env' σ' az B' H' t' af v he=>he.elim)
theorem sE.yield (U:Seq x) {ops:Array Oper} {i:Nat} {rest:List Nat} {op:Oper} (bR:mC b ops i op) (hw:fl env ops op=some true) {y:Operand} {args:Array Operand} {ej:Array TypeId} (Κ:op.op=.call ⟨.value y,args,ej⟩) (Υ:aM env y=.fn (.yield L) [] []) (cC:args.size=r.params.size)
  (h:∀(S:aD) (B:aP) (H:π) (t:Array Value) (vs:Array Value),eO o.m o.S o.B o.H o.σ S B H σ->fi o.m nt S B H σ env t->¬B.has L->H.obj L=some (.loop r)->fj S B σ (args.toList.map (aM env)) vs->
   aE P Q mn x (Frame.round L r.fn ((r.params.zip vs).foldl (λtmps (t,a)=>tmps.setIfInBounds t a) r.tmps) r.assign r.body .normal) (ax b t (.inRegion ops (i::rest)::k)::cs) H):sE P Q mn x b cs nt o L r (.inRegion ops (i::rest)::k) env σ:=by
 intro S B H t κ ς jk av;refine aE.op U bR.run bR.op (j6 ς.b5 hw) (.inr λc=>by rw[Κ];simp) ?_;have e:execOp (br t) op=(do let d <-Deferred.ofValue (br t y) (args.map (br t));invoke d.target d.args):=by unfold execOp;rw[Κ];rfl
 rw[e];have bu:=lB ς.b5 y;have nI:=Hm ς.b5 args;rw[Υ] at bu;generalize br t y=ag at bu;cases bu with
 | fn v1 v2 I R ν Ι=>
  have Γ:v1=#[]:=Array.eq_empty_of_size_eq_zero (by rw[<-I];rfl)
  have Θ:v2=#[]:=Array.eq_empty_of_size_eq_zero (by rw[<-R];rfl);subst Γ;subst Θ;refine ξ.bind' (ξ.pure' ?_);have wG:invoke (Target.fn (Fn.yield L) #[]) (#[]++args.map (br t))=Instr.yield L (args.map (br t)):=by simp[invoke]
  show ξ P (invoke (Target.fn (Fn.yield L) #[]) (#[]++args.map (br t))) H _ _;rw[wG];unfold Instr.yield;refine ξ.bind' (ξ.getLoop av ?_);rw[if_neg (by simp[cC])];refine ξ.bind' (ξ.pure' (ξ.pure' ?_));exact h S B H t _ κ ς jk av nI
end
end Go.TL
namespace Go.TL
open Go.Conc Go.Proofs
def qc (n:Nat) (l:List Nat):Nat->Option Nat
 | 0=>none
 | e+1=>if l.getD e 0+l.length=n+e then qc n l e else some e
def mE (l:List Nat) (i:Nat) (k:Nat):List Nat:=l.take i++((List.range k).map λj=>l.getD i 0+1+j)++l.drop (i+k)
def qd (n:Nat) (l:List Nat):Option (List Nat):=(qc n l l.length).map λi=>mE l i (l.length-i)
def n0 (n:Nat):Nat->List Nat->List (List Nat)
 | 0,l=>[l]
 | f+1,l=>l::match qd n l with|none=>[]|some m=>n0 n f m
def qe (n:Nat):Nat->List Nat->Bool
 | 0,l=>l.all (· < n)&&(qd n l).isNone
 | f+1,l=>l.all (· < n)&&match qd n l with|none=>true|some m=>qe n f m
def jl (n c:Nat):List (List Nat):=(List.range' c (n+1-c)).flatMap λm=>n0 n 300 (List.range m)
theorem Xg:∀n<11,∀m<n+1,qe n 300 (List.range m)=true:=by decide +kernel
theorem Xh {n c:Nat} (h:c<n+1):jl n c=n0 n 300 (List.range c)++jl n (c+1):=by
 unfold jl;have:n+1-c=(n+1-(c+1))+1:=γ;rw[this,List.range'_succ,List.flatMap_cons]
theorem Xi {n:Nat}:jl n (n+1)=[]:=by simp[jl]
theorem Xj {n f:Nat} {l:List Nat} (h:qe n f l=true):∀x∈l,x<n:=by
 cases f<;>simp only[qe,Bool.and_eq_true,List.all_eq_true,decide_eq_true_eq] at h<;>exact h.1
theorem Xk {n f:Nat} {l:List Nat} (h:qd n l=none):n0 n f l=[l]:=by
 cases f<;>simp[n0,h]
theorem Xl {n f:Nat} {l m:List Nat} (Α:qe n f l=true) (h:qd n l=some m):∃g,f=g+1/\n0 n f l=l::n0 n g m/\qe n g m=true:=by
 cases f with
 | zero=>simp[qe,h] at Α
 | succ g=>exact⟨g,rfl,by simp[n0,h],by simp[qe,h] at Α;exact Α.2⟩
theorem NM {l:List Nat} {i k:Nat} (h:i+k<=l.length):(mE l i k).length=l.length:=by simp[mE];omega
theorem Xm {l:List Nat} {i:Nat} (h:i<l.length):mE l i 1=l.set i (l[i]+1):=by
 unfold mE;rw[List.set_eq_take_append_cons_drop,if_pos h];simp[h]
theorem Xn {l:List Nat} {i k:Nat} (ψ:0<k) (h:i+k<=l.length):(mE l i k).getD (i+k-1) 0=l.getD i 0+k:=by
 unfold mE;have Γ:(l.take i).length=i:=by simp;omega
 rw[List.getD_eq_getElem?_getD,List.append_assoc,h4 γ,Γ,dv (by simp;omega)];have:i+k-1-i=k-1:=γ;rw[this,List.getElem?_map,List.getElem?_range γ];simp;omega
theorem Xo {l:List Nat} {i k:Nat} (h:i+k<l.length):(mE l i k).set (i+k) (l.getD i 0+k+1)=mE l i (k+1):=by
 unfold mE;have Γ:(l.take i++(List.range k).map λj=>l.getD i 0+1+j).length=i+k:=by simp;omega
 rw[List.set_append_right _ _ γ,Γ,Nat.sub_self,List.range_succ,List.map_append];have Θ:l.drop (i+k)=l[i+k]::l.drop (i+k+1):=List.drop_eq_getElem_cons h;rw[Θ,List.set_cons_zero];simp;constructor<;>omega
end Go.TL
