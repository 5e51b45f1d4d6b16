import Derived.Test.YtlabjopijpkiaaaGreatDAL
import Derived.Test.YtlabjopijpkiaaaGreatDAN
import Derived.Test.YtlabjopijpkiaaaGreatDAP
import Derived.Test.YtlabjopijpkiaaaGreatDAQ
set_option maxHeartbeats 16000000
set_option maxRecDepth 20000
set_option linter.unusedSectionVars false
set_option linter.unusedSimpArgs false
set_option linter.unusedVariables false
namespace Go.TL
open Go.Conc
variable [bj]
structure Base where
 S:aD
 B:aP
 H:π
 σ:List Row
 m:Nat
def V (P:Program) (Q:Value->Prop) (mn:Bool) (x:gJ) (b:Frame) (cs:List Frame) (nt:Nat) (o:Base) (k:List Item) (env:ab) (σ:List Row):Prop:=
 ∀(S:aD) (B:aP) (H:π) (t:Array Value),eO o.m o.S o.B o.H o.σ S B H σ->fi o.m nt S B H σ env t->aE P Q mn x (ax b t k) cs H
def MW (P:Program) (Q:Value->Prop) (mn:Bool) (x:gJ) (b:Frame) (cs:List Frame) (o:Base) (a:θ) (env:ab) (σ:List Row):Prop:=
 ∀(S:aD) (B:aP) (H:π) (t:Array Value) (k:List Item) (v:Value),eO o.m o.S o.B o.H o.σ S B H σ->Holds S B σ H->cX S B σ env t->au S B σ a v->aE P Q mn x {ax b t k with mode:=.panicking [{v,recovered:=false}]} cs H
structure vu (P:Program) (d:Deferred) (g:FuncId) (vs:Array Value):Prop where
 t1:∀r,d.target≠.collected r
 t2:d.target≠.nil
 run:∀w,(invoke d.target d.args).runT P w #[]=(.ok (.enter g vs) w,#[])
section
variable {P:Program} {T:a9} {A:List Nat} {Q:Value->Prop} {mn:Bool} {x:gJ} {b:Frame} {cs:List Frame} {m nt:Nat} {o:Base} {k:List Item} {env:ab} {σ:List Row} {S az:aD} {B B':aP} {H H':π} {σ':List Row} {t:Array Value} {Z:List Item->ab->List Row->Prop} {E:θ->ab->List Row->Prop}
theorem V.eY (U:Seq x) (hb:b.mode=.run) (h:W P o.m nt k env σ (V P Q mn x b cs nt o) (MW P Q mn x b cs o)):V P Q mn x b cs nt o k env σ:=
 λS B H t κ ς=>h Q mn x cs b S B H t U hb ς (λj env' σ' az B' H' t' af Μ eo hO υ=>by
  have e:af=j:=υ;subst e;exact Μ az B' H' t' (κ.trans eo) hO) (λa env' σ' az B' H' t' af v he eo χ μ ι=>he az B' H' t' af v (κ.trans eo) χ μ ι)
theorem V.b3 (U:Seq x) (h:W P o.m nt k env σ (V P Q mn x b cs nt o) (MW P Q mn x b cs o)) (hb:b.mode=.run:=by rfl):V P Q mn x b cs nt o k env σ:=.eY U hb h
theorem V.here (h:V P Q mn x b cs nt ⟨S,B,H,σ,m⟩ k env σ) (ς:fi m nt S B H σ env t):aE P Q mn x (ax b t k) cs H:=h S B H t .refl ς
theorem W.cn {id:Nat} {ops:Array Oper} (h:W P m nt (.inRegion ops (idx ops.size [])::k) env σ Z E):W P m nt (.code (.region id ops false)::k) env σ Z E:=
 λQ mn x cs b S B H t U hb ς Μ he=>.region U hb (by rw[<-idx_eq];exact h Q mn x cs b S B H t U hb ς Μ he)
theorem W.part (Η:bT P T) (is j7:List Nat) {ops:Array Oper} {l:List Nat} (υ:l=is++j7) (h:∀Δ:ab->List Row->Prop,(∀env σ,W P m nt (.inRegion ops j7::k) env σ Z E->Δ env σ)->run P T A nt ops is env σ Δ E):W P m nt (.inRegion ops l::k) env σ Z E:=
 υ▸Mn Η j7 is env σ (h _ λ_ _ h=>h)
theorem Hm (μ:cX S B σ env t) (args:Array Operand):fj S B σ (args.toList.map (aM env)) (args.map (br t)):=by
 refine⟨η,λi a v I R=>?_⟩;rw[List.getElem?_map,Array.getElem?_toList] at I;rw[Array.getElem?_map] at R;cases U:args[i]? with
 | none=>rw[U] at I;cases I
 | some y=>rw[U] at I R;cases I;cases R;exact lB μ y
theorem Plain.enter {g:FuncId} (h:Plain P g) (vs:Array Value) (w:World):(callFunc g vs).runT P w #[]=(.ok (.enter g vs) w,#[]):=by
 obtain⟨fn,I,R,ν⟩:=h;unfold callFunc;show Sem.runT P (Sem.bind program λp=>_) w #[]=_;simp only[program,Sem.bind];show Sem.runT P (match P.funcs[g]? with|none=>_|some fn=>_) w #[]=_;rw[I];simp only[R,ν,Bool.false_eq_true,if_false];rfl
theorem fi.put {op:Oper} {a:θ} {v:Value} (ς:fi m nt S B H σ env t) (hd:g4 nt op=true) (κ:au S B σ a v):fi m nt S B H σ (b6 op env a) (put op t v):=
 ⟨ς.holds,(q1 ς.b5 hd ς.size κ).1,(q1 ς.b5 hd ς.size κ).2,ς.rows⟩
theorem eO.all (h:eO m S B H σ az B' H' σ') (χ:Holds S B σ H) (hm:σ.length<=m):bQ S az B B' σ σ':=by
 have:=h.later
 rwa [List.take_of_length_le (by rw[χ.len];exact hm),List.take_of_length_le hm] at this
theorem V.defer (U:Seq x) (hb:b.mode=.run) (cr:b.roundOf=none) {ops:Array Oper} {i:Nat} {rest:List Nat} {op:Oper} (Α:ops[i]?=some op) (hw:fl env ops op=some true) (q2:op.dst=none) {f:Operand} {args:Array Operand} {ej:Array TypeId} (Κ:op.op=.defer ⟨.value f,args,ej⟩)
  {g:FuncId} {first captured:List θ} (Υ:aM env f=.fn (.func g) first captured) (Ο:Plain P g)
  (h:∀(S:aD) (B:aP) (H:π) (t:Array Value) (d:Deferred) (vs:Array Value),eO o.m o.S o.B o.H o.σ S B H σ->fi o.m nt S B H σ env t->fj S B σ (first++args.toList.map (aM env)++captured) vs->vu P d g vs->
   aE P Q mn x (ax {b with defers:=d::b.defers} t (.inRegion ops rest::k)) cs H):V P Q mn x b cs nt o (.inRegion ops (i::rest)::k) env σ:=by
 intro S B H t κ ς;refine .op U hb Α (j6 ς.b5 hw) (.inl cr) ?_;have bu:=lB ς.b5 f;rw[Υ] at bu;have nI:=Hm ς.b5 args;have e:execOp (br t) op=(do pure (.defer (<-Deferred.ofValue (br t f) (args.map (br t))))):=by unfold execOp;rw[Κ];rfl
 rw[e];generalize br t f=ag at bu;cases bu with
 | fn v1 v2 I R ν Ι=>
  refine ξ.bind' (ξ.pure' (ξ.pure' ?_));have MX:put op t undef=t:=by unfold put;rw[q2]
  simp only[Lt,MX];have r1:fj S B σ first v1:=⟨I,ν⟩
  have r2:fj S B σ captured v2:=⟨R,Ι⟩;exact h S B H t ⟨.fn (.func g) v2,v1++args.map (br t)⟩ (v1++args.map (br t)++v2) κ ς ((r1.append nI).append r2) ⟨λ_ h=>(by cases h),λh=>(by cases h),λw=>Ο.enter _ w⟩
theorem aE.recovered (U:Seq x) (hb:b.mode=.run) (cr:b.roundOf=none) {ops:Array Oper} {i:Nat} {rest:List Nat} {op:Oper} (Α:ops[i]?=some op) (Ο:op.guard=none) {ej:Array TypeId} (Κ:op.op=.call ⟨.builtin .recover,#[],ej⟩) {v:Value} {cs':List Frame}
  (ι:(tryRecover (ax b t (.inRegion ops (i::rest)::k)) cs=some (v,cs'))\/(tryRecover (ax b t (.inRegion ops (i::rest)::k)) cs=none/\v=.nilIface/\cs'=cs))
  (h:aE P Q mn x (ax b (put op t v) (.inRegion ops rest::k)) cs' H):aE P Q mn x (ax b t (.inRegion ops (i::rest)::k)) cs H:=by
 refine .op U hb Α (by unfold Region.wanted;rw[Ο]) (.inl cr) ?_;have e:execOp (br t) op=pure .recover:=by unfold execOp;rw[Κ];rfl
 rw[e];refine ξ.pure' ⟨cr,?_⟩;rcases ι with ι|⟨ι,rfl,rfl⟩
 ·rw[ι];exact h
 ·rw[ι];exact h
end
theorem results_none {fn:Func} (h:fn.results=#[]) (t:Array Value):results fn t=pure (.tuple #[]):=by
 unfold results;rw[h];simp
theorem nR {P:Program} {g:FuncId} {fn:Func} {body:Code} (cf:P.funcs[g]?=some fn) (m6:fn.body=some body) (vs:Array Value) (kd:CallKind):Frame.enter P g vs kd=ax (Frame.enter P g vs kd) (vs++Array.replicate (fn.ntmps-vs.size) undef) [.code body]:=by
 simp[Frame.enter,ax,cf,m6]
theorem fi.enter {S:aD} {B:aP} {H:π} {σ:List Row} {pX:List θ} {vs:Array Value} {nt m:Nat} (χ:Holds S B σ H) (hv:fj S B σ pX vs) (hm:m<=σ.length) (Ε:pX.length<=nt):fi m nt S B H σ (entry 0 pX) (vs++Array.replicate (nt-vs.size) undef):=
 ⟨χ,Mq hv _,by have:=hv.1;simp;omega,hm⟩
end Go.TL
namespace Go.TL
open Go.Proofs
variable [bj]
def gz (s:aL) (before:List cG) (p:cG):Int:=
 if p.c8<0\/(s.ai.length:Int)<=p.c8 then 3 else if before.any (λx=>x.c8==p.c8) then 4 else if valid p.seen=false\/valid p.bare=false then 1 else if sf p.seen p.bare=0 then 0 else 9
theorem VU (p x:cG):Ω Tryz.prog 195 [cA x,.aa [J p.c8,J p.seen,J p.bare]] (bs (x.c8==p.c8)):=by
 refine ak.body Ρ Tryz.func195 rfl rfl Tryz.ntmps195 rfl rfl η ?_;(repeat (first|apply al|(refine cM λΔ ζ=>?_;simp;(repeat (rw[ae];simp[]));apply ζ)));refine W.ret ⟨_,rfl,?_,rfl⟩;exact .of (by simp[])
theorem VV (s:aL) (before:List cG) (υ:before.length<2 ^ 62) (p:cG):ak Tryz.prog 153 [dH s,h0 before,cA p] [] (λa σ=>gz s before p=0/\a=.a3 []/\σ=[]) (λa σ=>gz s before p≠0/\a=.fJ 38 (J (gz s before p))/\σ=[]):=by
 refine ak.body Ρ Tryz.func153 rfl rfl Tryz.ntmps153 rfl rfl η ?_;(repeat (first|apply al|(refine cM λΔ ζ=>?_;simp;(repeat (rw[ae];simp[]));apply ζ)));refine W.Df (A:=[]) Ρ mixed [(6,J p.seen),(7,J p.bare),(1,h0 before),(3,.aa [aS s.Τ,aY s.ai,a7 s.cells]),(5,.aa [J p.c8,J p.seen,J p.bare])] ?_ (by simp[dZ,dY];exact oQ (by kernel_rfl))
 repeat apply al
 refine W.r7 (A:=[]) Ρ [(12,bs (decide (p.c8<0)||decide ((s.ai.length:Int)<=p.c8))),(6,J p.seen),(7,J p.bare),(1,h0 before),(3,.aa [aS s.Τ,aY s.ai,a7 s.cells]),(5,.aa [J p.c8,J p.seen,J p.bare])] ?_ (by by_cases q:p.c8<0<;>simp[ae,q3,q]);by_cases bK:p.c8<0\/(s.ai.length:Int)<=p.c8
 case pos=>
  have e:gz s before p=3:=by unfold gz;rw[if_pos bK]
  rw[e];refine aA (by simpa using bK) ?_;(repeat apply al);refine cM λΔ ζ=>?_;simp;(repeat (rw[ae];simp[]))
 refine ay (by simpa using bK) ?_;(repeat apply al);refine cM λΔ ζ=>?_;simp;(repeat (rw[ae];simp[]));refine Ω.c (VP before (.fn (.func 195) [] [.aa [J p.c8,J p.seen,J p.bare]]) (λx=>x.c8==p.c8) υ (by simp[hG]) (λx _=>λ_=>(VU p x).cc (by simp;exact b9.refl _) η η ⟨rfl,rfl⟩)) (b9.refl _) (by simp[hG]) η ?_;simp;(repeat (rw[ae];simp[]));apply ζ;cases da:before.any (λx=>x.c8==p.c8)
 case true=>
  have e:gz s before p=4:=by unfold gz;rw[if_neg bK,if_pos da]
  rw[e];refine aA η ?_;(repeat apply al);refine cM λΔ ζ=>?_;simp;(repeat (rw[ae];simp[]))
 refine ay η ?_
 repeat apply al
 have MY:(valid p.seen=false\/valid p.bare=false)->gz s before p=1:=λh=>by unfold gz;rw[if_neg bK,da];simp[h]
 cases fP:valid p.seen
 case false=>
  rw[MY (.inl fP)];(repeat apply al);refine cM λΔ ζ=>?_;simp;(repeat (rw[ae];simp[]));refine Ω.c (xm p.seen) (b9.refl _) η η ?_;simp[fP];(repeat (rw[ae];simp[fP]));apply ζ;refine aA rfl ?_;(repeat apply al);refine cM λΔ ζ=>?_;simp;(repeat (rw[ae];simp[]))
 cases l9:valid p.bare
 case false=>
  rw[MY (.inr l9)];(repeat apply al);refine cM λΔ ζ=>?_;simp;(repeat (rw[ae];simp[]));refine Ω.c (xm p.seen) (b9.refl _) η η ?_;simp[fP];(repeat (rw[ae];simp[fP]));refine Ω.c (xm p.bare) (b9.refl _) η η ?_;simp[l9];(repeat (rw[ae];simp[l9]));apply ζ;refine aA rfl ?_;(repeat apply al);refine cM λΔ ζ=>?_;simp;(repeat (rw[ae];simp[]))
 (repeat apply al);refine cM λΔ ζ=>?_;simp;(repeat (rw[ae];simp[]));refine Ω.c (xm p.seen) (b9.refl _) η η ?_;simp[fP];(repeat (rw[ae];simp[fP]));refine Ω.c (xm p.bare) (b9.refl _) η η ?_;simp[l9];(repeat (rw[ae];simp[l9]));apply ζ;refine ay rfl ?_;(repeat apply al);refine cM λΔ ζ=>?_;simp;(repeat (rw[ae];simp[]));refine Ω.c (MO p.seen p.bare) (b9.refl _) η η ?_;simp[];(repeat (rw[ae];simp[]));apply ζ;by_cases tD:sf p.seen p.bare=0
 ·have e:gz s before p=0:=by unfold gz;rw[if_neg bK,da];simp[fP,l9,tD]
  refine ay (by simp[tD]) ?_;(repeat (first|apply al|(refine cM λΔ ζ=>?_;simp;(repeat (rw[ae];simp[]));apply ζ)));exact W.nil ⟨_,rfl,e,rfl,rfl⟩
 ·have e:gz s before p=9:=by unfold gz;rw[if_neg bK,da];simp[fP,l9,tD]
  rw[e];refine aA (by simp[tD]) ?_;(repeat apply al);refine cM λΔ ζ=>?_;simp;(repeat (rw[ae];simp[]))
end Go.TL
namespace Go.TL
open Go.Proofs Go.Conc
variable [bj]
theorem fj.later {S az:aD} {B B':aP} {σ σ':List Row} {l:List θ} {vs:Array Value} (h:fj S B σ l vs) (υ:bQ S az B B' σ σ'):fj az B' σ' l vs:=⟨h.1,λi a v I R=>(h.2 i a v I R).later υ⟩
theorem ts.fin {P:Program} {Q:Value->Prop} {mn:Bool} {x:gJ} {c:Frame} {rest:List Frame} {S az:aD} {H H':π} {B':aP} {σ':List Row} {v:Value} {r:θ} (hb:ts P Q mn x c rest S [] H [] (λa s=>cp a r/\s=[]) (λ_ _=>False))
  (he:Ext S [] H az B' H') (χ:Holds az B' σ' H') (ι:∀S B σ,au S B σ r v):aE P Q mn x (c.finish v) rest H':=by
 obtain⟨I,R⟩:=χ.close (h:=0) (λid r b7=>γ);simp only[List.take_zero] at I R;exact hb.ret r [] _ [] H' v ⟨.refl _,rfl⟩ (he.trans R) ⟨λb o v hv=>R.dc _ _ _ (he.dc _ _ _ hv),λid r h=>by simp at h⟩ I (ι _ _ _)
abbrev sj (e:Int):List Row:=[.cells 38 1 [J e]]
section
variable {Q:Value->Prop} {mn:Bool} {x:gJ} {c f:Frame} {rest:List Frame} {S bz:aD} {bB:aP} {H H1:π} {cW e:Int} {oZ:Array Value} {t:Array Value} {env:ab} {err:Int}
theorem MZ (U:Seq x) (hb:ts Tryz.prog Q mn x c rest S [] H [] (λa s=>cp a (J err)/\s=[]) (λ_ _=>False)) {d:Deferred} (hd:vu Tryz.prog d 152 oZ)
  (cf:f.fn=122) (eu:f.defers=[d]) (ψ:f.kind=.normal) (cr:f.roundOf=none) (hm:(f.mode=.returning/\cW=err)\/∃v,f.mode=.panicking [{v,recovered:=false}]/\au bz bB (sj cW) (.fJ 38 (J err)) v)
  (xo:Ext S [] H bz bB H1) (χ:Holds bz bB (sj cW) H1) (hv:fj bz bB (sj cW) [.an 0 1 0 0] oZ) (μ:cX bz bB (sj cW) env f.tmps) (bn:bc env 6=.an 0 1 0 0):aE Tryz.prog Q mn x f (c::rest) H1:=by
 have VW:f.mode≠.run:=by rcases hm with⟨h,_⟩|⟨v,h,_⟩<;>rw[h]<;>simp
 refine aE.deferred U VW eu hd.t1 hd.t2 hd.run ?_;rw[nR Tryz.func152 rfl];have fin:∀(f':Frame) (jN:aD) (o0:aP) (jO:π),f'.mode=.returning->f'.defers=[]->f'.kind=.normal->f'.fn=f.fn->f'.tmps=f.tmps->Ext bz bB H1 jN o0 jO->bQ bz jN bB o0 (sj cW) (sj err)->Holds jN o0 (sj err) jO->aE Tryz.prog Q mn x f' (c::rest) jO:=λf' jN o0 jO ff eD tE xp zY df av kJ=>by
  refine aE.back U ff eD (.inl tE) (fn:=Tryz.f122) (by rw[xp,cf];exact Tryz.func122) ?_;rw[zY];refine ξ.mono (λv fE ⟨gm,gN,eU,sW,aB,uz⟩=>?_) (λ_ _ h=>h) _ (zv Ρ (a:=J err) (show nJ bf [.cell 6 38] env (sj err)=some (J err) by simp[nJ,q4,xh,bn,r8,hR.agg]) kJ (μ.later av));cases uz;exact hb.fin (xo.trans (df.trans eU)) aB λ_ _ _=>.z _
 refine V.here (m:=1) (nt:=10) (env:=entry 0 [.an 0 1 0 0]) ?_ (fi.enter χ hv η η);refine V.eY U rfl ?_
 repeat apply al
 refine W.cn ?_;refine W.stop ?_;intro jP jQ hJ t3 fW eG;rcases hm with⟨hm,rfl⟩|⟨v,hm,sk⟩
 ·refine aE.recovered U rfl rfl rfl rfl rfl (v:=.nilIface) (.inr ⟨?_,rfl,rfl⟩) ?_
  ·simp[tryRecover,ax,Frame.enter,hm]
  ·refine V.here (m:=1) ?_ (eG.put rfl (.z .nilIface));refine V.eY U rfl ?_;refine W.part (A:=[]) Ρ [1,2,3,4,5,6] [] rfl λΔ ζ=>?_;simp[uZ];(repeat (rw[ae];simp[uZ]));apply ζ;refine W.bJ ?_;refine Β ?_;refine ay rfl ?_;refine Β ?_;refine W.stop ?_;intro jN o0 jO t4 sm pY;refine .rO U rfl rfl ?_;refine aE.FY U rfl rfl rfl Tryz.func152 ?_;rw[results_none rfl];refine ξ.pure' ?_;simp only[hm];exact fin _ jN o0 jO rfl rfl ψ rfl rfl (fW.ext.trans sm.ext) ((fW.trans sm).all χ η) pY.holds
 ·have sn:au jP jQ (sj cW) (.fJ 38 (J err)) v:=sk.later (fW.all χ η);refine aE.recovered U rfl rfl rfl rfl rfl (v:=v) (cs':={f with defers:=[],mode:=.panicking [{v,recovered:=true}]}::c::rest) (.inl ?_) ?_
  ·simp[tryRecover,ax,Frame.enter,hm]
  ·refine V.here (m:=1) ?_ (eG.put rfl sn);refine V.eY U rfl ?_;refine W.part (A:=[]) Ρ [1,2,3,4,5,6] [] rfl λΔ ζ=>?_;simp[uZ];(repeat (rw[ae];simp[uZ]));apply ζ;refine W.bJ ?_;refine Β ?_;refine aA rfl ?_;refine Β ?_;refine W.stop ?_;intro jN o0 jO t4 sm pY;refine .rO U rfl rfl ?_;refine aE.FY U rfl rfl rfl Tryz.func152 ?_;rw[results_none rfl];refine ξ.pure' ?_;exact fin _ jN o0 jO rfl rfl ψ rfl rfl (fW.ext.trans sm.ext) ((fW.trans sm).all χ η) pY.holds
end
theorem M0 (s:aL) (before:List cG) (υ:before.length<2 ^ 62) (p:cG):Ω Tryz.prog 122 [dH s,h0 before,cA p] (J (gz s before p)):=by
 refine⟨⟨_,Tryz.func122,rfl,rfl⟩,λQ mn x c rest S B H vs U χ hv hb=>?_⟩;have e1:B=[]:=dB.1 (by have:=χ.len;simpa using this);subst e1;rw[nR Tryz.func122 rfl];refine V.here (m:=0) (nt:=12) (env:=entry 0 [dH s,h0 before,cA p]) ?_ (fi.enter χ hv η η);refine V.eY U rfl ?_
 repeat apply al
 refine cR (A:=[6]) Ρ λΔ ζ=>aV ?_;apply ζ
 repeat apply al
 refine W.cn ?_;refine W.part (A:=[]) Ρ [0] [1] rfl λΔ ζ=>?_;(try simp);(repeat (rw[ae];simp[]));apply ζ;refine W.stop ?_;refine V.defer U rfl rfl rfl rfl rfl rfl rfl ⟨_,Tryz.func152,rfl,rfl⟩ λbz bB H1 t1 d oZ lL hK vd hd=>?_;refine V.here (m:=1) ?_ ⟨hK.holds,hK.b5,hK.size,η⟩;refine V.eY U rfl ?_;refine W.bJ ?_;refine a5 λΔ ζ=>?_;refine hV.mono (ak.call (first:=[]) (captured:=[]) ((VV s before υ p).mono (K':=λa bq=>gz s before p=0/\aK 0 a/\bq=[]) (E':=λa bq=>(gz s before p≠0/\a=.fJ 38 (J (gz s before p)))/\aK 0 a/\bq=[]) (λa bq ⟨I,R,ν⟩=>⟨I,by subst R;simp,ν⟩) (λa bq ⟨I,R,ν⟩=>⟨⟨I,R⟩,by subst R;simp,ν⟩) |>.frame η)) (λa bq ⟨ao,μ⟩=>?_) (λa bq ⟨⟨ao,κ⟩,μ⟩=>?_)
 ·subst μ;(try simp);(repeat (rw[ae];simp[]));apply ζ;refine Β ?_;refine W.stop ?_;intro cL eL bH t2 q6 mq;refine aE.ret (b:={Frame.enter Tryz.prog 122 vs .normal with defers:=[d]}) U rfl rfl ?_;exact MZ U hb hd rfl rfl rfl rfl (.inl ⟨rfl,ao.symm⟩) (lL.ext.trans q6.ext) mq.holds (vd.later (q6.all hK.holds η)) mq.b5 rfl
 ·subst μ;subst κ;intro cL eL bH t2 bG v q6 iU dk pZ;have mr:=q6.all hK.holds η;refine MZ U hb hd rfl rfl rfl rfl (.inr ⟨v,rfl,pZ⟩) (lL.ext.trans q6.ext) iU (vd.later mr) dk ?_;rfl
end Go.TL
namespace Go.TL
open Go.Proofs
variable [bj]
theorem VX:IntKind.i64.wrap 3=3:=a0
def vv (l:List Int) (i:Nat):Int:=match l[i]? with
 | none=>0
 | some n=>if m7 n=false then 3 else if 0<i/\n<=(l[i-1]?).getD 0 then 5 else 0
def xq (l:List Int):Int:=iH ((List.range l.length).map (vv l))
def nS (ls:List (List Int)):Int:=if ls.length=0 then 7 else if 4<ls.length then 6 else iH ((List.range ls.length).map λi=>xq ((ls[i]?).getD []))
theorem VY (s:aL) (μ:s.small):Ω Tryz.prog 104 [dH s] (J (nS s.ai)):=by
 refine ak.body Ρ Tryz.func104 rfl rfl Tryz.ntmps104 rfl rfl η ?_;have υ:=μ.2.1;by_cases hE:s.ai.length=0
 ·refine aT hE ?_;refine aA η ?_;refine Β ?_;refine W.rt ?_;exact .of (by rw[show nS s.ai=7 by simp[nS,hE]];rfl)
 by_cases oY:(4:Int)<s.ai.length
 ·refine aT (Ζ hE oY) ?_;refine ay (by simp[hE]) ?_;refine aT (Ζ hE oY) ?_;refine aA η ?_;refine Β ?_;refine W.rt ?_;exact .of (by rw[show nS s.ai=6 by simp[nS,hE];omega];rfl)
 have zX:nS s.ai=iH ((List.range s.ai.length).map λi=>xq ((s.ai[i]?).getD [])):=by
  unfold nS;rw[if_neg hE,if_neg γ]
 rw[zX];refine aT (Ζ hE oY) ?_;refine ay (by simp[hE]) ?_;refine aT (Ζ hE oY) ?_;refine ay η ?_;refine Β ?_;refine W.iter (λi:Nat=>i<=s.ai.length/\∀j,j<i->xq ((s.ai[j]?).getD [])=0) (λi=>[(1,.aa [aS s.Τ,aY s.ai,a7 s.cells]),(18,aY s.ai),(19,J s.ai.length),(20,J i)]) (λ_=>[]) (λi=>s.ai.length-i) 0 ⟨γ,λj δ=>γ⟩ rfl η (λi hi ω=>?_);refine Β ?_;refine W.fL rfl (λε=>?_) (λε=>?_)
 ·have ε:i<s.ai.length:=by simpa using ε
  have pW:(s.ai[i]?).getD []=s.ai[i]:=by simp[ε]
  have ς:s.ai[i].length<2 ^ 30:=μ.2.2.2.1 _ (List.getElem_mem ε);refine aT ε ?_;refine W.iter (λn:Nat=>n<=s.ai[i].length/\∀j,j<n->vv s.ai[i] j=0) (λn=>[(1,.aa [aS s.Τ,aY s.ai,a7 s.cells]),(18,aY s.ai),(19,J s.ai.length),(20,J i),(4,cS J 1 s.ai[i]),(24,cS J 1 s.ai[i]),(25,J s.ai[i].length),(26,J n)]) (λ_=>[]) (λn=>s.ai[i].length-n) 0 ⟨γ,λj δ=>γ⟩ rfl η (λn Ε Hn=>?_);refine Β ?_;refine W.fL rfl (λbg=>?_) (λbg=>?_)
  ·have hd:n<s.ai[i].length:=by simpa using bg
   have xr:s.ai[i][n]?=some s.ai[i][n]:=ba hd
   have fin:∀e:Int,vv s.ai[i] n=e->e≠0->iH ((List.range s.ai.length).map λi=>xq ((s.ai[i]?).getD []))=e:=λe he ao=>
    zU (i:=i) ε (by rw[pW];exact zU hd he ao Ε.2) ao hi.2
   repeat apply al
   refine tz hd ?_;refine a5 λΔ ζ=>?_;refine Ω.d (oU s.ai[i][n]) (aV ?_);apply ζ;cases bK:m7 s.ai[i][n]
   ·refine aA η ?_;refine Β ?_;refine W.rt ?_;exact .of (by rw[fin 3 (by simp[vv,xr,bK]) a0];rfl)
   refine ay η ?_
   repeat apply al
   refine W.r7 (A:=[]) Ρ [(35,bs (decide (0<n/\s.ai[i][n]<=(s.ai[i][n-1]?).getD 0))),(1,.aa [aS s.Τ,aY s.ai,a7 s.cells]),(18,aY s.ai),(19,J s.ai.length),(20,J i),(4,cS J 1 s.ai[i]),(24,cS J 1 s.ai[i]),(25,J s.ai[i].length),(26,J n)] ?_ (by
    cases n with
    | zero=>simp[ae,q3]
    | succ n=>
     have m8:n<s.ai[i].length:=γ
     have Γ:=et (show n<2 ^ 62 by omega)
     have ao:(0:Int)<(n:Int)+1:=γ;simp[ae,q3,ao,m8,Γ])
   by_cases da:0<n/\s.ai[i][n]<=(s.ai[i][n-1]?).getD 0
   ·refine aA (by simp only[da];rfl) ?_;refine Β ?_;refine W.rt ?_;exact .of (by rw[fin 5 (by simp only[vv,xr,bK];rw[if_neg η,if_pos da]) a0];rfl)
   ·refine ay (by simp only[da];rfl) ?_;refine Β ?_;refine W.forget _ ?_ (Hn (n+1) ⟨hd,λj δ=>?_⟩ γ)
    ·simp[eX hd (show s.ai[i].length<2 ^ 62 by omega)]
    ·by_cases e:j=n
     ·subst e;simp only[vv,xr,bK];rw[if_neg η,if_neg da]
     ·exact Ε.2 j γ
  ·have hd:s.ai[i].length<=n:=by simpa using bg
   refine W.exit rfl ?_;refine Β ?_;refine W.forget _ ?_ (ω (i+1) ⟨ε,λj δ=>?_⟩ γ)
   ·simp[eX ε (show s.ai.length<2 ^ 62 by omega)]
   ·by_cases e:j=i
    ·subst e;rw[pW];exact zV λj δ=>Ε.2 j γ
    ·exact hi.2 j γ
 ·have ε:s.ai.length<=i:=by simpa using ε
  refine W.exit rfl ?_;refine Β ?_;refine W.rt ?_;exact .of (by rw[zV (f:=λi=>xq ((s.ai[i]?).getD [])) λj δ=>hi.2 j γ];rfl)
def p0 (s:aL) (c:List cG):Int:=if 4<c.length then 6 else iH ((List.range c.length).map λi=>match c[i]? with|none=>0|some p=>gz s (c.take i) p)
def so (s:aL):Int:=if 4<s.cells.length then 6 else iH ((List.range s.cells.length).map λi=>p0 s ((s.cells[i]?).getD []))
theorem VZ (s:aL) (μ:s.small):Ω Tryz.prog 105 [dH s] (J (so s)):=by
 refine ak.body Ρ Tryz.func105 rfl rfl Tryz.ntmps105 rfl rfl η ?_;have υ:=μ.2.2.1;by_cases oY:(4:Int)<s.cells.length
 ·refine aT oY ?_;refine aA η ?_;refine Β ?_;refine W.rt ?_;exact .of (by rw[show so s=6 by simp[so];omega];rfl)
 have zX:so s=iH ((List.range s.cells.length).map λi=>p0 s ((s.cells[i]?).getD [])):=by
  unfold so;rw[if_neg γ]
 rw[zX];refine aT oY ?_;refine ay η ?_;refine Β ?_;refine W.iter (λi:Nat=>i<=s.cells.length/\∀j,j<i->p0 s ((s.cells[j]?).getD [])=0) (λi=>[(1,.aa [aS s.Τ,aY s.ai,a7 s.cells]),(13,a7 s.cells),(14,J s.cells.length),(15,J i)]) (λ_=>[]) (λi=>s.cells.length-i) 0 ⟨γ,λj δ=>γ⟩ rfl η (λi hi ω=>?_);refine Β ?_;refine W.fL rfl (λε=>?_) (λε=>?_)
 ·have ε:i<s.cells.length:=by simpa using ε
  have pW:(s.cells[i]?).getD []=s.cells[i]:=by simp[ε]
  have ς:s.cells[i].length<2 ^ 30:=μ.2.2.2.2 _ (List.getElem_mem ε)
  have M1:∀e:Int,p0 s s.cells[i]=e->e≠0->iH ((List.range s.cells.length).map λi=>p0 s ((s.cells[i]?).getD []))=e:=λe he ao=>
   zU (i:=i) ε (by rw[pW];exact he) ao hi.2
  by_cases CP:(4:Int)<s.cells[i].length
  ·refine aT (Ζ ε CP) ?_;refine aA η ?_;refine Β ?_;refine W.rt ?_;exact .of (by rw[M1 6 (by unfold p0;rw[if_pos γ]) a0];rfl)
  refine aT (Ζ ε CP) ?_;refine ay η ?_;refine Β ?_;have M3:p0 s s.cells[i]=iH ((List.range s.cells[i].length).map λn=>match s.cells[i][n]? with|none=>0|some p=>gz s (s.cells[i].take n) p):=by unfold p0;rw[if_neg γ]
  refine W.iter (λn:Nat=>n<=s.cells[i].length/\∀j,j<n->(match s.cells[i][j]? with|none=>0|some p=>gz s (s.cells[i].take j) p)=0) (λn=>[(1,.aa [aS s.Τ,aY s.ai,a7 s.cells]),(13,a7 s.cells),(14,J s.cells.length),(15,J i),(4,h0 s.cells[i]),(22,h0 s.cells[i]),(23,J s.cells[i].length),(24,J n)]) (λ_=>[]) (λn=>s.cells[i].length-n) 0 ⟨γ,λj δ=>γ⟩ rfl η (λn Ε Hn=>?_);refine Β ?_;refine W.fL rfl (λbg=>?_) (λbg=>?_)
  ·have hd:n<s.cells[i].length:=by simpa using bg
   have xr:s.cells[i][n]?=some s.cells[i][n]:=ba hd
   repeat apply al
   refine cR (A:=[6]) Ρ λΔ ζ=>fV hd ?_;apply ζ;refine W.fix (id:=0) (σ':=[]) (Nat.zero_le _) rfl η η rfl [(5,J n),(6,.aa [J s.cells[i][n].c8,J s.cells[i][n].seen,J s.cells[i][n].bare]),(1,.aa [aS s.Τ,aY s.ai,a7 s.cells]),(13,a7 s.cells),(14,J s.cells.length),(15,J i),(4,h0 s.cells[i]),(22,h0 s.cells[i]),(23,J s.cells[i].length),(24,J n)] η ?_
   repeat apply al
   refine W.draw (A:=[]) Ρ mixed λΔ ζ=>?_;simp;(repeat (rw[dZ];simp[hd,Nat.le_of_lt hd]));try rw[dY]
   (try simp only[<-List.map_take]);refine eS (Ω.q (M0 s (s.cells[i].take n) (by simp;omega) s.cells[i][n])) (hZ ?_);refine fC (ζ _ _ ?_)
   repeat apply al
   refine Β ?_;by_cases b:gz s (s.cells[i].take n) s.cells[i][n]=0
   ·refine ay (by simp[b]) ?_;refine Β ?_;refine W.forget _ ?_ (Hn (n+1) ⟨hd,λj δ=>?_⟩ γ)
    ·simp[eX hd (show s.cells[i].length<2 ^ 62 by omega)]
    ·by_cases e:j=n
     ·subst e;rw[xr];exact b
     ·exact Ε.2 j γ
   ·refine aA (by simp[b]) ?_;refine Β ?_;refine W.rt ?_;exact .of (by rw[M1 (gz s (s.cells[i].take n) s.cells[i][n]) (by rw[M3];exact zU hd (by rw[xr]) b Ε.2) b];rfl)
  ·have hd:s.cells[i].length<=n:=by simpa using bg
   refine W.exit rfl ?_;refine Β ?_;refine W.forget _ ?_ (ω (i+1) ⟨ε,λj δ=>?_⟩ γ)
   ·simp[eX ε (show s.cells.length<2 ^ 62 by omega)]
   ·by_cases e:j=i
    ·subst e;rw[pW,M3];exact zV λj δ=>Ε.2 j γ
    ·exact hi.2 j γ
 ·have ε:s.cells.length<=i:=by simpa using ε
  refine W.exit rfl ?_;refine Β ?_;refine W.rt ?_;exact .of (by rw[zV (f:=λi=>p0 s ((s.cells[i]?).getD [])) λj δ=>hi.2 j γ];rfl)
def aL.err (s:aL):Int:=if nQ s.Τ≠0 then nQ s.Τ else if nS s.ai≠0 then nS s.ai else so s
theorem p1 (s:aL) (μ:s.small):Ω Tryz.prog 48 [dH s] (J s.err):=by
 refine ak.body Ρ Tryz.func48 rfl rfl Tryz.ntmps48 rfl rfl η ?_;refine Β ?_;refine .loop ?_;refine Β ?_;refine aA rfl ?_;refine Β ?_;refine a5 λΔ ζ=>?_;refine Ω.d (VT s μ) (aV ?_);apply ζ;refine Β ?_;by_cases bK:nQ s.Τ=0
 case neg=>
  refine aA (by simp[bK]) ?_;refine Β ?_;refine W.rt ?_;exact .of (by rw[show s.err=nQ s.Τ by unfold aL.err;rw[if_pos bK]];rfl)
 refine ay (by simp[bK]) ?_;refine aT @He ?_;refine .inLoop ?_;refine Β ?_;refine aA rfl ?_;refine Β ?_;refine a5 λΔ ζ=>?_;refine Ω.d (VY s μ) (aV ?_);apply ζ;refine Β ?_;by_cases da:nS s.ai=0
 case neg=>
  refine aA (by simp[da]) ?_;refine Β ?_;refine W.rt ?_;exact .of (by rw[show s.err=nS s.ai by unfold aL.err;rw[if_neg (by simp[bK]),if_pos da]];rfl)
 refine ay (by simp[da]) ?_;refine aT @Hf ?_;refine .inLoop ?_;refine Β ?_;refine aA rfl ?_;refine Β ?_;refine a5 λΔ ζ=>?_;refine Ω.d (VZ s μ) (aV ?_);apply ζ;refine Β ?_;have e:s.err=so s:=by unfold aL.err;rw[if_neg (by simp[bK]),if_neg (by simp[da])]
 rw[e];by_cases fP:so s=0
 case neg=>
  refine aA (by simp[fP]) ?_;refine Β ?_;refine W.rt ?_;exact .of rfl
 refine ay (by simp[fP]) ?_;refine aT @VX ?_;refine .inLoop ?_;refine Β ?_;refine ay rfl ?_;refine W.exit rfl ?_;refine Β ?_;refine W.rt ?_;exact .of (by rw[fP];rfl)
section
variable {P:Program} {T:a9} {A:List Nat} {m nt:Nat} {k:List Item} {env:ab} {σ:List Row} {Z:List Item->ab->List Row->Prop} {E:θ->ab->List Row->Prop}
theorem W.g8 (Η:bT P T) (env':ab) (σ':List Row) {id:Nat} {ops:Array Oper} (h:W P m nt k env' σ' Z E) (ι:run P T A nt ops (idx ops.size []) env σ (λe s=>s=σ'/\∀p∈env',bc e p.1=p.2) E):W P m nt (.code (.region id ops false)::k) env σ Z E:=
 cR Η λΔ ζ=>GN (λe s ⟨I,R⟩=>ζ e s (I▸W.forget env' R h)) _ _ _ ι
end
def en (l:List θ):θ:=if l.isEmpty then .sl true 0 [] else .ms 0 l.length 0 l.length
def bF (t:TypeId) (k:Nat) (l:List θ):List Row:=if l.isEmpty then [] else [.cells t k l]
def ev (k:Nat) (l:List θ):θ:=if l.isEmpty then .sl true 0 [] else .sl false k l
theorem mw:en []=.sl true 0 []:=rfl
theorem jg {t k:Nat}:bF t k []=[]:=rfl
theorem nT {l:List θ} (h:l≠[]):en l=.ms 0 l.length 0 l.length:=by unfold en;rw[if_neg (by simpa using h)]
theorem fF {t k:Nat} {l:List θ} (h:l≠[]):bF t k l=[.cells t k l]:=by unfold bF;rw[if_neg (by simpa using h)]
theorem sr {l:List θ} {x:θ}:en (l++[x])=.ms 0 (l.length+1) 0 (l.length+1):=by rw[nT η];simp
theorem p5 {t k:Nat} {l:List θ} {x:θ}:bF t k (l++[x])=[.cells t k (l++[x])]:=fF η
theorem eE.acc {t k:Nat} {l:List θ} (hb:∀e∈l,∀a∈e.cells,aK 0 a):eE 0 (bF t k l) (en l) (ev k l):=by
 unfold bF en ev;cases h:l.isEmpty with
 | true=>exact .low η
 | false=>exact .own (Nat.zero_le _) rfl rfl hb
theorem cp.acc {k:Nat} {l:List θ}:cp (ev k l) (.sl false k l):=by
 unfold ev;cases h:l.isEmpty with
 | true=>rw[List.isEmpty_iff.1 h];exact .nil
 | false=>exact .refl _
@[simp] theorem gΗ {α:Type} {l:List α} {a b:α}:(l++[a]).set l.length b=l++[b]:=by rw[List.set_append_right _ _ (Nat.le_refl _),Nat.sub_self];rfl
@[simp] theorem gΘ {t k:Nat} {l:List θ}:aK (bF t k l).length (en l):=by
 unfold en bF;cases l.isEmpty<;>simp[r9]
theorem aK.mono {h c9:Nat} {a:θ} (hb:aK h a) (aX:h<=c9):aK c9 a:=by
 induction hb with
 | z v=>exact .z v
 | cg=>exact .cg
 | aa _ ω=>exact .aa ω
 | sl _ ω=>exact .sl ω
 | a6 _ ω=>exact .a6 ω
 | a3 _ ω=>exact .a3 ω
 | fn _ _ rR me=>exact .fn rR me
 | fJ _ ω=>exact .fJ ω
 | an h=>exact .an γ
 | ms h=>exact .ms γ
 | mp h=>exact .mp γ
 | it h=>exact .it γ
theorem ss {t k h:Nat} {l:List θ} (hb:∀e∈l,∀a∈e.cells,aK 0 a):∀r∈bF t k l,eV h r:=by
 intro r ι;unfold bF at ι;cases υ:l.isEmpty with
 | true=>rw[υ] at ι;simp at ι
 | false=>
  rw[υ] at ι;simp at ι;subst ι;exact λe he a κ=>(hb e he a κ).mono (Nat.zero_le _)
section
variable {P:Program} {m nt:Nat} {k:List Item} {env:ab} {Z:List Item->ab->List Row->Prop} {E:θ->ab->List Row->Prop}
theorem W.m9 {σ0:List Row} {t:TypeId} {e:θ} {kk:Nat} (hm:m<=σ0.length) (j5:∀r∈σ0,eV σ0.length r) (he:∀a∈e.cells,aK σ0.length a) (env':ab)
  (cU:∀p∈env',(bc env p.1=p.2/\aK σ0.length p.2)\/(bc env p.1=.an σ0.length 1 0 0/\p.2=.aa e.cells)) (hW:W P m nt k env' σ0 Z E):W P m nt k env (σ0++[.cells t kk [e]]) Z E:=
 W.fix (t:=t) (kk:=kk) (e:=e) hm η he (λid r b7 ι=>j5 r (by
  rw[dv b7] at ι;exact cx ι)) η env' cU hW
theorem W.M4 {t kk:Nat} {l:List θ} {d:Nat} (hb:∀e∈l,∀a∈e.cells,aK 0 a) (env':ab) (hd:bc env d=en l) (cU:∀p∈env',bc env p.1=p.2/\aK 0 p.2) (hW:W P 0 nt k ((d,ev kk l)::env') [] Z E):W P 0 nt k env (bF t kk l) Z E:=
 W.cut 0 (Nat.zero_le _) ((d,ev kk l)::env') (Nat.zero_le _) (λid r b7=>γ) (λp ς=>by
  rcases List.mem_cons.1 ς with rfl|ς
  ·show eE 0 _ (bc env d) _;rw[hd];exact .acc hb
  ·rw[(cU p ς).1];exact .low (cU p ς).2) (by simpa using hW)
end
abbrev cE (l:List Int):θ:=.sl true 1 (l.map J)
theorem cp.Ho {L:List (List Int)}:cp (ev 1 (L.map cE)) (aY L):=.trans .acc (.map λx _=>.one .ex rfl rfl)
theorem xu {L:List (List Int)}:∀e∈L.map cE,∀a∈e.cells,aK 0 a:=by
 intro e he a κ;obtain⟨x,_,rfl⟩:=List.mem_map.1 he;simp[θ.cells] at κ;subst κ;simp
theorem Hp (n:Int):Ω Tryz.prog 51 [J n] (.a3 [J (if valid n then q5 n else 0),J (if valid n then 0 else 1)]):=by
 refine ak.body Ρ Tryz.func51 rfl rfl Tryz.ntmps51 rfl rfl η ?_;refine Β ?_;refine a5 λΔ ζ=>?_;refine Ω.d (xm n) (aV ?_);apply ζ;cases b:valid n
 ·refine aA rfl ?_;refine Β ?_;refine W.rt ?_;exact .of rfl
 ·refine ay rfl ?_;refine a5 λΔ ζ=>?_;refine Ω.d (MQ n) (aV ?_);apply ζ;refine Β ?_;refine W.rt ?_;exact .of rfl
def xv (l:List kA) (g:kA):Int:=idxOf (λx=>decide (x.er=q5 g.er)) l
def nU (l:List kA) (i:Nat):List (List Int):=match l[i]? with
 | none=>[]
 | some g=>if 0<=xv l g then [[(i:Int),xv l g]] else []
def twins (l:List kA):List (List Int):=(List.range l.length).flatMap (nU l)
theorem V0 (g x:kA):Ω Tryz.prog 101 [hI x,.aa [.fn (.func 99) [J g.er] []]] (bs (x.er==q5 g.er)):=by
 refine ak.body Ρ Tryz.func101 rfl rfl Tryz.ntmps101 rfl rfl η ?_;refine Β ?_;refine W.draw (A:=[]) Ρ mixed λΔ ζ=>hZ ?_;refine eS (r:=J (q5 g.er)) (λσ=>(MQ g.er).cc (by simp;exact b9.refl _) η η ⟨rfl,rfl⟩) ?_;simp;(repeat (rw[dZ];simp[]));try rw[dY]
 refine fC (ζ _ _ ?_);refine Β ?_;refine W.rt ?_;exact .of (by simp[])
theorem V1 (s:aL) (μ:s.small):Ω Tryz.prog 46 [dH s] (.a3 [aY (if s.err=0 then twins s.Τ else []),J s.err]):=by
 refine ak.body Ρ Tryz.func46 rfl rfl Tryz.ntmps46 rfl rfl η ?_;have υ:=μ.1;refine Β ?_;refine a5 λΔ ζ=>?_;refine Ω.d (p1 s μ) (aV ?_);apply ζ;refine Β ?_;by_cases bZ:s.err=0
 case neg=>
  refine aA (by simp[bZ]) ?_;refine Β ?_;refine W.rt ?_;rw[if_neg bZ];exact .a3 (.cons .nil (.cons (.refl _) .nil))
 refine ay (by simp[bZ]) ?_;refine Β ?_;rw[if_pos bZ,bZ];refine W.iter (λi:Nat=>i<=s.Τ.length) (λi=>[(1,.aa [aS s.Τ,aY s.ai,a7 s.cells]),(5,en (((List.range i).flatMap (nU s.Τ)).map cE)),(16,aS s.Τ),(17,J s.Τ.length),(18,J i)])
  (λi=>bF 29 1 (((List.range i).flatMap (nU s.Τ)).map cE)) (λi=>s.Τ.length-i) 0 (Nat.zero_le _) rfl (by simp[mw]) (λi hi ω=>?_)
 refine Β ?_;refine W.fL rfl (λε=>?_) (λε=>?_)
 ·have ε:i<s.Τ.length:=by simpa using ε
  have dr:(List.range (i+1)).flatMap (nU s.Τ)=(List.range i).flatMap (nU s.Τ)++nU s.Τ i:=by rw[List.range_succ,List.flatMap_append];simp
  have Ν:nU s.Τ i=if 0<=xv s.Τ s.Τ[i] then [[(i:Int),xv s.Τ s.Τ[i]]] else []:=by simp[nU,ε]
  have xw:=λh=>ss (t:=29) (k:=1) (h:=h) (xu (L:=(List.range i).flatMap (nU s.Τ)));obtain⟨L,av⟩:=aO (((List.range i).flatMap (nU s.Τ)).map cE);rw[<-av] at xw;refine W.to (σ':=bF 29 1 L) (env':=[(1,.aa [aS s.Τ,aY s.ai,a7 s.cells]),(5,en L),(16,aS s.Τ),(17,J s.Τ.length),(18,J i)]) ?_ (by rw[av]) (by rw[av];simp)
  repeat apply al
  refine cR (A:=[7]) Ρ λΔ ζ=>fV ε ?_;apply ζ;refine W.m9 (Nat.zero_le _) (xw _) η [(6,J i),(7,.aa [oT s.Τ[i].name,J s.Τ[i].er]),(1,.aa [aS s.Τ,aY s.ai,a7 s.cells]),(5,en L),(16,aS s.Τ),(17,J s.Τ.length),(18,J i)] η ?_
  repeat apply al
  refine cR (A:=[8]) Ρ λΔ ζ=>aV ?_;apply ζ;refine W.m9 (Nat.zero_le _) (xw _) (by simp[hG]) [(8,.aa [.fn (.func 99) [J s.Τ[i].er] []]),(6,J i),(1,.aa [aS s.Τ,aY s.ai,a7 s.cells]),(5,en L),(16,aS s.Τ),(17,J s.Τ.length),(18,J i)] (by simp[hG]) ?_;refine a5 λΔ ζ=>?_;refine Ω.c (MV s.Τ (.fn (.func 101) [] [.aa [.fn (.func 99) [J s.Τ[i].er] []]]) (λx=>x.er==q5 s.Τ[i].er) γ (by simp[hG]) (λx _=>λ_=>(V0 s.Τ[i] x).cc (by simp;exact b9.refl _) (by simp[hG]) η ⟨rfl,rfl⟩)) (b9.refl _) (by simp[hG]) η ?_;simp;(repeat (rw[ae];simp[]));apply ζ;have zZ:idxOf (λx=>decide (x.er=q5 s.Τ[i].er)) s.Τ=xv s.Τ s.Τ[i]:=rfl;rw[zZ];generalize gΙ:xv s.Τ s.Τ[i]=v at Ν;refine Β ?_;have M5:L.length<=i:=by
   rw[av,List.length_map];have:∀n,((List.range n).flatMap (nU s.Τ)).length<=n:=λn=>by
    induction n with
    | zero=>simp
    | succ n ω=>
     rw[List.range_succ,List.flatMap_append,List.length_append];have:(nU s.Τ n).length<=1:=by unfold nU;split;simp;split<;>simp
     simp only[List.flatMap_cons,List.flatMap_nil,List.append_nil];omega
   exact this i
  by_cases hv:0<=v
  ·refine aA (by simp[hv]) ?_
   repeat apply al
   refine W.g8 (A:=[37]) Ρ [(5,en (L++[cE [(i:Int),v]])),(1,.aa [aS s.Τ,aY s.ai,a7 s.cells]),(16,aS s.Τ),(17,J s.Τ.length),(18,J i)] (bF 29 1 (L++[cE [(i:Int),v]])) ?_ (by
    by_cases Μ:L=[]
    ·subst Μ;(try simp);(repeat (rw[ae];simp[mw,jg]));(try simp[mw,jg]);exact⟨rfl,rfl⟩
    ·have hL:L.length<=4294967295:=by omega
     (try simp);(repeat (rw[ae];simp[nT Μ,fF Μ,sr,p5]));(try simp[nT Μ,fF Μ,sr,p5]);exact hL)
   refine Β ?_;refine W.to (ω (i+1) ε γ) ?_ ?_
   ·rw[dr,Ν,if_pos hv,av];simp
   ·rw[dr,Ν,if_pos hv,av];simp[eX ε (show s.Τ.length<2 ^ 62 by omega)]
  ·refine ay (by simp[hv]) ?_;refine Β ?_;refine W.to (ω (i+1) ε γ) ?_ ?_
   ·rw[dr,Ν,if_neg hv,av];simp
   ·rw[dr,Ν,if_neg hv,av];simp[eX ε (show s.Τ.length<2 ^ 62 by omega)]
 ·have ε:i=s.Τ.length:=by simp at ε;omega
  subst ε;refine W.exit rfl ?_;refine Β ?_;refine W.M4 (d:=2) xu [(3,J 0)] η η ?_;refine W.rt ?_;exact .a3 (.cons .Ho (.cons (.refl _) .nil))
def mx {α:Type} [DecidableEq α]:α->List α->List α
 | _,[]=>[]
 | a,b::l=>if b=a then mx a l else b::mx b l
def dT {α:Type} [DecidableEq α]:List α->List α
 | []=>[]
 | a::l=>a::mx a l
theorem Du {α:Type} [DecidableEq α] (l:List α) {p:Nat} (ς:0<p) (h:p<l.length) (c9:p-1<l.length):dT (l.take (p+1))=dT (l.take p)++if l[p]=l[p-1] then [] else [l[p]]:=by
 have gen:∀(l:List α) (a:α) (p:Nat) (h:p<l.length),mx a (l.take (p+1))=mx a (l.take p)++if l[p]=(a::l)[p]'(by simp;omega) then [] else [l[p]]:=by
  intro l
  induction l with
  | nil=>intro a p h;cases h
  | cons b l ω=>
   intro a p h;cases p with
   | zero=>by_cases e:b=a<;>simp[mx,e]
   | succ p=>
    have R:p<l.length:=by simpa using h
    by_cases e:b=a
    ·subst e;have:=ω b p R;simp only[List.take_succ_cons,mx,if_true,List.getElem_cons_succ] at this ⊢;exact this
    ·have:=ω b p R;simp only[List.take_succ_cons,mx,e,if_false,List.getElem_cons_succ,List.cons_append] at this ⊢;rw[this]
 cases l with
 | nil=>cases h
 | cons a l=>
  obtain⟨q,rfl⟩:∃q,p=q+1:=⟨p-1,γ⟩;have R:q<l.length:=by simpa using h
  have:=gen l a q R;simp only[List.take_succ_cons,dT,List.getElem_cons_succ,Nat.add_sub_cancel] at this ⊢;rw[this];rfl
theorem Dv {f:List Int} {L:List θ} (av:L=f.map J) {j:Nat} {x:Int} (h:f[j]?=some x):L[j]?=some (J x)/\∀h:j<L.length,L[j]=J x:=by
 have e:L[j]?=some (J x):=by rw[av,List.getElem?_map,h];rfl
 exact⟨e,λδ=>by rw[ba δ] at e;exact Option.some.inj e⟩
theorem V2 (l:List Int) (n:Nat) (Ε:l.length=n) (μ:n<2 ^ 40):ak Tryz.prog 133 [.ms 0 n 0 n] [.cells 3 1 (l.map J)]
  (λr s=>∃tail:List Int,(dT l++tail).length=n/\r=.ms 0 n 0 (dT l).length/\s=[.cells 3 1 ((dT l++tail).map J)]) (λ_ _=>False):=by
 refine ak.body Ρ Tryz.func133 rfl rfl Tryz.ntmps133 rfl rfl η ?_;by_cases R:(n:Int)<2
 ·refine aT (Ζ Ε R) ?_;refine aA rfl ?_;refine aT Ε ?_;refine W.ret ⟨_,rfl,[],?_⟩;have e:dT l=l:=by
   match l,Ε with
   | [],_=>rfl
   | [a],_=>rfl
   | a::b::l,Ε=>simp at Ε;omega
  rw[e,List.append_nil,Ε];exact⟨rfl,rfl,rfl⟩
 refine aT (Ζ Ε R) ?_;refine ay rfl ?_;refine Β ?_;refine W.iter (λk:Nat=>1<=k/\k<=n/\dT (l.take k)=l.take k) (λk=>[(0,.ms 0 n 0 n),(3,J k)]) (λ_=>[.cells 3 1 (l.map J)]) (λk=>n-k) 1 ⟨Nat.le_refl _,γ,by
  match l,Ε with
  | [],Ε=>rfl
  | a::l,Ε=>rfl⟩ rfl η (λk ψ ω=>?_)
 obtain⟨k1,bG,mi⟩:=ψ;refine aT Ε ?_;by_cases ε:k<n
 ·refine aA (by simp[ε]) ?_
  repeat apply al
  obtain⟨p,ς⟩:∃p,k=p+1:=⟨k-1,γ⟩;have ki:IntKind.i64.wrap ((k:Int)-1)=(p:Int):=by have:=et (show p<2 ^ 62 by omega);rw[ς];simpa using this
  have ml:p<n:=γ
  have gI:k<l.length:=γ
  have g2:p<l.length:=γ;obtain⟨L,av⟩:=aO (l.map J);have h1:L.length=n:=by rw[av];simpa using Ε
  obtain⟨a1,a2⟩:=Dv av (ba gI);obtain⟨bK,da⟩:=Dv av (ba g2);refine W.to (σ':=[.cells 3 1 L]) (env':=[(0,.ms 0 n 0 n),(3,J k)]) ?_ (by rw[av]) η;generalize U:l[k]=x at a1 a2;generalize Φ:l[p]=y at bK da;refine fD (Ζ ε (Ζ ki (Ζ h1 (Ζ ml (Ζ a1 (Ζ a2 (Ζ bK da))))))) ?_;have dr:dT (l.take (k+1))=dT (l.take k)++if x=y then [] else [x]:=by
   rw[Du l γ gI γ];simp only[ς,Nat.add_sub_cancel] at U ⊢;rw[U,Φ]
  by_cases pJ:x=y
  ·refine aA (by simp[pJ]) ?_
   repeat apply al
   refine W.g8 (A:=[]) Ρ [(0,.ms 0 n 0 n),(3,J k),(4,.ms 0 n k (n-k))] [.cells 3 1 L] ?_ (by
    (try simp);(repeat (rw[ae];simp[h1,Nat.le_of_lt ε]));(try simp[h1,Nat.le_of_lt ε]))
   refine Β ?_;have cT:dT (l.take (k+1))=l.take k:=by rw[dr,if_pos pJ,List.append_nil,mi]
   refine W.iter (λq:Nat×Nat×List Int=>1<=q.2.1/\k+q.2.1<=n/\q.2.2.length=n/\q.1<k+q.2.1/\q.1=(dT (l.take (k+q.2.1))).length/\q.2.2.take q.1=dT (l.take (k+q.2.1))/\∀j,k+q.2.1-1<=j->j<n->q.2.2[j]?=l[j]?)
    (λq=>[(0,.ms 0 n 0 n),(3,J q.1),(4,.ms 0 n k (n-k)),(5,J q.2.1)]) (λq=>[.cells 3 1 (q.2.2.map J)]) (λq=>n-q.2.1) (k,1,l) ⟨Nat.le_refl _,by simp;omega,Ε,η,by simp only[cT];simp;omega,by simp only[cT],λj _ _=>rfl⟩ (by rw[av]) η (λq Χ e6=>?_)
   obtain⟨m,bG,f⟩:=q;obtain⟨c1,c2,c3,c4,jJ,mf,lE⟩:=Χ;simp only at c1 c2 c3 c4 jJ mf lE;clear av h1 a1 a2 bK da;refine aT c3 ?_;by_cases hd:bG<n-k
   ·have zD:(bG:Int)<((n-k:Nat):Int):=by omega
    refine aA (by simp[hd]) ?_
    repeat apply al
    obtain⟨my,hB⟩:∃r,bG=r+1:=⟨bG-1,γ⟩;have eM:IntKind.i64.wrap ((bG:Int)-1)=(my:Int):=by have:=et (show my<2 ^ 62 by omega);rw[hB];simpa using this
    have ι:my<n-k:=γ;obtain⟨M,cd⟩:=aO (f.map J);have vw:M.length=n:=by rw[cd];simpa using c3
    have hu:f[k+bG]?=some (l[k+bG]'γ):=by rw[lE _ γ γ,ba]
    have hv:f[k+my]?=some (l[k+my]'γ):=by rw[lE _ γ γ,ba]
    have dk:=Du l (p:=k+bG) γ γ γ
    have Hq:l[k+bG-1]'γ=l[k+my]'γ:=by congr 1;omega
    rw[Hq] at dk;generalize l[k+bG]'γ=u at hu dk;generalize l[k+my]'γ=v at hv dk;obtain⟨ed,dM⟩:=Dv cd hu;obtain⟨v1,v2⟩:=Dv cd hv;refine W.to (σ':=[.cells 3 1 M]) (env':=[(0,.ms 0 n 0 n),(3,J m),(4,.ms 0 n k (n-k)),(5,J bG)]) ?_ (by rw[cd]) η;have j0:m<n:=γ;refine W.draw (A:=[]) Ρ mixed λΔ ζ=>?_;simp;(repeat (rw[dZ];simp[hd,eM,ι,vw,ed,dM,v1,v2]));try rw[dY];refine fC (ζ _ _ ?_)
    by_cases su:u=v
    ·refine ay (by simp[su]) ?_;refine Β ?_;rw[if_pos su,List.append_nil] at dk;refine W.to (e6 (m,bG+1,f) ⟨η,by simp;omega,c3,by simp;omega,by simp only[<-Nat.add_assoc,dk];exact jJ,by simp only[<-Nat.add_assoc,dk];exact mf,λj I R=>lE j (by simp at I;omega) R⟩ (by simp;omega)) (by rw[cd]) ?_;have:=et (show bG+1<2 ^ 62 by omega);simpa using this
    ·refine aA (by simp[su]) ?_;rw[if_neg su] at dk
     repeat apply al
     refine W.g8 (A:=[]) Ρ [(0,.ms 0 n 0 n),(3,J m),(4,.ms 0 n k (n-k)),(5,J bG)] [.cells 3 1 ((f.set m u).map J)] ?_ (by
      (try simp);(repeat (rw[ae];simp[hd,vw,j0,ed,dM]));(try simp[hd,vw,j0,ed,dM]);subst cd;simp)
     refine Β ?_;refine W.to (e6 (m+1,bG+1,f.set m u) ⟨η,by simp;omega,by simpa using c3,by simp;omega,by simp only[<-Nat.add_assoc,dk];simp;exact jJ,?_,λj I R=>?_⟩ (by simp;omega)) η ?_
     ·simp only[<-Nat.add_assoc,dk];rw[<-mf,List.take_succ_eq_append_getElem (by simp;omega),List.take_set_of_le (Nat.le_refl _)];simp
     ·simp at I;rw[List.getElem?_set_ne γ];exact lE j γ R
     ·have Γ:=et (show bG+1<2 ^ 62 by omega)
      have Θ:=et (show m+1<2 ^ 62 by omega);simp at Γ Θ ⊢;exact⟨Θ,Γ⟩
   ·refine ay (by simp[hd]) ?_;refine W.exit rfl ?_;have he:k+bG=n:=γ;have Hr:l.take n=l:=List.take_of_length_le γ;rw[he,Hr] at jJ mf
    repeat apply al
    have j0:m<=n:=γ;refine W.g8 (A:=[]) Ρ [(0,.ms 0 n 0 n),(3,J m)] [.cells 3 1 ((dT l++List.replicate (n-m) 0).map J)] ?_ (by
     (try simp);(repeat (rw[ae];simp[c3,j0]));(try simp[c3,j0]);rw[<-List.map_take,mf,List.drop_eq_nil_of_le (by simp;omega),List.append_nil])
    have vx:(dT l).length+(n-m)=n:=γ;refine aT (Ζ vx j0) ?_;refine W.ret ⟨_,rfl,List.replicate (n-m) 0,by simp;omega,?_,η⟩;rw[<-jJ];rfl
  ·refine ay (by simp[pJ]) ?_;refine Β ?_;refine W.to (ω (k+1) ⟨γ,γ,?_⟩ γ) (by rw[av]) ?_
   ·rw[dr,if_neg pJ,mi,<-U,<-List.take_succ_eq_append_getElem gI]
   ·have:=et (show k+1<2 ^ 62 by omega);simpa using this
 ·refine ay (by simp[ε]) ?_;refine W.exit rfl ?_;refine Β ?_;refine W.ret ⟨_,rfl,[],?_⟩;have e:dT l=l:=by rw[List.take_of_length_le γ] at mi;exact mi
  rw[e,List.append_nil,Ε];exact⟨rfl,rfl,rfl⟩
def jh:aL:=⟨[],[],[]⟩
theorem sw {e f g:Bool} {a b c:Nat}:cp (.a6 [.sl e a [],.sl f b [],.sl g c []]) (dH jh):=.a6 (.cons .nil (.cons .nil (.cons .nil .nil)))
abbrev M6 (r:aL×List Found×Int):θ:=.a3 [dH r.1,cj r.2.1,J r.2.2]
def eH (s:aL) (bX:Bool) (F:List Found):aL×List Found×Int:=
 if s.err≠0 then(jh,[],s.err) else if bX=true/\F=[] then(s,[],9) else(s,F,0)
def fX (s:aL) (cell:Int) (F:List Found):aL×List Found×Int:=
 if s.err≠0 then(jh,[],s.err) else if cell<0\/(s.cells.length:Int)<=cell then(jh,[],3) else eH s true F
def m' (s:aL) (F:List Found):Prop:=s.err=0->Ω Tryz.prog 116 [dH s] (cj F)
theorem xx (s:aL) (μ:s.small) (bX:Bool) (F:List Found) (e':m' s F):Ω Tryz.prog 75 [dH s,bs bX] (M6 (eH s bX F)):=by
 refine ak.body Ρ Tryz.func75 rfl rfl Tryz.ntmps75 rfl rfl η ?_
 repeat apply al
 refine cR (A:=[4]) Ρ λΔ ζ=>aV ?_;apply ζ;refine a5 λΔ ζ=>?_;refine Ω.d (p1 s μ) (aV ?_);apply ζ;refine Β ?_;by_cases bZ:s.err=0
 case neg=>
  have e:eH s bX F=(jh,[],s.err):=by unfold eH;rw[if_pos bZ]
  rw[e];refine aA (by simp[bZ]) ?_;refine Β ?_;refine W.fix (id:=0) (σ':=[]) (Nat.zero_le _) rfl η η rfl [(4,.aa [.sl true 0 [],.sl true 0 [],.sl true 0 []]),(5,.sl true 0 []),(6,J s.err)] η ?_;refine W.rt ?_;exact .a3 (.cons sw (.cons .nil (.cons (.refl _) .nil)))
 refine ay (by simp[bZ]) ?_
 repeat apply al
 refine cR (A:=[8]) Ρ λΔ ζ=>aV ?_;apply ζ;refine a5 λΔ ζ=>?_;refine Ω.d (e' bZ) (aV ?_);apply ζ
 repeat apply al
 cases bX
 case false=>
  have e:eH s false F=(s,F,0):=by unfold eH;rw[if_neg (by simpa using bZ),if_neg η]
  rw[e];refine Β ?_;refine ay rfl ?_;refine Β ?_;refine W.fix (id:=0) (σ':=[]) (Nat.zero_le _) rfl η η rfl [(4,.aa [aS s.Τ,aY s.ai,a7 s.cells]),(5,cj F),(6,J 0)] η ?_;refine W.rt ?_;exact .refl _
 case true=>
  refine Β ?_;by_cases z:F=[]
  ·have e:eH s true F=(s,[],9):=by unfold eH;rw[if_neg (by simpa using bZ),if_pos ⟨rfl,z⟩]
   rw[e];refine aA (by simp[z]) ?_;refine Β ?_;refine W.fix (id:=0) (σ':=[]) (Nat.zero_le _) rfl η η rfl [(4,.aa [aS s.Τ,aY s.ai,a7 s.cells]),(5,.sl true 0 []),(6,J 9)] η ?_;refine W.rt ?_;exact .a3 (.cons (.refl _) (.cons .nil (.cons (.refl _) .nil)))
  ·have e:eH s true F=(s,F,0):=by unfold eH;rw[if_neg (by simpa using bZ),if_neg (by simp[z])]
   rw[e];refine ay (by simp[z]) ?_;refine Β ?_;refine W.fix (id:=0) (σ':=[]) (Nat.zero_le _) rfl η η rfl [(4,.aa [aS s.Τ,aY s.ai,a7 s.cells]),(5,cj F),(6,J 0)] η ?_;refine W.rt ?_;exact .refl _
theorem Hs (s:aL) (μ:s.small) (cell:Int) (F:List Found) (e':m' s F):Ω Tryz.prog 82 [dH s,J cell] (M6 (fX s cell F)):=by
 refine ak.body Ρ Tryz.func82 rfl rfl Tryz.ntmps82 rfl rfl η ?_
 repeat apply al
 refine cR (A:=[4]) Ρ λΔ ζ=>aV ?_;apply ζ;refine a5 λΔ ζ=>?_;refine Ω.d (p1 s μ) (aV ?_);apply ζ;refine Β ?_;by_cases bZ:s.err=0
 case neg=>
  have e:fX s cell F=(jh,[],s.err):=by unfold fX;rw[if_pos bZ]
  rw[e];refine aA (by simp[bZ]) ?_;refine Β ?_;refine W.fix (id:=0) (σ':=[]) (Nat.zero_le _) rfl η η rfl [(4,.aa [.sl true 0 [],.sl true 0 [],.sl true 0 []]),(5,.sl true 0 []),(6,J s.err)] η ?_;refine W.rt ?_;exact .a3 (.cons sw (.cons .nil (.cons (.refl _) .nil)))
 refine ay (by simp[bZ]) ?_;have cW:fX s cell F=if cell<0\/(s.cells.length:Int)<=cell then(jh,[],3) else eH s true F:=by unfold fX;rw[if_neg (by simpa using bZ)]
 repeat apply al
 refine W.r7 (A:=[]) Ρ [(22,bs (decide (cell<0)||decide ((s.cells.length:Int)<=cell))),(2,.aa [aS s.Τ,aY s.ai,a7 s.cells]),(4,.an 0 1 0 0),(1,J cell)] ?_ (by
  by_cases q:cell<0
  ·(try simp);(repeat (rw[ae];simp[q]));(try simp[q])
  ·(try simp);(repeat (rw[ae];simp[q]));(try simp[q]))
 by_cases bK:cell<0\/(s.cells.length:Int)<=cell
 ·rw[cW,if_pos bK];refine aA (by simpa using bK) ?_;refine Β ?_;refine W.fix (id:=0) (σ':=[]) (Nat.zero_le _) rfl η η rfl [(4,.aa [.sl true 0 [],.sl true 0 [],.sl true 0 []]),(5,.sl true 0 []),(6,J 3)] η ?_;refine W.rt ?_;exact .a3 (.cons sw (.cons .nil (.cons (.refl _) .nil)))
 ·rw[cW,if_neg bK];refine ay (by simpa using bK) ?_;refine a5 λΔ ζ=>?_;refine Ω.d (xx s μ true F e') (aV ?_);apply ζ;refine Β ?_;generalize eH s true F=r;refine W.fix (id:=0) (σ':=[]) (Nat.zero_le _) rfl η η rfl [(4,.aa [aS r.1.Τ,aY r.1.ai,a7 r.1.cells]),(5,cj r.2.1),(6,J r.2.2)] η ?_;refine W.rt ?_;exact .refl _
def Small (F:List Found):Prop:=F.length<2 ^ 20/\(∀f∈F,f.cells.length<2 ^ 20/\(∀i,i<=f.cells.length->∀gy,ik f.cells gy i<2 ^ 40)/\∀c∈f.cells,c.length<2 ^ 20)
theorem M7 (s:aL) (μ:s.small) (F:List Found) (e':m' s F) (Υ:Small F) (ε:g7 F<2 ^ 62):Ω Tryz.prog 39 [dH s] (.a3 [J (if s.err=0 then g7 F else 0),J s.err]):=by
 refine ak.body Ρ Tryz.func39 rfl rfl Tryz.ntmps39 rfl rfl η ?_;refine Β ?_;refine cI ?_;refine cR (A:=[4]) Ρ λΔ ζ=>aV ?_;refine Ω.d (xx s μ false F e') (aV ?_);apply ζ;have e:eH s false F=if s.err=0 then(s,F,0) else(jh,[],s.err):=by
  unfold eH;by_cases b:s.err=0
  ·rw[if_neg (by simpa using b),if_neg η,if_pos b]
  ·rw[if_pos b,if_neg b]
 have Γ:(eH s false F).2.1=if s.err=0 then F else []:=by rw[e];split<;>rfl
 have Θ:(eH s false F).2.2=s.err:=by rw[e];split<;>simp[*]
 have fin:∀l:List Found,(∀f∈l,f∈F)->l.length<=F.length->g7 l<2 ^ 62->Ω Tryz.prog 79 [cj l] (J (g7 l)):=λl υ I R=>
  MS l (by have:=Υ.1;omega) (λf U=>⟨by have:=(Υ.2 f (υ f U)).1;omega,λi hi=>by have:=(Υ.2 f (υ f U)).2.1 i hi (-1);omega⟩) R
 rw[Γ,Θ];by_cases b:s.err=0
 ·rw[if_pos b];refine a5 λΔ ζ=>?_;refine Ω.d (fin F (λf h=>h) (Nat.le_refl _) ε) (aV ?_);apply ζ;refine W.drop (h:=0) (Nat.zero_le _) (Nat.zero_le _) η rfl [(2,J (g7 F)),(3,J s.err)] η ?_;refine W.rt ?_;rw[if_pos b];exact .refl _
 ·rw[if_neg b];refine a5 λΔ ζ=>?_;refine Ω.d (fin [] η η (by simp[g7])) (aV ?_);apply ζ;refine W.drop (h:=0) (Nat.zero_le _) (Nat.zero_le _) η rfl [(2,J (g7 [])),(3,J s.err)] η ?_;refine W.rt ?_;rw[if_neg b];exact .refl _
def kY (F:List Found):List (List Int):=F.map λf=>[f.u,f.v]
theorem M8 {α β:Type} (f:α->β) (l:List α) {i:Nat} (h:i<l.length):(l.take (i+1)).map f=(l.take i).map f++[f l[i]]:=by
 rw[List.take_succ_eq_append_getElem h,List.map_append];rfl
theorem V3 (s:aL) (μ:s.small) (F:List Found) (e':m' s F) (Υ:F.length<2 ^ 20):Ω Tryz.prog 42 [dH s] (.a3 [aY (if s.err=0 then kY F else []),J s.err]):=by
 refine ak.body Ρ Tryz.func42 rfl rfl Tryz.ntmps42 rfl rfl η ?_;refine Β ?_;refine cI ?_;refine cR (A:=[4]) Ρ λΔ ζ=>aV ?_;refine Ω.d (xx s μ false F e') (aV ?_);apply ζ;have e:eH s false F=if s.err=0 then(s,F,0) else(jh,[],s.err):=by
  unfold eH;by_cases b:s.err=0
  ·rw[if_neg (by simpa using b),if_neg η,if_pos b]
  ·rw[if_pos b,if_neg b]
 have Γ:(eH s false F).2.1=if s.err=0 then F else []:=by rw[e];split<;>rfl
 have Θ:(eH s false F).2.2=s.err:=by rw[e];split<;>simp[*]
 obtain⟨G,dn⟩:∃G,G=if s.err=0 then F else []:=⟨_,rfl⟩
 have gΚ:G.length<2 ^ 20:=by rw[dn];split;exact Υ;simp
 have l8:(if s.err=0 then kY F else [])=kY G:=by rw[dn];split<;>rfl
 rw[Γ,Θ,l8,<-dn];clear dn l8 e Γ Θ;generalize s.err=eM;refine W.drop (h:=0) (σ':=[]) (Nat.zero_le _) (Nat.zero_le _) η rfl [(5,cj G),(6,J eM)] η ?_;refine Β ?_;have z0:∀i,(kY G).take i=kY (G.take i):=λi=>by simp[kY]
 refine W.iter (λi:Nat=>i<=G.length) (λi=>[(6,J eM),(7,en ((kY (G.take i)).map cE)),(16,cj G),(17,J G.length),(18,J i)])
  (λi=>bF 29 1 ((kY (G.take i)).map cE)) (λi=>G.length-i) 0 (Nat.zero_le _) rfl (by simp[mw,kY]) (λi hi ω=>?_)
 refine Β ?_;refine W.fL rfl (λε=>?_) (λε=>?_)
 ·have ε:i<G.length:=by simpa using ε
  have dr:(kY (G.take (i+1))).map cE=(kY (G.take i)).map cE++[cE [G[i].u,G[i].v]]:=by
   unfold kY;rw[List.map_map,List.map_map,M8 _ _ ε];rfl
  have xw:=λh=>ss (t:=29) (k:=1) (h:=h) (xu (L:=kY (G.take i)))
  have M5:((kY (G.take i)).map cE).length<=i:=by simp[kY];omega
  obtain⟨L,av⟩:=aO ((kY (G.take i)).map cE);rw[<-av] at xw M5 dr;refine W.to (σ':=bF 29 1 L) (env':=[(6,J eM),(7,en L),(16,cj G),(17,J G.length),(18,J i)]) ?_ (by rw[av]) (by rw[av];simp)
  repeat apply al
  refine cR (A:=[9]) Ρ λΔ ζ=>fV ε ?_;apply ζ;refine W.m9 (Nat.zero_le _) (xw _) η [(9,.aa [J G[i].u,J G[i].v,lJ G[i].cells]),(6,J eM),(7,en L),(16,cj G),(17,J G.length),(18,J i)] η ?_
  repeat apply al
  refine W.g8 (A:=[26]) Ρ [(6,J eM),(7,en (L++[cE [G[i].u,G[i].v]])),(16,cj G),(17,J G.length),(18,J i)] (bF 29 1 (L++[cE [G[i].u,G[i].v]])) ?_ (by
   by_cases Μ:L=[]
   ·subst Μ;(try simp);(repeat (rw[ae];simp[mw,jg]));(try simp[mw,jg]);exact⟨rfl,rfl⟩
   ·have hL:L.length<=4294967295:=by omega
    (try simp);(repeat (rw[ae];simp[nT Μ,fF Μ,sr,p5]));(try simp[nT Μ,fF Μ,sr,p5]);exact hL)
  refine Β ?_;refine W.to (ω (i+1) ε γ) ?_ ?_
  ·rw[dr]
  ·rw[dr];simp[eX ε (show G.length<2 ^ 62 by omega)]
 ·have ε:i=G.length:=by simp at ε;omega
  subst ε;refine W.exit rfl ?_;refine Β ?_;refine W.M4 (d:=2) xu [(3,J eM)] η η ?_;refine W.rt ?_;exact .a3 (.cons .Ho (.cons (.refl _) .nil))
abbrev mz (l:List Int):List Int:=l.mergeSort (λx y=>decide (x<=y))
def xy (N:Nat):Prop:=∀(l:List Int),l.length<=N->ak Tryz.prog 132 [.ms 0 l.length 0 l.length] [.cells 3 1 (l.map J)] (λr s=>r=.a3 []/\s=[.cells 3 1 ((mz l).map J)]) (λ_ _=>False)
def kZ (lower:Bool) (r:Int×Int):Int:=if lower then r.2 else r.1
def nV (lower:Bool) (A:List Int) (C:List (Int×Int)) (j:Nat):List Int:=A++(C.take j).map (kZ lower)
theorem M9 {lower:Bool} {A:List Int} {C:List (Int×Int)}:nV lower A C 0=A:=by simp[nV]
theorem V4 {lower:Bool} {A:List Int} {C:List (Int×Int)} {j:Nat} (h:j<C.length):nV lower A C (j+1)=nV lower A C j++[kZ lower C[j]]:=by
 unfold nV;rw[M8 _ _ h,List.append_assoc]
theorem M' {lower:Bool} {A:List Int} {C:List (Int×Int)} {j:Nat} (h:C.length<=j):nV lower A C j=A++C.map (kZ lower):=by
 unfold nV;rw[List.take_of_length_le h]
theorem V5 {lower:Bool} {A:List Int} {C:List (Int×Int)} {j:Nat}:(nV lower A C j).length<=A.length+j:=by
 unfold nV;simp;omega
def Dw (f:Found) (cell:Nat) (lower:Bool):List Int:=((f.cells[cell]?).getD []).map (kZ lower)
def gP (F:List Found) (cell:Nat) (lower:Bool):List Int:=F.flatMap λf=>Dw f cell lower
def ew (F:List Found) (cell:Nat) (lower:Bool):List Int:=dT (mz (gP F cell lower))
theorem Ht {l:List Int}:∀e∈l.map J,∀a∈e.cells,aK 0 a:=by
 intro e he a κ;obtain⟨x,_,rfl⟩:=List.mem_map.1 he;simp[θ.cells] at κ;subst κ;simp
theorem Na (F:List Found) (cell:Nat) (lower:Bool) (e':F.length<2 ^ 20) (ig:∀f∈F,cell<f.cells.length/\∀c∈f.cells,c.length<2 ^ 20) (N:Nat) (c5:N<2 ^ 20) (fA:xy N) (bC:gP F cell lower≠[]) (hle:(gP F cell lower).length<=N) :
  Ω Tryz.prog 95 [cj F,J cell,bs lower] (cS J 1 (ew F cell lower)):=by
 refine ak.body Ρ Tryz.func95 rfl rfl Tryz.ntmps95 rfl rfl η ?_;refine Β ?_;refine W.iter (λi:Nat=>i<=F.length) (λi=>[(1,J cell),(2,bs lower),(7,en ((gP (F.take i) cell lower).map J)),(12,cj F),(13,J F.length),(14,J i)])
  (λi=>bF 3 1 ((gP (F.take i) cell lower).map J)) (λi=>F.length-i) 0 (Nat.zero_le _) rfl (by simp[gP,mw]) (λi hi ω=>?_)
 refine Β ?_;have Hu:∀i,(gP (F.take i) cell lower).length<=N:=λi=>by
  have e:gP F cell lower=gP (F.take i) cell lower++gP (F.drop i) cell lower:=by
   conv=>lhs;rw[<-List.take_append_drop i F]
   simp only[gP,List.flatMap_append]
  rw[e,List.length_append] at hle;omega
 refine W.fL rfl (λε=>?_) (λε=>?_)
 ·have bp:i<F.length:=by simpa using ε
  obtain⟨bA,kQ⟩:=ig _ (List.getElem_mem bp);have hC:F[i].cells[cell].length<2 ^ 20:=kQ _ (List.getElem_mem bA);obtain⟨A,bR⟩:=aO (gP (F.take i) cell lower);have dr:gP (F.take (i+1)) cell lower=A++F[i].cells[cell].map (kZ lower):=by
   rw[bR];unfold gP;rw[List.take_succ_eq_append_getElem bp,List.flatMap_append];simp[Dw,bA]
  have z1:(A++F[i].cells[cell].map (kZ lower)).length<=N:=by rw[<-dr];exact Hu _
  rw[List.length_append,List.length_map] at z1;refine W.to (σ':=bF 3 1 (A.map J)) (env':=[(1,J cell),(2,bs lower),(7,en (A.map J)),(12,cj F),(13,J F.length),(14,J i)]) ?_ (by rw[bR]) (by rw[bR];simp)
  repeat apply al
  refine cR (A:=[9]) Ρ λΔ ζ=>fV bp ?_;apply ζ;refine W.m9 (Nat.zero_le _) (ss Ht) η [(9,.aa [J F[i].u,J F[i].v,lJ F[i].cells]),(1,J cell),(2,bs lower),(7,en (A.map J)),(12,cj F),(13,J F.length),(14,J i)] η ?_;refine aT bA ?_;generalize V6:F[i].cells[cell]=C at hC dr z1;refine W.iter (λj:Nat=>j<=C.length) (λj=>[(1,J cell),(2,bs lower),(7,en ((nV lower A C j).map J)),(12,cj F),(13,J F.length),(14,J i),(22,kg C),(23,J C.length),(24,J j)])
   (λj=>bF 3 1 ((nV lower A C j).map J)) (λj=>C.length-j) 0 (Nat.zero_le _) (by rw[M9]) (by simp[M9]) (λj δ e6=>?_)
  refine Β ?_;refine W.fL rfl (λbg=>?_) (λbg=>?_)
  ·have bk:j<C.length:=by simpa using bg
   obtain⟨L,av⟩:=aO (nV lower A C j);have vy:L.length<=A.length+j:=by rw[av];exact V5
   have sx:nV lower A C (j+1)=L++[kZ lower C[j]]:=by rw[av];exact V4 bk
   refine W.to (σ':=bF 3 1 (L.map J)) (env':=[(1,J cell),(2,bs lower),(7,en (L.map J)),(12,cj F),(13,J F.length),(14,J i),(22,kg C),(23,J C.length),(24,J j)]) ?_ (by rw[av]) (by rw[av];simp)
   repeat apply al
   refine cR (A:=[11]) Ρ λΔ ζ=>fV bk ?_;apply ζ;refine W.m9 (Nat.zero_le _) (ss Ht) η [(11,.aa [J C[j].1,J C[j].2]),(1,J cell),(2,bs lower),(7,en (L.map J)),(12,cj F),(13,J F.length),(14,J i),(22,kg C),(23,J C.length),(24,J j)] η ?_
   repeat apply al
   generalize C[j]=r at sx;refine W.g8 (A:=[34]) Ρ [(1,J cell),(2,bs lower),(7,en ((L++[kZ lower r]).map J)),(12,cj F),(13,J F.length),(14,J i),(22,kg C),(23,J C.length),(24,J j)] (bF 3 1 ((L++[kZ lower r]).map J)) ?_ (by
    have hL:L.length<=4294967295:=γ;rw[List.map_append];cases lower
    all_goals
     by_cases Μ:L.map J=[]
     ·rw[Μ,mw,jg];(try simp);(repeat (rw[ae];simp[]));(try simp[]);refine Ω.d (Hg _) (aV ?_);simp[bF,en,kZ]
     ·rw[nT Μ,fF Μ];(try simp);(repeat (rw[ae];simp[]));(try simp[]);refine Ω.d (Hg _) (aV ?_);simp[p5,sr,kZ,hL])
   refine Β ?_;refine W.to (e6 (j+1) bk γ) ?_ ?_
   ·rw[sx,List.map_append];rfl
   ·rw[sx];simp[eX bk (show C.length<2 ^ 62 by omega)]
  ·have bk:C.length<=j:=by simpa using bg
   refine W.exit rfl ?_;refine Β ?_;refine W.to (ω (i+1) bp γ) ?_ ?_
   ·rw[dr,M' bk]
   ·rw[dr,M' bk];simp[eX bp (show F.length<2 ^ 62 by omega)]
 ·have bp:i=F.length:=by simp at ε;omega
  refine W.exit rfl ?_;rw[bp,List.take_length];obtain⟨M,cd⟩:=aO (gP F cell lower);rw[<-cd] at bC hle ⊢;have vz:M.map J≠[]:=by simpa using bC
  have hp:ew F cell lower=dT (mz M):=by rw[cd];rfl
  have k0:(mz M).length=M.length:=by simp[mz]
  refine W.to (σ':=[.cells 3 1 (M.map J)]) (env':=[(7,.ms 0 M.length 0 M.length)]) ?_ (fF vz) (by simp[nT vz]);refine a5 λΔ ζ=>?_;refine ak.one (fA M hle) 0 rfl (nP tB) (nP tB) (by simp[jL]) (by simp[fB]) (by simp[jM]) ?_;simp[dO,g5];(repeat (rw[ae];simp[]));apply ζ;refine a5 λΔ ζ=>?_;have Hv:=V2 (mz M) M.length k0 γ;refine ak.Hk Hv 0 rfl (nP tB) (by simp[jL]) (by simp[jM]) (λa s ⟨tail,I,R,ν⟩=>⟨_,ν,nP tB,by subst R;simp[jL],?_⟩);subst R;simp[jM];(repeat (rw[ae];simp[]));apply ζ;refine W.cut 0 (Nat.zero_le _) [(6,cS J 1 (dT (mz M)))] η η ?_ ?_
  ·intro p ς;simp at ς;subst ς;have ς:=eE.part (σ:=[.cells 3 1 ((dT (mz M)).map J++tail.map J)]) (id:=0) (t:=3) (k:=1) (l:=(dT (mz M)).map J) (l2:=tail.map J) (m:=(dT (mz M)).length) rfl η Ht;have e:((dT (mz M)).map J++tail.map J).length=M.length:=by rw[<-List.map_append,List.length_map];exact I
   rw[e] at ς;exact ς
  ·rw[hp];refine W.rt ?_;exact .refl _
end Go.TL
