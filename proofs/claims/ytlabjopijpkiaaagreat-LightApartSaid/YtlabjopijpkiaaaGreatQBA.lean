import Derived.Test.YtlabjopijpkiaaaGreatQAT
import Derived.Test.YtlabjopijpkiaaaGreatQAW
import Derived.Test.YtlabjopijpkiaaaGreatQAY
import Derived.Test.YtlabjopijpkiaaaGreatQAZ
set_option maxHeartbeats 16000000
set_option maxRecDepth 20000
set_option linter.unusedSectionVars false
set_option linter.unusedSimpArgs false
set_option linter.unusedVariables false
namespace Go.TL
open Go.Conc
variable [bd]
structure Base where
 S:aA
 B:aN
 H:ψ
 σ:List Row
 m:Nat
def V (P:Program) (Q:Value→Prop) (mn:Bool) (x:gy) (b:Frame) (cs:List Frame) (nt:Nat) (o:Base) (k:List Item) (env:Χ) (σ:List Row):Prop:=
 ∀(S:aA) (B:aN) (H:ψ) (t:Array Value),eO o.m o.S o.B o.H o.σ S B H σ→fj o.m nt S B H σ env t→aJ P Q mn x (ao b t k) cs H
def U2 (P:Program) (Q:Value→Prop) (mn:Bool) (x:gy) (b:Frame) (cs:List Frame) (o:Base) (a:θ) (env:Χ) (σ:List Row):Prop:=
 ∀(S:aA) (B:aN) (H:ψ) (t:Array Value) (k:List Item) (v:Value),eO o.m o.S o.B o.H o.σ S B H σ→Holds S B σ H→c7 S B σ env t→aj S B σ a v→aJ P Q mn x {ao b t k with mode:=.panicking [{v,recovered:=false}]} cs H
structure uV (P:Program) (d:Deferred) (g:FuncId) (vs:Array Value):Prop where
 t1:∀r,d.target≠.collected r
 t2:d.target≠.nil
 run:∀w,(invoke d.target d.args).runT P w #[]=(.ok (.enter g vs) w,#[])
section
variable {P:Program} {T:a7} {A:List Nat} {Q:Value→Prop} {mn:Bool} {x:gy} {b:Frame} {cs:List Frame} {m nt:Nat} {o:Base} {k:List Item} {env:Χ} {σ:List Row} {S au:aA} {B B':aN} {H H':ψ} {σ':List Row} {t:Array Value} {Z:List Item→Χ→List Row→Prop} {E:θ→Χ→List Row→Prop}
theorem V.a' (δ:Seq x) (hb:b.mode=.run) (h:W P o.m nt k env σ (V P Q mn x b cs nt o) (U2 P Q mn x b cs o)):V P Q mn x b cs nt o k env σ:=
 fun S B H t μ χ=>h Q mn x cs b S B H t δ hb χ (fun j env' σ' au B' H' t' Ω Ν dV fP ω=>by
  have e:Ω=j:=ω;subst e;exact Ν au B' H' t' (μ.trans dV) fP) (fun a env' σ' au B' H' t' Ω v he dV Α ξ κ=>he au B' H' t' Ω v (μ.trans dV) Α ξ κ)
theorem V.here (h:V P Q mn x b cs nt ⟨S,B,H,σ,m⟩ k env σ) (χ:fj m nt S B H σ env t):aJ P Q mn x (ao b t k) cs H:=h S B H t .refl χ
theorem W.ca {id:Nat} {ops:Array Oper} (h:W P m nt (.inRegion ops (idx ops.size [])::k) env σ Z E):W P m nt (.code (.region id ops false)::k) env σ Z E:=
 fun Q mn x cs b S B H t δ hb χ Ν he=>.region δ hb (by rw[←idx_eq];exact h Q mn x cs b S B H t δ hb χ Ν he)
theorem W.part (Ζ:bN P T) (is ni:List Nat) {ops:Array Oper} {l:List Nat} (ω:l=is++ni) (h:∀J:Χ→List Row→Prop,(∀env σ,W P m nt (.inRegion ops ni::k) env σ Z E→J env σ)→run P T A nt ops is env σ J E):W P m nt (.inRegion ops l::k) env σ Z E:=
 ω▸Ge Ζ ni is env σ (h _ fun _ _ h=>h)
theorem GM (ξ:c7 S B σ env t) (args:Array Operand):fl S B σ (args.toList.map (aL env)) (args.map (bk t)):=by
 refine⟨by simp,fun i a v R γ=>?_⟩;rw[List.getElem?_map,Array.getElem?_toList] at R;rw[Array.getElem?_map] at γ;cases δ:args[i]? with
 | none=>rw[δ] at R;cases R
 | some y=>rw[δ] at R γ;cases R;cases γ;exact kW ξ y
theorem Plain.enter {g:FuncId} (h:Plain P g) (vs:Array Value) (w:World):(callFunc g vs).runT P w #[]=(.ok (.enter g vs) w,#[]):=by
 obtain⟨fn,R,γ,ο⟩:=h;unfold callFunc;show Sem.runT P (Sem.bind program fun p=>_) w #[]=_;simp only[program,Sem.bind];show Sem.runT P (match P.funcs[g]? with|none=>_|some fn=>_) w #[]=_;rw[R];simp only[γ,ο,Bool.false_eq_true,if_false];rfl
theorem fj.put {op:Oper} {a:θ} {v:Value} (χ:fj m nt S B H σ env t) (hd:hB nt op=true) (μ:aj S B σ a v):fj m nt S B H σ (b5 op env a) (put op t v):=
 ⟨χ.holds,(qm χ.cj hd χ.size μ).1,(qm χ.cj hd χ.size μ).2,χ.rows⟩
theorem eO.all (h:eO m S B H σ au B' H' σ') (Α:Holds S B σ H) (hm:σ.length≤m):b0 S au B B' σ σ':=by
 have:=h.later
 rwa [List.take_of_length_le (by rw[Α.len];exact hm),List.take_of_length_le hm] at this
theorem V.defer (δ:Seq x) (hb:b.mode=.run) (b7:b.roundOf=none) {ops:Array Oper} {i:Nat} {rest:List Nat} {op:Oper} (Β:ops[i]?=some op) (hw:fp env ops op=some true) (qn:op.dst=none) {f:Operand} {args:Array Operand} {dL:Array TypeId} (Κ:op.op=.defer ⟨.value f,args,dL⟩)
  {g:FuncId} {first captured:List θ} (Ρ:aL env f=.fn (.func g) first captured) (Τ:Plain P g)
  (h:∀(S:aA) (B:aN) (H:ψ) (t:Array Value) (d:Deferred) (vs:Array Value),eO o.m o.S o.B o.H o.σ S B H σ→fj o.m nt S B H σ env t→fl S B σ (first++args.toList.map (aL env)++captured) vs→uV P d g vs→
   aJ P Q mn x (ao {b with defers:=d::b.defers} t (.inRegion ops rest::k)) cs H):V P Q mn x b cs nt o (.inRegion ops (i::rest)::k) env σ:=by
 intro S B H t μ χ;refine .op δ hb Β (jx χ.cj hw) (.inl b7) ?_;have bR:=kW χ.cj f;rw[Ρ] at bR;have lM:=GM χ.cj args;have e:execOp (bk t) op=(do pure (.defer (←Deferred.ofValue (bk t f) (args.map (bk t))))):=by unfold execOp;rw[Κ];rfl
 rw[e];generalize bk t f=ai at bR;cases bR with
 | fn v1 v2 R γ ο Ι=>
  refine ς.bind' (ς.pure' (ς.pure' ?_));have L5:put op t undef=t:=by unfold put;rw[qn]
  simp only[KE,L5];have r1:fl S B σ first v1:=⟨R,ο⟩
  have r2:fl S B σ captured v2:=⟨γ,Ι⟩;exact h S B H t ⟨.fn (.func g) v2,v1++args.map (bk t)⟩ (v1++args.map (bk t)++v2) μ χ ((r1.append lM).append r2) ⟨fun _ h=>(by cases h),fun h=>(by cases h),fun w=>Τ.enter _ w⟩
theorem aJ.recovered (δ:Seq x) (hb:b.mode=.run) (b7:b.roundOf=none) {ops:Array Oper} {i:Nat} {rest:List Nat} {op:Oper} (Β:ops[i]?=some op) (Τ:op.guard=none) {dL:Array TypeId} (Κ:op.op=.call ⟨.builtin .recover,#[],dL⟩) {v:Value} {cs':List Frame}
  (κ:(tryRecover (ao b t (.inRegion ops (i::rest)::k)) cs=some (v,cs'))∨(tryRecover (ao b t (.inRegion ops (i::rest)::k)) cs=none∧v=.nilIface∧cs'=cs))
  (h:aJ P Q mn x (ao b (put op t v) (.inRegion ops rest::k)) cs' H):aJ P Q mn x (ao b t (.inRegion ops (i::rest)::k)) cs H:=by
 refine .op δ hb Β (by unfold Region.wanted;rw[Τ]) (.inl b7) ?_;have e:execOp (bk t) op=pure .recover:=by unfold execOp;rw[Κ];rfl
 rw[e];refine ς.pure' ⟨b7,?_⟩;rcases κ with κ|⟨κ,rfl,rfl⟩
 ·rw[κ];exact h
 ·rw[κ];exact h
end
theorem results_none {fn:Func} (h:fn.results=#[]) (t:Array Value):results fn t=pure (.tuple #[]):=by
 unfold results;rw[h];simp
theorem pj {P:Program} {g:FuncId} {fn:Func} {body:Code} (b':P.funcs[g]?=some fn) (mC:fn.body=some body) (vs:Array Value) (kd:CallKind):Frame.enter P g vs kd=ao (Frame.enter P g vs kd) (vs++Array.replicate (fn.ntmps-vs.size) undef) [.code body]:=by
 simp[Frame.enter,ao,b',mC]
theorem fj.enter {S:aA} {B:aN} {H:ψ} {σ:List Row} {pk:List θ} {vs:Array Value} {nt m:Nat} (Α:Holds S B σ H) (hv:fl S B σ pk vs) (hm:m≤σ.length) (Η:pk.length≤nt):fj m nt S B H σ (entry 0 pk) (vs++Array.replicate (nt-vs.size) undef):=
 ⟨Α,Ly hv _,by have:=hv.1;simp;omega,hm⟩
end Go.TL
namespace Go.TL
open Go.Proofs
variable [bd]
def hT (s:aM) (before:List dZ) (p:dZ):Int:=
 if p.cE<0∨(s.an.length:Int)≤p.cE then 3 else if before.any (fun x=>x.cE==p.cE) then 4 else if valid p.seen=false∨valid p.bare=false then 1 else if mH p.seen p.bare=0 then 0 else 9
theorem U3 (p x:dZ):av Tryz.prog 195 [e5 x,.aa [U p.cE,U p.seen,U p.bare]] (bm (x.cE==p.cE)):=by
 refine ak.body Θ Tryz.func195 rfl rfl Tryz.ntmps195 rfl rfl (by simp) ?_;(repeat (first|apply ι|(refine ν fun J I=>?_;simp;(repeat (rw[ζ];simp));apply I;clear I J)));refine W.ret ⟨_,rfl,?_,rfl⟩;exact .of (by simp[])
theorem U4 (s:aM) (before:List dZ) (ω:before.length<2 ^ 62) (p:dZ):ak Tryz.prog 153 [eP s,k5 before,e5 p] [] (fun a σ=>hT s before p=0∧a=.bt []∧σ=[]) (fun a σ=>hT s before p≠0∧a=.fv 38 (U (hT s before p))∧σ=[]):=by
 refine ak.body Θ Tryz.func153 rfl rfl Tryz.ntmps153 rfl rfl (by simp) ?_;(repeat (first|apply ι|(refine ν fun J I=>?_;simp;(repeat (rw[ζ];simp));apply I;clear I J)));refine W.CA (A:=[]) Θ mixed [(6,U p.seen),(7,U p.bare),(1,k5 before),(3,.aa [aP s.af,aO s.an,bz s.cells]),(5,.aa [U p.cE,U p.seen,U p.bare])] ?_ (by simp[bp,Cx];exact bL (by kernel_rfl))
 repeat first|apply ι
 refine W.rA (A:=[]) Θ [(12,bm (decide (p.cE<0)||decide ((s.an.length:Int)≤p.cE))),(6,U p.seen),(7,U p.bare),(1,k5 before),(3,.aa [aP s.af,aO s.an,bz s.cells]),(5,.aa [U p.cE,U p.seen,U p.bare])] ?_ (by by_cases q:p.cE<0<;>simp[ζ,oc,q]);by_cases bI:p.cE<0∨(s.an.length:Int)≤p.cE
 case pos=>
  have e:hT s before p=3:=by unfold hT;rw[if_pos bI]
  rw[e];refine al (by simpa using bI) ?_;(repeat (first|apply ι));refine ν fun J I=>?_;simp;(repeat (rw[ζ];simp))
 refine ah (by simpa using bI) ?_;(repeat (first|apply ι));refine ν fun J I=>?_;simp;(repeat (rw[ζ];simp));refine av.c (UX before (.fn (.func 195) [] [.aa [U p.cE,U p.seen,U p.bare]]) (fun x=>x.cE==p.cE) ω (by simp[k2]) (fun x _=>fun _=>(U3 p x).cc (by simp;exact aI.refl _) (by simp) (by simp) ⟨rfl,rfl⟩)) (aI.refl _) (by simp[k2]) (by simp) ?_;simp;(repeat (rw[ζ];simp));apply I;clear I J;cases dc:before.any (fun x=>x.cE==p.cE)
 case true=>
  have e:hT s before p=4:=by unfold hT;rw[if_neg bI,if_pos dc]
  rw[e];refine al (by simp) ?_;(repeat (first|apply ι));refine ν fun J I=>?_;simp;(repeat (rw[ζ];simp))
 refine ah (by simp) ?_
 repeat first|apply ι
 have L6:(valid p.seen=false∨valid p.bare=false)→hT s before p=1:=fun h=>by unfold hT;rw[if_neg bI,dc];simp[h]
 cases fB:valid p.seen
 case false=>
  rw[L6 (.inl fB)];(repeat (first|apply ι));refine ν fun J I=>?_;simp;(repeat (rw[ζ];simp));refine av.c (wF p.seen) (aI.refl _) (by simp) (by simp) ?_;simp[fB];(repeat (rw[ζ];simp[fB]));apply I;clear I J;refine al rfl ?_;(repeat (first|apply ι));refine ν fun J I=>?_;simp;(repeat (rw[ζ];simp))
 cases lD:valid p.bare
 case false=>
  rw[L6 (.inr lD)];(repeat (first|apply ι));refine ν fun J I=>?_;simp;(repeat (rw[ζ];simp));refine av.c (wF p.seen) (aI.refl _) (by simp) (by simp) ?_;simp[fB];(repeat (rw[ζ];simp[fB]));refine av.c (wF p.bare) (aI.refl _) (by simp) (by simp) ?_;simp[lD];(repeat (rw[ζ];simp[lD]));apply I;clear I J;refine al rfl ?_;(repeat (first|apply ι));refine ν fun J I=>?_;simp;(repeat (rw[ζ];simp))
 (repeat (first|apply ι));refine ν fun J I=>?_;simp;(repeat (rw[ζ];simp));refine av.c (wF p.seen) (aI.refl _) (by simp) (by simp) ?_;simp[fB];(repeat (rw[ζ];simp[fB]));refine av.c (wF p.bare) (aI.refl _) (by simp) (by simp) ?_;simp[lD];(repeat (rw[ζ];simp[lD]));apply I;clear I J;refine ah rfl ?_;(repeat (first|apply ι));refine ν fun J I=>?_;simp;(repeat (rw[ζ];simp));refine av.c (LY p.seen p.bare) (aI.refl _) (by simp) (by simp) ?_;simp;(repeat (rw[ζ];simp));apply I;clear I J;by_cases sY:mH p.seen p.bare=0
 ·have e:hT s before p=0:=by unfold hT;rw[if_neg bI,dc];simp[fB,lD,sY]
  refine ah (by simp[sY]) ?_;(repeat (first|apply ι|(refine ν fun J I=>?_;simp;(repeat (rw[ζ];simp));apply I;clear I J)));exact W.nil ⟨_,rfl,e,rfl,rfl⟩
 ·have e:hT s before p=9:=by unfold hT;rw[if_neg bI,dc];simp[fB,lD,sY]
  rw[e];refine al (by simp[sY]) ?_;(repeat (first|apply ι));refine ν fun J I=>?_;simp;(repeat (rw[ζ];simp))
end Go.TL
namespace Go.TL
open Go.Proofs Go.Conc
variable [bd]
theorem fl.later {S au:aA} {B B':aN} {σ σ':List Row} {l:List θ} {vs:Array Value} (h:fl S B σ l vs) (ω:b0 S au B B' σ σ'):fl au B' σ' l vs:=⟨h.1,fun i a v R γ=>(h.2 i a v R γ).later ω⟩
theorem uG.fin {P:Program} {Q:Value→Prop} {mn:Bool} {x:gy} {c:Frame} {rest:List Frame} {S au:aA} {H H':ψ} {B':aN} {σ':List Row} {v:Value} {r:θ} (hb:uG P Q mn x c rest S [] H [] (fun a s=>db a r∧s=[]) (fun _ _=>False))
  (he:Ext S [] H au B' H') (Α:Holds au B' σ' H') (κ:∀S B σ,aj S B σ r v):aJ P Q mn x (c.finish v) rest H':=by
 obtain⟨R,γ⟩:=Α.close (h:=0) (fun id r bU=>by omega);simp only[List.take_zero] at R γ;exact hb.ret r [] _ [] H' v ⟨.refl _,rfl⟩ (he.trans γ) ⟨fun b o v hv=>γ.c6 _ _ _ (he.c6 _ _ _ hv),fun id r h=>by simp at h⟩ R (κ _ _ _)
abbrev rL (e:Int):List Row:=[.cells 38 1 [U e]]
section
variable {Q:Value→Prop} {mn:Bool} {x:gy} {c f:Frame} {rest:List Frame} {S bE:aA} {bK:aN} {H H1:ψ} {cA e:Int} {oq:Array Value} {t:Array Value} {env:Χ} {err:Int}
theorem L7 (δ:Seq x) (hb:uG Tryz.prog Q mn x c rest S [] H [] (fun a s=>db a (U err)∧s=[]) (fun _ _=>False)) {d:Deferred} (hd:uV Tryz.prog d 152 oq)
  (b':f.fn=122) (et:f.defers=[d]) (υ:f.kind=.normal) (b7:f.roundOf=none) (hm:(f.mode=.returning∧cA=err)∨∃v,f.mode=.panicking [{v,recovered:=false}]∧aj bE bK (rL cA) (.fv 38 (U err)) v)
  (rM:Ext S [] H bE bK H1) (Α:Holds bE bK (rL cA) H1) (hv:fl bE bK (rL cA) [.ag 0 1 0 0] oq) (ξ:c7 bE bK (rL cA) env f.tmps) (a6:a5 env 6=.ag 0 1 0 0):aJ Tryz.prog Q mn x f (c::rest) H1:=by
 have U5:f.mode≠.run:=by rcases hm with⟨h,_⟩|⟨v,h,_⟩<;>rw[h]<;>simp
 refine aJ.deferred δ U5 et hd.t1 hd.t2 hd.run ?_;rw[pj Tryz.func152 rfl];have fin:∀(f':Frame) (jf:aA) (ot:aN) (jg:ψ),f'.mode=.returning→f'.defers=[]→f'.kind=.normal→f'.fn=f.fn→f'.tmps=f.tmps→Ext bE bK H1 jf ot jg→b0 bE jf bK ot (rL cA) (rL err)→Holds jf ot (rL err) jg→aJ Tryz.prog Q mn x f' (c::rest) jg:=fun f' jf ot jg eH ef sZ wI zi c9 aD j5=>by
  refine aJ.back δ eH ef (.inl sZ) (fn:=Tryz.f122) (by rw[wI,b'];exact Tryz.func122) ?_;rw[zi];refine ς.mono (fun v hk ⟨hU,jh,eR,tG,ay,xS⟩=>?_) (fun _ _ h=>h) _ (Cl Θ (a:=U err) (show qp a9 [.cell 6 38] env (rL err)=some (U err) by simp[qp,rB,wy,a6,uI,hP.agg]) j5 (ξ.later aD));cases xS;exact hb.fin (rM.trans (c9.trans eR)) ay fun _ _ _=>.z _
 refine V.here (m:=1) (nt:=10) (env:=entry 0 [.ag 0 1 0 0]) ?_ (fj.enter Α hv (by simp) (by simp));refine V.a' δ rfl ?_
 repeat first|apply ι
 refine W.ca ?_;refine W.stop ?_;intro jW jX iF t3 g5 fb;rcases hm with⟨hm,rfl⟩|⟨v,hm,wJ⟩
 ·refine aJ.recovered δ rfl rfl rfl rfl rfl (v:=.nilIface) (.inr ⟨?_,rfl,rfl⟩) ?_
  ·simp[tryRecover,ao,Frame.enter,hm]
  ·refine V.here (m:=1) ?_ (fb.put rfl (.z .nilIface));refine V.a' δ rfl ?_;refine W.part (A:=[]) Θ [1,2,3,4,5,6] [] rfl fun J I=>?_;simp[uj];(repeat (rw[ζ];simp[uj]));apply I;clear I J;refine W.bB ?_;(repeat (first|apply ι|(refine ν fun J I=>?_;simp;(repeat (rw[ζ];simp));apply I;clear I J)));refine ah rfl ?_;(repeat (first|apply ι|(refine ν fun J I=>?_;simp;(repeat (rw[ζ];simp));apply I;clear I J)));refine W.stop ?_;intro jf ot jg t4 rN pn;refine .rb δ rfl rfl ?_;refine aJ.Fs δ rfl rfl rfl Tryz.func152 ?_;rw[results_none rfl];refine ς.pure' ?_;simp only[hm];exact fin _ jf ot jg rfl rfl υ rfl rfl (g5.ext.trans rN.ext) ((g5.trans rN).all Α (by simp)) pn.holds
 ·have rO:aj jW jX (rL cA) (.fv 38 (U err)) v:=wJ.later (g5.all Α (by simp));refine aJ.recovered δ rfl rfl rfl rfl rfl (v:=v) (cs':={f with defers:=[],mode:=.panicking [{v,recovered:=true}]}::c::rest) (.inl ?_) ?_
  ·simp[tryRecover,ao,Frame.enter,hm]
  ·refine V.here (m:=1) ?_ (fb.put rfl rO);refine V.a' δ rfl ?_;refine W.part (A:=[]) Θ [1,2,3,4,5,6] [] rfl fun J I=>?_;simp[uj];(repeat (rw[ζ];simp[uj]));apply I;clear I J;refine W.bB ?_;(repeat (first|apply ι|(refine ν fun J I=>?_;simp;(repeat (rw[ζ];simp));apply I;clear I J)));refine al rfl ?_;(repeat (first|apply ι|(refine ν fun J I=>?_;simp;(repeat (rw[ζ];simp));apply I;clear I J)));refine W.stop ?_;intro jf ot jg t4 rN pn;refine .rb δ rfl rfl ?_;refine aJ.Fs δ rfl rfl rfl Tryz.func152 ?_;rw[results_none rfl];refine ς.pure' ?_;exact fin _ jf ot jg rfl rfl υ rfl rfl (g5.ext.trans rN.ext) ((g5.trans rN).all Α (by simp)) pn.holds
end
theorem U6 (s:aM) (before:List dZ) (ω:before.length<2 ^ 62) (p:dZ):av Tryz.prog 122 [eP s,k5 before,e5 p] (U (hT s before p)):=by
 refine⟨⟨_,Tryz.func122,rfl,rfl⟩,fun Q mn x c rest S B H vs δ Α hv hb=>?_⟩;have e1:B=[]:=dq.1 (by have:=Α.len;simpa using this);subst e1;rw[pj Tryz.func122 rfl];refine V.here (m:=0) (nt:=12) (env:=entry 0 [eP s,k5 before,e5 p]) ?_ (fj.enter Α hv (by simp) (by simp));refine V.a' δ rfl ?_
 repeat first|apply ι
 refine de (A:=[6]) Θ fun J I=>?_;simp;(repeat (rw[ζ];simp));apply I;clear I J
 repeat first|apply ι
 refine W.ca ?_;refine W.part (A:=[]) Θ [0] [1] rfl fun J I=>?_;(try simp);(repeat (rw[ζ];simp));apply I;clear I J;refine W.stop ?_;refine V.defer δ rfl rfl rfl rfl rfl rfl rfl ⟨_,Tryz.func152,rfl,rfl⟩ fun bE bK H1 t1 d oq po lS uJ hd=>?_;refine V.here (m:=1) ?_ ⟨lS.holds,lS.cj,lS.size,by simp⟩;refine V.a' δ rfl ?_;refine W.bB ?_;(repeat (first|apply ι));refine ν fun J I=>?_;simp;(repeat (rw[ζ];simp));refine hR.mono (ak.call (first:=[]) (captured:=[]) ((U4 s before ω p).mono (K':=fun a bj=>hT s before p=0∧az 0 a∧bj=[]) (E':=fun a bj=>(hT s before p≠0∧a=.fv 38 (U (hT s before p)))∧az 0 a∧bj=[]) (fun a bj ⟨R,γ,ο⟩=>⟨R,by subst γ;simp,ο⟩) (fun a bj ⟨R,γ,ο⟩=>⟨⟨R,γ⟩,by subst γ;simp,ο⟩) |>.frame (by simp))) (fun a bj ⟨ae,ξ⟩=>?_) (fun a bj ⟨⟨ae,μ⟩,ξ⟩=>?_)
 ·subst ξ;(try simp);(repeat (rw[ζ];simp));apply I;clear I J;(repeat (first|apply ι|(refine ν fun J I=>?_;simp;(repeat (rw[ζ];simp));apply I;clear I J)));refine W.stop ?_;intro cO eV bJ t2 qw lT;refine aJ.ret (b:={Frame.enter Tryz.prog 122 vs .normal with defers:=[d]}) δ rfl rfl ?_;exact L7 δ hb hd rfl rfl rfl rfl (.inl ⟨rfl,ae.symm⟩) (po.ext.trans qw.ext) lT.holds (uJ.later (qw.all lS.holds (by simp))) lT.cj rfl
 ·subst ξ;subst μ;intro cO eV bJ t2 cx v qw iA dI s0;have rP:=qw.all lS.holds (by simp);refine L7 δ hb hd rfl rfl rfl rfl (.inr ⟨v,rfl,s0⟩) (po.ext.trans qw.ext) iA (uJ.later rP) dI ?_;rfl
end Go.TL
namespace Go.TL
open Go.Proofs
variable [bd]
theorem U7:IntKind.i64.wrap 3=3:=by decide
def uW (l:List Int) (i:Nat):Int:=match l[i]? with
 | none=>0
 | some n=>if jV n=false then 3 else if 0<i∧n≤(l[i-1]?).getD 0 then 5 else 0
def wK (l:List Int):Int:=ij ((List.range l.length).map (uW l))
def nx (ls:List (List Int)):Int:=if ls.length=0 then 7 else if 4<ls.length then 6 else ij ((List.range ls.length).map fun i=>wK ((ls[i]?).getD []))
theorem U8 (s:aM) (ξ:s.small):av Tryz.prog 104 [eP s] (U (nx s.an)):=by
 refine ak.body Θ Tryz.func104 rfl rfl Tryz.ntmps104 rfl rfl (by simp) ?_;have ω:=ξ.2.1;by_cases hh:s.an.length=0
 ·(repeat (first|apply ι|(refine ν fun J I=>?_;simp;(repeat (rw[ζ];simp[hh]));apply I;clear I J)));refine al (by simp) ?_;(repeat (first|apply ι|(refine ν fun J I=>?_;simp;(repeat (rw[ζ];simp));apply I;clear I J)));refine W.ret ⟨_,rfl,?_,rfl⟩;exact .of (by rw[show nx s.an=7 by simp[nx,hh]];rfl)
 by_cases oo:(4:Int)<s.an.length
 ·(repeat (first|apply ι|(refine ν fun J I=>?_;simp;(repeat (rw[ζ];simp[hh,oo]));apply I;clear I J)));refine ah (by simp[hh]) ?_;(repeat (first|apply ι|(refine ν fun J I=>?_;simp;(repeat (rw[ζ];simp[hh,oo]));apply I;clear I J)));refine al (by simp) ?_;(repeat (first|apply ι|(refine ν fun J I=>?_;simp;(repeat (rw[ζ];simp));apply I;clear I J)));refine W.ret ⟨_,rfl,?_,rfl⟩;exact .of (by rw[show nx s.an=6 by simp[nx,hh];omega];rfl)
 have zh:nx s.an=ij ((List.range s.an.length).map fun i=>wK ((s.an[i]?).getD [])):=by
  unfold nx;rw[if_neg hh,if_neg (by omega)]
 rw[zh];(repeat (first|apply ι|(refine ν fun J I=>?_;simp;(repeat (rw[ζ];simp[hh,oo]));apply I;clear I J)));refine ah (by simp[hh]) ?_;(repeat (first|apply ι|(refine ν fun J I=>?_;simp;(repeat (rw[ζ];simp[hh,oo]));apply I;clear I J)));refine ah (by simp) ?_;(repeat (first|apply ι|(refine ν fun J I=>?_;simp;(repeat (rw[ζ];simp));apply I;clear I J)));refine W.iter (fun i:Nat=>i≤s.an.length∧∀j,j<i→wK ((s.an[j]?).getD [])=0) (fun i=>[(1,.aa [aP s.af,aO s.an,bz s.cells]),(18,aO s.an),(19,U s.an.length),(20,U i)]) (fun _=>[]) (fun i=>s.an.length-i) 0 ⟨by omega,fun j ε=>by omega⟩ rfl (by simp) (fun i hi Γ=>?_);(repeat (first|apply ι|(refine ν fun J I=>?_;simp;(repeat (rw[ζ];simp));apply I;clear I J)));refine W.dY rfl (fun η=>?_) (fun η=>?_)
 ·have η:i<s.an.length:=by simpa using η
  have ph:(s.an[i]?).getD []=s.an[i]:=by simp[η]
  have χ:s.an[i].length<2 ^ 30:=ξ.2.2.2.1 _ (List.getElem_mem η);(repeat (first|apply ι|(refine ν fun J I=>?_;simp;(repeat (rw[ζ];simp[η]));apply I;clear I J)));refine W.iter (fun n:Nat=>n≤s.an[i].length∧∀j,j<n→uW s.an[i] j=0) (fun n=>[(1,.aa [aP s.af,aO s.an,bz s.cells]),(18,aO s.an),(19,U s.an.length),(20,U i),(4,a3 U 1 s.an[i]),(24,a3 U 1 s.an[i]),(25,U s.an[i].length),(26,U n)]) (fun _=>[]) (fun n=>s.an[i].length-n) 0 ⟨by omega,fun j ε=>by omega⟩ rfl (by simp) (fun n Η GN=>?_);(repeat (first|apply ι|(refine ν fun J I=>?_;simp;(repeat (rw[ζ];simp));apply I;clear I J)));refine W.dY rfl (fun aZ=>?_) (fun aZ=>?_)
  ·have hd:n<s.an[i].length:=by simpa using aZ
   have wL:s.an[i][n]?=some s.an[i][n]:=bc hd
   have fin:∀e:Int,uW s.an[i] n=e→e≠0→ij ((List.range s.an.length).map fun i=>wK ((s.an[i]?).getD []))=e:=fun e he ae=>
    zf (i:=i) η (by rw[ph];exact zf hd he ae Η.2) ae hi.2
   repeat first|apply ι
   refine ν fun J I=>?_;simp;(repeat (rw[ζ];simp[hd]));apply I;clear I J;(repeat (first|apply ι));refine ν fun J I=>?_;simp;(repeat (rw[ζ];simp));refine av.c (oi s.an[i][n]) (aI.refl _) (by simp) (by simp) ?_;simp;(repeat (rw[ζ];simp));apply I;clear I J;cases bI:jV s.an[i][n]
   ·refine al (by simp) ?_;(repeat (first|apply ι|(refine ν fun J I=>?_;simp;(repeat (rw[ζ];simp));apply I;clear I J)));refine W.ret ⟨_,rfl,?_,rfl⟩;exact .of (by rw[fin 3 (by simp[uW,wL,bI]) (by decide)];rfl)
   refine ah (by simp) ?_
   repeat first|apply ι
   refine W.rA (A:=[]) Θ [(35,bm (decide (0<n∧s.an[i][n]≤(s.an[i][n-1]?).getD 0))),(1,.aa [aP s.af,aO s.an,bz s.cells]),(18,aO s.an),(19,U s.an.length),(20,U i),(4,a3 U 1 s.an[i]),(24,a3 U 1 s.an[i]),(25,U s.an[i].length),(26,U n)] ?_ (by
    cases n with
    | zero=>simp[ζ,oc]
    | succ n=>
     have jC:n<s.an[i].length:=by omega
     have Ε:=fy (show n<2 ^ 62 by omega)
     have ae:(0:Int)<(n:Int)+1:=by omega
     simp[ζ,oc,ae,jC,Ε])
   by_cases dc:0<n∧s.an[i][n]≤(s.an[i][n-1]?).getD 0
   ·refine al (by simp only[dc];rfl) ?_;(repeat (first|apply ι|(refine ν fun J I=>?_;simp;(repeat (rw[ζ];simp));apply I;clear I J)));refine W.ret ⟨_,rfl,?_,rfl⟩;exact .of (by rw[fin 5 (by simp only[uW,wL,bI];rw[if_neg (by simp),if_pos dc]) (by decide)];rfl)
   ·refine ah (by simp only[dc];rfl) ?_;(repeat (first|apply ι|(refine ν fun J I=>?_;simp;(repeat (rw[ζ];simp));apply I;clear I J)));refine W.forget _ ?_ (GN (n+1) ⟨hd,fun j ε=>?_⟩ (by omega))
    ·simp[eD hd (show s.an[i].length<2 ^ 62 by omega)]
    ·by_cases e:j=n
     ·subst e;simp only[uW,wL,bI];rw[if_neg (by simp),if_neg dc]
     ·exact Η.2 j (by omega)
  ·have hd:s.an[i].length≤n:=by simpa using aZ
   refine W.exit rfl ?_;(repeat (first|apply ι|(refine ν fun J I=>?_;simp;(repeat (rw[ζ];simp));apply I;clear I J)));refine W.forget _ ?_ (Γ (i+1) ⟨η,fun j ε=>?_⟩ (by omega))
   ·simp[eD η (show s.an.length<2 ^ 62 by omega)]
   ·by_cases e:j=i
    ·subst e;rw[ph];exact zg fun j ε=>Η.2 j (by omega)
    ·exact hi.2 j (by omega)
 ·have η:s.an.length≤i:=by simpa using η
  refine W.exit rfl ?_;(repeat (first|apply ι|(refine ν fun J I=>?_;simp;(repeat (rw[ζ];simp));apply I;clear I J)));refine W.ret ⟨_,rfl,?_,rfl⟩;exact .of (by rw[zg (f:=fun i=>wK ((s.an[i]?).getD [])) fun j ε=>hi.2 j (by omega)];rfl)
def pq (s:aM) (c:List dZ):Int:=if 4<c.length then 6 else ij ((List.range c.length).map fun i=>match c[i]? with|none=>0|some p=>hT s (c.take i) p)
def rQ (s:aM):Int:=if 4<s.cells.length then 6 else ij ((List.range s.cells.length).map fun i=>pq s ((s.cells[i]?).getD []))
theorem U9 (s:aM) (ξ:s.small):av Tryz.prog 105 [eP s] (U (rQ s)):=by
 refine ak.body Θ Tryz.func105 rfl rfl Tryz.ntmps105 rfl rfl (by simp) ?_;have ω:=ξ.2.2.1;by_cases oo:(4:Int)<s.cells.length
 ·(repeat (first|apply ι|(refine ν fun J I=>?_;simp;(repeat (rw[ζ];simp[oo]));apply I;clear I J)));refine al (by simp) ?_;(repeat (first|apply ι|(refine ν fun J I=>?_;simp;(repeat (rw[ζ];simp));apply I;clear I J)));refine W.ret ⟨_,rfl,?_,rfl⟩;exact .of (by rw[show rQ s=6 by simp[rQ];omega];rfl)
 have zh:rQ s=ij ((List.range s.cells.length).map fun i=>pq s ((s.cells[i]?).getD [])):=by
  unfold rQ;rw[if_neg (by omega)]
 rw[zh];(repeat (first|apply ι|(refine ν fun J I=>?_;simp;(repeat (rw[ζ];simp[oo]));apply I;clear I J)));refine ah (by simp) ?_;(repeat (first|apply ι|(refine ν fun J I=>?_;simp;(repeat (rw[ζ];simp));apply I;clear I J)));refine W.iter (fun i:Nat=>i≤s.cells.length∧∀j,j<i→pq s ((s.cells[j]?).getD [])=0) (fun i=>[(1,.aa [aP s.af,aO s.an,bz s.cells]),(13,bz s.cells),(14,U s.cells.length),(15,U i)]) (fun _=>[]) (fun i=>s.cells.length-i) 0 ⟨by omega,fun j ε=>by omega⟩ rfl (by simp) (fun i hi Γ=>?_);(repeat (first|apply ι|(refine ν fun J I=>?_;simp;(repeat (rw[ζ];simp));apply I;clear I J)));refine W.dY rfl (fun η=>?_) (fun η=>?_)
 ·have η:i<s.cells.length:=by simpa using η
  have ph:(s.cells[i]?).getD []=s.cells[i]:=by simp[η]
  have χ:s.cells[i].length<2 ^ 30:=ξ.2.2.2.2 _ (List.getElem_mem η)
  have L8:∀e:Int,pq s s.cells[i]=e→e≠0→ij ((List.range s.cells.length).map fun i=>pq s ((s.cells[i]?).getD []))=e:=fun e he ae=>
   zf (i:=i) η (by rw[ph];exact he) ae hi.2
  by_cases L9:(4:Int)<s.cells[i].length
  ·(repeat (first|apply ι|(refine ν fun J I=>?_;simp;(repeat (rw[ζ];simp[η,L9]));apply I;clear I J)));refine al (by simp) ?_;(repeat (first|apply ι|(refine ν fun J I=>?_;simp;(repeat (rw[ζ];simp));apply I;clear I J)));refine W.ret ⟨_,rfl,?_,rfl⟩;exact .of (by rw[L8 6 (by unfold pq;rw[if_pos (by omega)]) (by decide)];rfl)
  (repeat (first|apply ι|(refine ν fun J I=>?_;simp;(repeat (rw[ζ];simp[η,L9]));apply I;clear I J)));refine ah (by simp) ?_;(repeat (first|apply ι|(refine ν fun J I=>?_;simp;(repeat (rw[ζ];simp));apply I;clear I J)));have L':pq s s.cells[i]=ij ((List.range s.cells[i].length).map fun n=>match s.cells[i][n]? with|none=>0|some p=>hT s (s.cells[i].take n) p):=by unfold pq;rw[if_neg (by omega)]
  refine W.iter (fun n:Nat=>n≤s.cells[i].length∧∀j,j<n→(match s.cells[i][j]? with|none=>0|some p=>hT s (s.cells[i].take j) p)=0) (fun n=>[(1,.aa [aP s.af,aO s.an,bz s.cells]),(13,bz s.cells),(14,U s.cells.length),(15,U i),(4,k5 s.cells[i]),(22,k5 s.cells[i]),(23,U s.cells[i].length),(24,U n)]) (fun _=>[]) (fun n=>s.cells[i].length-n) 0 ⟨by omega,fun j ε=>by omega⟩ rfl (by simp) (fun n Η GN=>?_);(repeat (first|apply ι|(refine ν fun J I=>?_;simp;(repeat (rw[ζ];simp));apply I;clear I J)));refine W.dY rfl (fun aZ=>?_) (fun aZ=>?_)
  ·have hd:n<s.cells[i].length:=by simpa using aZ
   have wL:s.cells[i][n]?=some s.cells[i][n]:=bc hd
   repeat first|apply ι
   refine de (A:=[6]) Θ fun J I=>?_;simp;(repeat (rw[ζ];simp[hd]));apply I;clear I J;refine W.fix (id:=0) (σ':=[]) (Nat.zero_le _) rfl (by simp) (by simp) rfl [(5,U n),(6,.aa [U s.cells[i][n].cE,U s.cells[i][n].seen,U s.cells[i][n].bare]),(1,.aa [aP s.af,aO s.an,bz s.cells]),(13,bz s.cells),(14,U s.cells.length),(15,U i),(4,k5 s.cells[i]),(22,k5 s.cells[i]),(23,U s.cells[i].length),(24,U n)] (by simp) ?_
   repeat first|apply ι
   refine W.draw (A:=[]) Θ mixed fun J I=>?_;simp;(repeat (rw[bp];simp[hd,Nat.le_of_lt hd]));(try simp only[←List.map_take]);refine gn (av.p (U6 s (s.cells[i].take n) (by simp;omega) s.cells[i][n]) (aI.refl _) (by simp) (by simp)) ?_;simp;(repeat (rw[bp];simp));refine⟨bL (by kernel_rfl),I _ _ ?_⟩;clear I J
   repeat first|apply ι
   (repeat (first|apply ι|(refine ν fun J I=>?_;simp;(repeat (rw[ζ];simp));apply I;clear I J)));by_cases b:hT s (s.cells[i].take n) s.cells[i][n]=0
   ·refine ah (by simp[b]) ?_;(repeat (first|apply ι|(refine ν fun J I=>?_;simp;(repeat (rw[ζ];simp));apply I;clear I J)));refine W.forget _ ?_ (GN (n+1) ⟨hd,fun j ε=>?_⟩ (by omega))
    ·simp[eD hd (show s.cells[i].length<2 ^ 62 by omega)]
    ·by_cases e:j=n
     ·subst e;rw[wL];exact b
     ·exact Η.2 j (by omega)
   ·refine al (by simp[b]) ?_;(repeat (first|apply ι|(refine ν fun J I=>?_;simp;(repeat (rw[ζ];simp));apply I;clear I J)));refine W.ret ⟨_,rfl,?_,rfl⟩;exact .of (by rw[L8 (hT s (s.cells[i].take n) s.cells[i][n]) (by rw[L'];exact zf hd (by rw[wL]) b Η.2) b];rfl)
  ·have hd:s.cells[i].length≤n:=by simpa using aZ
   refine W.exit rfl ?_;(repeat (first|apply ι|(refine ν fun J I=>?_;simp;(repeat (rw[ζ];simp));apply I;clear I J)));refine W.forget _ ?_ (Γ (i+1) ⟨η,fun j ε=>?_⟩ (by omega))
   ·simp[eD η (show s.cells.length<2 ^ 62 by omega)]
   ·by_cases e:j=i
    ·subst e;rw[ph,L'];exact zg fun j ε=>Η.2 j (by omega)
    ·exact hi.2 j (by omega)
 ·have η:s.cells.length≤i:=by simpa using η
  refine W.exit rfl ?_;(repeat (first|apply ι|(refine ν fun J I=>?_;simp;(repeat (rw[ζ];simp));apply I;clear I J)));refine W.ret ⟨_,rfl,?_,rfl⟩;exact .of (by rw[zg (f:=fun i=>pq s ((s.cells[i]?).getD [])) fun j ε=>hi.2 j (by omega)];rfl)
def aM.err (s:aM):Int:=if nv s.af≠0 then nv s.af else if nx s.an≠0 then nx s.an else rQ s
theorem GO (s:aM) (ξ:s.small):av Tryz.prog 48 [eP s] (U s.err):=by
 refine ak.body Θ Tryz.func48 rfl rfl Tryz.ntmps48 rfl rfl (by simp) ?_;(repeat (first|apply ι|(refine ν fun J I=>?_;simp;(repeat (rw[ζ];simp));apply I;clear I J)));refine .loop ?_;(repeat (first|apply ι|(refine ν fun J I=>?_;simp;(repeat (rw[ζ];simp));apply I;clear I J)));refine al rfl ?_;(repeat (first|apply ι|(refine ν fun J I=>?_;simp;(repeat (rw[ζ];simp));apply I;clear I J)));(repeat (first|apply ι));refine ν fun J I=>?_;simp;(repeat (rw[ζ];simp));refine av.c (U1 s ξ) (aI.refl _) (by simp) (by simp) ?_;simp;(repeat (rw[ζ];simp));apply I;clear I J;(repeat (first|apply ι|(refine ν fun J I=>?_;simp;(repeat (rw[ζ];simp));apply I;clear I J)));by_cases bI:nv s.af=0
 case neg=>
  refine al (by simp[bI]) ?_;(repeat (first|apply ι|(refine ν fun J I=>?_;simp;(repeat (rw[ζ];simp));apply I;clear I J)));refine W.ret ⟨_,rfl,?_,rfl⟩;exact .of (by rw[show s.err=nv s.af by unfold aM.err;rw[if_pos bI]];rfl)
 refine ah (by simp[bI]) ?_;(repeat (first|apply ι|(refine ν fun J I=>?_;simp;(repeat (rw[ζ];simp[CK]));apply I;clear I J)));refine .inLoop ?_;(repeat (first|apply ι|(refine ν fun J I=>?_;simp;(repeat (rw[ζ];simp));apply I;clear I J)));refine al rfl ?_;(repeat (first|apply ι|(refine ν fun J I=>?_;simp;(repeat (rw[ζ];simp));apply I;clear I J)));(repeat (first|apply ι));refine ν fun J I=>?_;simp;(repeat (rw[ζ];simp));refine av.c (U8 s ξ) (aI.refl _) (by simp) (by simp) ?_;simp;(repeat (rw[ζ];simp));apply I;clear I J;(repeat (first|apply ι|(refine ν fun J I=>?_;simp;(repeat (rw[ζ];simp));apply I;clear I J)));by_cases dc:nx s.an=0
 case neg=>
  refine al (by simp[dc]) ?_;(repeat (first|apply ι|(refine ν fun J I=>?_;simp;(repeat (rw[ζ];simp));apply I;clear I J)));refine W.ret ⟨_,rfl,?_,rfl⟩;exact .of (by rw[show s.err=nx s.an by unfold aM.err;rw[if_neg (by simp[bI]),if_pos dc]];rfl)
 refine ah (by simp[dc]) ?_;(repeat (first|apply ι|(refine ν fun J I=>?_;simp;(repeat (rw[ζ];simp[GF]));apply I;clear I J)));refine .inLoop ?_;(repeat (first|apply ι|(refine ν fun J I=>?_;simp;(repeat (rw[ζ];simp));apply I;clear I J)));refine al rfl ?_;(repeat (first|apply ι|(refine ν fun J I=>?_;simp;(repeat (rw[ζ];simp));apply I;clear I J)));(repeat (first|apply ι));refine ν fun J I=>?_;simp;(repeat (rw[ζ];simp));refine av.c (U9 s ξ) (aI.refl _) (by simp) (by simp) ?_;simp;(repeat (rw[ζ];simp));apply I;clear I J;(repeat (first|apply ι|(refine ν fun J I=>?_;simp;(repeat (rw[ζ];simp));apply I;clear I J)));have e:s.err=rQ s:=by unfold aM.err;rw[if_neg (by simp[bI]),if_neg (by simp[dc])]
 rw[e];by_cases fB:rQ s=0
 case neg=>
  refine al (by simp[fB]) ?_;(repeat (first|apply ι|(refine ν fun J I=>?_;simp;(repeat (rw[ζ];simp));apply I;clear I J)));refine W.ret ⟨_,rfl,?_,rfl⟩;exact .of rfl
 refine ah (by simp[fB]) ?_;(repeat (first|apply ι|(refine ν fun J I=>?_;simp;(repeat (rw[ζ];simp[U7]));apply I;clear I J)));refine .inLoop ?_;(repeat (first|apply ι|(refine ν fun J I=>?_;simp;(repeat (rw[ζ];simp));apply I;clear I J)));refine ah rfl ?_;refine W.exit rfl ?_;(repeat (first|apply ι|(refine ν fun J I=>?_;simp;(repeat (rw[ζ];simp));apply I;clear I J)));refine W.ret ⟨_,rfl,?_,rfl⟩;exact .of (by rw[fB];rfl)
section
variable {P:Program} {T:a7} {A:List Nat} {m nt:Nat} {k:List Item} {env:Χ} {σ:List Row} {Z:List Item→Χ→List Row→Prop} {E:θ→Χ→List Row→Prop}
theorem W.hl (Ζ:bN P T) (env':Χ) (σ':List Row) {id:Nat} {ops:Array Oper} (h:W P m nt k env' σ' Z E) (κ:run P T A nt ops (idx ops.size []) env σ (fun e s=>s=σ'∧∀p∈env',a5 e p.1=p.2) E):W P m nt (.code (.region id ops false)::k) env σ Z E:=
 de Ζ fun J I=>Cj (fun e s ⟨R,γ⟩=>I e s (R▸W.forget env' γ h)) _ _ _ κ
end
def d' (l:List θ):θ:=if l.isEmpty then .sl true 0 [] else .ms 0 l.length 0 l.length
def bq (t:TypeId) (k:Nat) (l:List θ):List Row:=if l.isEmpty then [] else [.cells t k l]
def fq (k:Nat) (l:List θ):θ:=if l.isEmpty then .sl true 0 [] else .sl false k l
theorem ou:d' []=.sl true 0 []:=rfl
theorem iG {t k:Nat}:bq t k []=[]:=rfl
theorem qx {l:List θ} (h:l≠[]):d' l=.ms 0 l.length 0 l.length:=by unfold d';rw[if_neg (by simpa using h)]
theorem ea {t k:Nat} {l:List θ} (h:l≠[]):bq t k l=[.cells t k l]:=by unfold bq;rw[if_neg (by simpa using h)]
theorem wM {l:List θ} {x:θ}:d' (l++[x])=.ms 0 (l.length+1) 0 (l.length+1):=by rw[qx (by simp)];simp
theorem rR {t k:Nat} {l:List θ} {x:θ}:bq t k (l++[x])=[.cells t k (l++[x])]:=ea (by simp)
theorem ey.acc {t k:Nat} {l:List θ} (hb:∀e∈l,∀a∈e.cells,az 0 a):ey 0 (bq t k l) (d' l) (fq k l):=by
 unfold bq d' fq;cases h:l.isEmpty with
 | true=>exact .low (by simp)
 | false=>exact .own (Nat.zero_le _) rfl rfl hb
theorem db.acc {k:Nat} {l:List θ}:db (fq k l) (.sl false k l):=by
 unfold fq;cases h:l.isEmpty with
 | true=>rw[List.isEmpty_iff.1 h];exact .nil
 | false=>exact .refl _
@[simp] theorem gγ {α:Type} {l:List α} {a b:α}:(l++[a]).set l.length b=l++[b]:=by rw[List.set_append_right _ _ (Nat.le_refl _),Nat.sub_self];rfl
@[simp] theorem gδ {t k:Nat} {l:List θ}:az (bq t k l).length (d' l):=by
 unfold d' bq;cases l.isEmpty<;>simp[od]
theorem az.mono {h cP:Nat} {a:θ} (hb:az h a) (aS:h≤cP):az cP a:=by
 induction hb with
 | z v=>exact .z v
 | cp=>exact .cp
 | aa _ Γ=>exact .aa Γ
 | sl _ Γ=>exact .sl Γ
 | aU _ Γ=>exact .aU Γ
 | bt _ Γ=>exact .bt Γ
 | fn _ _ rf lH=>exact .fn rf lH
 | fv _ Γ=>exact .fv Γ
 | ag h=>exact .ag (by omega)
 | ms h=>exact .ms (by omega)
 | mp h=>exact .mp (by omega)
 | it h=>exact .it (by omega)
theorem wN {t k h:Nat} {l:List θ} (hb:∀e∈l,∀a∈e.cells,az 0 a):∀r∈bq t k l,eN h r:=by
 intro r κ;unfold bq at κ;cases ω:l.isEmpty with
 | true=>rw[ω] at κ;simp at κ
 | false=>
  rw[ω] at κ;simp at κ;subst κ;exact fun e he a μ=>(hb e he a μ).mono (Nat.zero_le _)
section
variable {P:Program} {m nt:Nat} {k:List Item} {env:Χ} {Z:List Item→Χ→List Row→Prop} {E:θ→Χ→List Row→Prop}
theorem W.mJ {σ0:List Row} {t:TypeId} {e:θ} {kk:Nat} (hm:m≤σ0.length) (nh:∀r∈σ0,eN σ0.length r) (he:∀a∈e.cells,az σ0.length a) (env':Χ)
  (cC:∀p∈env',(a5 env p.1=p.2∧az σ0.length p.2)∨(a5 env p.1=.ag σ0.length 1 0 0∧p.2=.aa e.cells)) (hW:W P m nt k env' σ0 Z E):W P m nt k env (σ0++[.cells t kk [e]]) Z E:=
 W.fix (t:=t) (kk:=kk) (e:=e) hm (by simp) he (fun id r bU κ=>nh r (by
  rw[dU bU] at κ;exact cl κ)) (by simp) env' cC hW
theorem W.Ma {t kk:Nat} {l:List θ} {d:Nat} (hb:∀e∈l,∀a∈e.cells,az 0 a) (env':Χ) (hd:a5 env d=d' l) (cC:∀p∈env',a5 env p.1=p.2∧az 0 p.2) (hW:W P 0 nt k ((d,fq kk l)::env') [] Z E):W P 0 nt k env (bq t kk l) Z E:=
 W.cut 0 (Nat.zero_le _) ((d,fq kk l)::env') (Nat.zero_le _) (fun id r bU=>by omega) (fun p χ=>by
  rcases List.mem_cons.1 χ with rfl|χ
  ·show ey 0 _ (a5 env d) _;rw[hd];exact .acc hb
  ·rw[(cC p χ).1];exact .low (cC p χ).2) (by simpa using hW)
end
abbrev iH (l:List Int):θ:=.sl true 1 (l.map U)
theorem db.U' {L:List (List Int)}:db (fq 1 (L.map iH)) (aO L):=.trans .acc (.map fun x _=>.one .ex rfl rfl)
theorem Mb {L:List (List Int)}:∀e∈L.map iH,∀a∈e.cells,az 0 a:=by
 intro e he a μ;obtain⟨x,_,rfl⟩:=List.mem_map.1 he;simp[θ.cells] at μ;subst μ;simp
theorem Va (n:Int):av Tryz.prog 51 [U n] (.bt [U (if valid n then CL n else 0),U (if valid n then 0 else 1)]):=by
 refine ak.body Θ Tryz.func51 rfl rfl Tryz.ntmps51 rfl rfl (by simp) ?_;(repeat (first|apply ι|(refine ν fun J I=>?_;simp;(repeat (rw[ζ];simp));apply I;clear I J)));(repeat (first|apply ι));refine ν fun J I=>?_;simp;(repeat (rw[ζ];simp));refine av.c (wF n) (aI.refl _) (by simp) (by simp) ?_;simp;(repeat (rw[ζ];simp));apply I;clear I J;cases b:valid n
 ·refine al rfl ?_;(repeat (first|apply ι|(refine ν fun J I=>?_;simp;(repeat (rw[ζ];simp));apply I;clear I J)));refine W.ret ⟨_,rfl,?_,rfl⟩;exact .of rfl
 ·refine ah rfl ?_;(repeat (first|apply ι));refine ν fun J I=>?_;simp;(repeat (rw[ζ];simp));refine av.c (UB n) (aI.refl _) (by simp) (by simp) ?_;simp;(repeat (rw[ζ];simp));apply I;clear I J;(repeat (first|apply ι|(refine ν fun J I=>?_;simp;(repeat (rw[ζ];simp));apply I;clear I J)));refine W.ret ⟨_,rfl,?_,rfl⟩;exact .of rfl
end Go.TL
